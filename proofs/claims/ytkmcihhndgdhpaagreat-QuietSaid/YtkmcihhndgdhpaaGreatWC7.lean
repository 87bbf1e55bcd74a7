/- Parts of the walk. -/
import Derived.Test.YtkmcihhndgdhpaaGreatWA7
import Derived.Test.YtkmcihhndgdhpaaGreatWC6
set_option maxRecDepth 100000
set_option maxHeartbeats 4000000
set_option linter.unusedSimpArgs false
set_option linter.unusedVariables false
open Go.Maps Go.RowKit Go.Proofs.Tryz
namespace Go.Proofs.YtkmcihhndgdhpaaGreat
variable {w:World}{s:Lo}{t:Stm}{d:Dcl}{C:LC}{x:In}{i e c pa pe:Nat}{f:Nat→Option Stm}{V:LV}{n:Nm}{xs:List Stm}{l:List Dcl}
theorem mMb {p:Prop}(h:p:=by
  go_wp2_with fail;go_quiet (fail);go_wp2_with fail;refine(zb4 _ _ _).mono ?_;rintro e w4 ⟨rfl,rfl⟩;have E9:=HEN.o.below ((zc7 HB6.o nq).alloc (zc7 HB6.o nq).size (.k #[.i 11,.i 0] 323)) yL;refine zjm rfl rfl E9.a E9.e yo ?_;exact zir E9.a E9.e MD.o (zf.new rfl) (ya HEN.o.c.size (zc7 HB6.o nq).size) yL yo E9.c):p:=h
theorem mFc {p:Prop}(h:p:=by
  have E9:=HEN.o.below (HL4.o.qk.trans hch) yL;refine zjm rfl rfl E9.a E9.e yo ?_;exact zir E9.a E9.e (MD.o.trans (by rw[hr,zbh])) hfb (ya HEN.o.c.size (ya HL4.o.qk.size hle)) yL yo E9.c):p:=h
theorem mGc {p:Prop}(h:p:=by
  clear hr hL5 hL4 q0 q1 q2 q3 q4 q5 q6;go_wp2;go_roundg (C.ds.length-(i+1))
  case measure=>have:=HG.o;omega
  case rel=>rw[show((i:Int)+1)=((i+1:Nat):Int) by omega];exact REL.o):p:=h
theorem mMc {p:Prop}(h:p:=by
  go_wp2;go_roundg (d.params.length-(i+1))
  case measure=>have:=HG.o;omega
  case rel=>rw[show((i:Int)+1)=((i+1:Nat):Int) by omega];exact ST2.o):p:=h
theorem mNc {p:Prop}(h:p:=by
  go_wp2_with fail;refine(zb4 _ _ _).mono ?_;rintro e w4 ⟨rfl,rfl⟩;exact⟨rfl,.fault MD2.o (zf.new rfl) HW2.o (HB2.o.alloc HL2.o.qk.size _)⟩):p:=h
attribute [local go_sem] dclV zU
def zo4 (C:LC)(w:World)(s:Lo)(V:LV)(M:Except Flt Unit):Ending->World->Prop:=zap C w M fun _ v w'=>v=.tuple #[]/\LE C w' s V
def zmj (C:LC)(w:World)(s:Lo)(V:LV)(M:Except Flt Unit)(l:List Nm)(mb:Nat)(g:Nat)(iv:Value)(W:World):Prop :=
 ∃ (i:Nat) (seen:NMap),iv=.i i/\g=l.length-i/\i<=l.length/\LE C W s V/\NM W mb seen/\(∀ p ∈ seen,p.2=1)/\Below C.B w W/\M=zff s (l.drop i) i seen
theorem LE.grownFar {w1:World}{mb:Nat}(h:LE C w s V)(hg:w.grownBy w1 (some mb))(hu:¬ Uses C V mb):LE C w1 s V :=
 h.same (h.qk.grown hg h.qk.size (fun k e=>by cases e;exact yaq fun A=>hu (.inl A))) fun k hk _=>hg.block k (h.lt hk) (by rintro e;injection e with e;exact hu (e ▸ hk))
theorem seen_one {m:NMap}{x:ByteArray}(h:∀ p ∈ m,p.2=1):∀ v,mget m x=some v->v=1:=fun _ hv=>h _ (zdd hv)
theorem nlook0 {b:Nat}{m:NMap}(h:NM w b m){x:ByteArray}(hx:nok x) :
  (Instr.lookup 212 (.m b) (.string x) false).run prog w=.ok (match mget m x with | some u=>.int .i64 u | none=>.int .i64 0) w:=by
 have:=h.lookup (t:=212) (e:=3) nkey underlying212 (z:=.i 0) (zeroValue3 w) hx false;rw[this];cases mget m x <;> rfl
theorem zy3 (C:LC)(w:World)(s:Lo)(V:LV)(d:Dcl)(pv bv:Value)(h:LE C w s V)(Z:xp C.w0 C.B0 pv d.params)(hx:(∀ a ∈ d.params,okNm a)/\d.params.length<=701) :
  Calls prog 112 #[.p C.lb,dclV d pv bv] w (zo4 C w s V (zff s d.params 0 [])):=by
 obtain⟨pa,pc,rfl⟩:=zX Z;obtain⟨L,Q⟩:∃ M,M=zff s d.params 0 []:=⟨_,rfl⟩;rw[<- Q];have hu:¬ Uses C V (w.heap.size+1):=h.fresh (ya3 _);have HU:=zH hu;have D:=zH (show ∀ W,W=(w.alloc (.k (zU d (.slice pa d.params.length pc) bv).toArray 223)).alloc (.map #[] 0)->zmj C w s V L d.params (w.heap.size+1) d.params.length (.i 0) W from fun W e=>by
  subst e;refine⟨0,[],rfl,rfl,yD _,(h.alloc _).alloc _,?_,by simp,(((yn C.B w).alloc h.qk.size _).alloc (ya h.qk.size yy) _),by rw[Q];rfl⟩;have:=zG.made (w.alloc (.k (zU d (.slice pa d.params.length pc) bv).toArray 223)) nenc nok ienc;simpa using this)
 have H:=zH h;have HP:=zH Z;have HX:=zH hx;have ai:d.params.length<=701:=hx.2;have ad:=@run_makeMap prog;clear h Z hx Q hu;go_enter func112,ntmps112;go_wp2_with fail;clear ad;have ST:=zH (D.o _ rfl);clear D;go_loopg [11] d.params.length (fun g v11 wr=>zmj C w s V L d.params (w.heap.size+1) g v11 wr)
 case atStart=>exact ST.o
 case round =>
  obtain⟨i,A,rfl,hg,hi,hL,hm,a9,hB,hM⟩:=hrel;have HG:=zH hg;have HL:=zH hL;have HM:=zH hm;have HS:=zH a9;have HB:=zH hB;have MD:=zH hM;clear hg hL hm a9 hB hM;by_cases K:i<d.params.length
  ·obtain⟨n,hn⟩:∃ n,d.params[i]?=some n:=⟨_,yc K⟩;obtain⟨ng,ak,af,ae,a5⟩:=HP.o.form yo;injection af with a6 a7 a8;subst a6;have hq:∀ j,j<4->wr.cell? (.a ng (i*4+j))=(zcn n)[j]? := fun j hj=>by rw[HL.o.qk.cell (p:=(.a ng _)) a5,HP.o.cellAt (i*4+j) yo,zn3 hn j hj]
   have q0:wr.cell? (.a ng (i*4))=some (.string n.text):=hq 0 yo;have q1:wr.cell? (.a ng (i*4+1))=some (.i n.at_):=hq 1 yo;have q2:wr.cell? (.a ng (i*4+2))=some (.bool n.num):=hq 2 yo;have q3:wr.cell? (.a ng (i*4+3))=some (.i n.n):=hq 3 yo;have HN:=zH (zN (HX.o.1 n (yl hn)));have I:=zH (show L=(if s.known n.text||(mget A n.text).isSome then .error ⟨7,n.at_⟩else if i=3 then .error ⟨8,n.at_⟩else zff s (d.params.drop (i+1)) (i+1) (mput A n.text 1)) by rw[MD.o,zae hn,zff]);clear hq hn a7 a8 ae a5;go_wp2_with fail;refine zK (fun W=>LE C W s V/\NM W (w.heap.size+1) A/\Below C.B w W/\Blk W wr.heap.size 220 #[.string n.text,.i n.at_,.bool n.num,.i n.n]) ⟨HL.o.alloc _,HM.o.alloc _,HB.o.alloc (ya HL.o.qk.size yL) _,Blk.newAt rfl⟩ ?_;rintro w1 ⟨O,a3,a0,a2⟩;refine(zet C w1 s V n.text O HN.o).mono ?_;rintro e w2 ⟨rfl,a1,J⟩;have Y:=a3.vh J yy;have R:=a2.vh J yy yy;have HL2:=zH a1;have ab:=zH Y;have HB2:=zH (a0.trans ((Chg.any (B:=C.B) (bs:=[]) J).below O.qk.size));have am:=R.cell;have an:=R.lt;have E:=nlook0 Y HN.o;have HW2:=zH (show w.heap.size<=w2.heap.size from HB2.o.size);clear O a3 a0 a2 a1 J Y R q0 q1 q2 q3;by_cases hk:s.known n.text=true
   ·have HK:=zH hk;have MD2:=zH (show L=.error ⟨7,n.at_⟩ by rw[I.o,yj (by rw[hk];rfl)]);rw[hk];clear hk E;exact mNc
   ·have U:s.known n.text=false:=by simpa using hk
    rw[U];have HK:=zH U;clear hk U;cases hgt:mget A n.text with
    | some u =>
     have ag:=seen_one HS.o u hgt;subst ag;rw[hgt]at E;simp only at E;have MD2:=zH (show L=.error ⟨7,n.at_⟩ by rw[I.o,yj (by rw[hgt];simp)]);clear hgt;exact mNc
    | none =>
     rw[hgt]at E;simp only at E;have MD2:=zH (show L=(if i=3 then .error ⟨8,n.at_⟩else zff s (d.params.drop (i+1)) (i+1) (mput A n.text 1)) by rw[I.o,yg (by rw[hgt,HK.o];simp)]);clear hgt I;by_cases h3:i=3
     ·have ac:((i:Int)==3)=true:=by rw[h3];rfl
      have N:=zH (MD2.o.trans (yj h3));clear h3;go_wp2_with fail;refine(zb4 _ _ _).mono ?_;rintro e w4 ⟨rfl,rfl⟩;exact⟨rfl,.fault N.o (zf.new rfl) HW2.o (HB2.o.alloc HL2.o.qk.size _)⟩
     ·have ac:((i:Int)==3)=false:=zI yo;have N:=zH (MD2.o.trans (yg h3));obtain⟨w3,G,a4,S,ah⟩:=ab.o.update (t:=212) (e:=3) nkey underlying212 HN.o 1;have aj:(Instr.mapUpdate 212 (.m (w.heap.size+1)) (.string n.text) (.i 1)).run prog w2=.ok () w3:=G;clear G;have ST2:=zH (show zmj C w s V L d.params (w.heap.size+1) (d.params.length-(i+1)) (.i ((i+1:Nat):Int)) w3 from
       ⟨i+1,mput A n.text 1,rfl,rfl,K,HL2.o.grownFar S HU.o,a4,fun p Z=>by rcases zf3 Z with rfl | Z;exact rfl;exact HS.o p Z,HB2.o.grown S HL2.o.qk.size (fun k e=>by cases e;exact yaq fun K=>HU.o (.inl K)),N.o⟩)
      clear h3 a4 S ah;exact mMc
  ·have aa:=zH (show zo4 C w s V L (.e) wr from .inl ⟨(),_,by rw[MD.o,ybg yo,zff],rfl,rfl,HL.o⟩);go_wp2_with fail
   first | go_end0 | refine ym (yp rfl _ _ _) rfl ?_
   exact aa.o
section
theorem zn1 {α: Type}(l:List α)(k:Nat)(f:α -> α):(l.modify k f).length=l.length:=ybi _ _ _
theorem zq2:∀ (l:List Fu) (c j:Nat) (u:Fu->Fu) (v:Value),j<5->(∀ f,zal (u f)=(zal f).set j v)->c<l.length->(l.flatMap zal).set (c*5+j) v=(l.modify c u).flatMap zal
 | [],c,j,u,v,_,_,hc=>by simp at hc
 | f::r,0,j,u,v,hj,hu,_=>by
  rw[yax,List.modify_zero_cons,yax,List.set_append_left _ _ (by simp[zal];omega),hu];simp
 | f::r,c+1,j,u,v,hj,hu,hc=>by
  have hl:(zal f).length=5:=rfl;rw[yax,List.modify_succ_cons,yax,yce _ _ (by rw[hl];omega),hl,show(c+1)*5+j-5=c*5+j by omega,zq2 r c j u v hj hu (by simpa using hc)]
section
variable {C:LC} {w:World} {s:Lo} {V:LV}
theorem LE.setF {fg cap j:Nat}(h:LE C w s V)(hfv:V.fsv=.s fg s.fs.length cap)(hc:c<s.fs.length)(u:Fu->Fu)(v:Value)(hu:∀ f,zal (u f)=(zal f).set j v)(I:j<5) :
  LE C (w.setCell (.a fg (c*5+j)) v) { s with fs:=s.fs.modify c u } V:=by
 have E:=h.fr;rw[hfv]at E;obtain⟨cs,H⟩:=zr E (k:=fg) rfl;have J:C.B<=fg:=(E.lt fg rfl).1;have G:∀ {j:Nat} {t:TypeId} {cs':Array Value},Blk w j t cs'->t≠228->j≠fg:=fun I ht=>I.qs H ht;have A:∀ {B e size n':Nat} {v':Value} {ys:List Value},w.ownsRow B e size v' n' ys->e≠228->(w.setCell (.a fg (c*5+j)) v).ownsRow B e size v' n' ys:=fun L K=>zL L H K _ _;have D:∀ {b:Nat} {m:NMap},NM w b m->NM (w.setCell (.a fg (c*5+j)) v) b m:=fun hm=>hm.qi (hm.qf H) _;refine⟨h.c,h.qk.setCell J _,h.l.qi (G h.l yd) _,h.p.qi (G h.p yd) _,D h.vm,D h.mm,D h.fm,fun b hb=>⟨D (h.lm b hb).1,(h.lm b hb).2⟩,?_,A h.cr yd,h.asl,fun j a i ha hi=>A (h.ar j a i ha hi) yd,A h.atr yd,A h.nr yd,A h.gr yd,h.s1,h.s2,h.s3,
  ⟨by rw[ybi];exact h.i.fl,h.i.f5,h.i.al,h.i.nl,h.i.gl,by rw[ybi];exact h.i.fok⟩⟩
 show World.ownsRow _ C.B _ 5 V.fsv (s.fs.modify c u).length ((s.fs.modify c u).flatMap zal);rw[ybi,<- zq2 s.fs c j u v I hu hc,hfv];exact(E.stored (c*5+j) _).1
theorem LE.setFn (h:LE C w s V)(n:Nat):LE C (w.setCell (.a C.lb 6) (.i n)) { s with fn:=n } V:=by
 have hm:∀ {g:Nat} {m:NMap},NM w g m->NM (w.setCell (.a C.lb 6) (.i n)) g m:=fun hm=>hm.qi (hm.qf h.l) _;have A:∀ {B e size n':Nat} {v:Value} {ys:List Value},w.ownsRow B e size v n' ys->e≠214->(w.setCell (.a C.lb 6) (.i n)).ownsRow B e size v n' ys:=fun A D=>zL A h.l D _ _;exact⟨h.c,h.qk.setCell h.c.lb _,(h.l.qe 6 _).cast yy,h.p.qi (h.p.qs h.l yd) _,hm h.vm,hm h.mm,hm h.fm,fun b hb=>⟨hm (h.lm b hb).1,(h.lm b hb).2⟩,A h.fr yd,A h.cr yd,h.asl,fun j a i ha hi=>A (h.ar j a i ha hi) yd,A h.atr yd,A h.nr yd,A h.gr yd,h.s1,h.s2,h.s3,
  ⟨h.i.fl,h.i.f5,h.i.al,h.i.nl,h.i.gl,h.i.fok⟩⟩
theorem LE.newLocs (h:LE C w s V):LE C ((w.alloc (.map #[] 0)).setCell (.a C.lb 5) (.m w.heap.size)) { s with qc:=[] } { V with lm:=some w.heap.size }:=by
 have h1:=h.alloc (.map #[] 0);have hm:∀ {g:Nat} {m:NMap},NM w g m->NM ((w.alloc (.map #[] 0)).setCell (.a C.lb 5) (.m w.heap.size)) g m:=fun hm=>(hm.alloc _).qi (hm.qf h.l) _;have A:∀ {B e size n':Nat} {v:Value} {ys:List Value},w.ownsRow B e size v n' ys->e≠214->((w.alloc (.map #[] 0)).setCell (.a C.lb 5) (.m w.heap.size)).ownsRow B e size v n' ys:=fun A E=>zL (A.alloc _) h1.l E _ _;have hf:∀ {k:Nat},Uses C V k->w.heap.size≠k:=fun hu e=>by have:=h.lt hu;omega
 have G:=h.qk.size;refine⟨h.c,(h.qk.alloc h.qk.size _).setCell h.c.lb _,(h1.l.qe 5 _).cast yy,h1.p.qi (h1.p.qs h1.l yd) _,hm h.vm,hm h.mm,hm h.fm,?_,A h.fr yd,A h.cr yd,h.asl,fun j a i D hi=>A (h.ar j a i D hi) yd,A h.atr yd,A h.nr yd,A h.gr yd,h.s1,h.s2,h.s3,
  ⟨h.i.fl,h.i.f5,h.i.al,h.i.nl,h.i.gl,h.i.fok⟩⟩
 intro b hb;injection hb with hb;subst hb;refine⟨(zG.made w nenc nok ienc).qi (hf (.inr (.inl rfl))) _,G,hf (r3 (.inl rfl)),hf (r4 (.inl rfl)),hf (r5 (.inl rfl))⟩
theorem LE.fstore {j:Nat}(h:LE C w s V)(hc:c<s.fs.length)(h2:2<=j)(hj:j<5):∃ (fg fcap:Nat) (H:Option Addr) (I:Nat) (x:Int),
  (∀ i,w.cell? (.a C.lb i)=#[.p C.pb,.p C.tb,.m C.vb,.m C.mb,.m C.fb,.map V.lm,.i s.fn][i]?) /\
  (∀ i,w.cell? (.a C.pb i)=#[.p C.tb,.i s.nv,.i s.nm,.s fg s.fs.length fcap,.slice H s.code.length I,V.av,V.nv,V.gv,.i 0][i]?) /\
  (∀ i,w.frozen? (.a C.lb i)=false)/\(∀ i,w.frozen? (.a C.pb i)=false)/\C.lb<w.heap.size/\C.pb<w.heap.size/\C.lb≠C.pb /\
  w.cell? (.a fg (c*5+j))=some (.i x)/\w.frozen? (.a fg (c*5+j))=false/\C.lb≠fg/\C.pb≠fg/\fg<w.heap.size/\c<s.fs.length/\s.fs.length<=5/\C.B<=fg /\
  (∃ cs,Blk w fg 228 cs) /\
  (∀ (u:Fu->Fu) (v:Value),(∀ f,zal (u f)=(zal f).set j v)->LE C (w.setCell (.a fg (c*5+j)) v) { s with fs:=s.fs.modify c u } V):=by
 obtain⟨hl,U,N,O,Q,R,S⟩:=h.cells;obtain⟨fg,fcap,G,K,L⟩:=h.fr.form (yag yZ hc);obtain⟨H,I,J⟩:=zX h.cr;rw[G,J]at U;have A:=h.fr;rw[G]at A;obtain⟨cs,E⟩:=zr A (k:=fg) rfl;have hf:s.fs[c]?=some s.fs[c]:=yc hc;have D:∃ x:Int,w.cell? (.a fg (c*5+j))=some (.i x):=by
  rw[A.cellAt (c*5+j) yo,zjt hf j hj];obtain rfl | rfl | rfl:j=2\/j=3\/j=4:=yo
  ·exact⟨_,rfl⟩
  ·exact⟨_,rfl⟩
  ·exact⟨_,rfl⟩
 obtain⟨x,hx⟩:=D;exact⟨fg,fcap,H,I,x,hl,U,N,O,Q,R,S,hx,A.frozenAt _,h.l.qs E yd,h.p.qs E yd,L,hc,by rw[h.i.fl];exact h.i.f5,K,⟨cs,E⟩,fun u v hu=>h.setF G hc u v hu hj⟩
end
structure z9 (s s':Lo):Prop where
 vars:s'.vars=s.vars
 qu:s'.qu=s.qu
 qm:s'.qm=s.qm
 fs:s'.fs=s.fs
 fn:s'.fn=s.fn
 nv:s'.nv=s.nv
 nm:s'.nm=s.nm
section
variable {s s1 s2:Lo}
theorem z9.refl (s:Lo):z9 s s:=⟨rfl,rfl,rfl,rfl,rfl,rfl,rfl⟩
theorem z9.trans (h:z9 s s1)(k:z9 s1 s2):z9 s s2:=⟨k.vars.trans h.vars,k.qu.trans h.qu,k.qm.trans h.qm,k.fs.trans h.fs,k.fn.trans h.fn,k.nv.trans h.nv,k.nm.trans h.nm⟩
theorem z9.emit (h:z9 s s1)(x:In):z9 s (s1.emit x):=⟨h.vars,h.qu,h.qm,h.fs,h.fn,h.nv,h.nm⟩
theorem z9.patch (h:z9 s s1)(k:Nat):z9 s (s1.patch k):=⟨h.vars,h.qu,h.qm,h.fs,h.fn,h.nv,h.nm⟩
theorem z9.note (s:Lo)(p a:Nat):z9 s (s.note p a):=⟨rfl,rfl,rfl,rfl,rfl,rfl,rfl⟩
theorem zj3 {p:Nat×Lo}(h:xr s n=.ok p):z9 s p.2:=by rw[zfa h];exact⟨rfl,rfl,rfl,rfl,rfl,rfl,rfl⟩
theorem ze4 {p:Ar×Lo}(h:argM s n=.ok p):z9 s p.2:=by rw[zd3 h];exact⟨rfl,rfl,rfl,rfl,rfl,rfl,rfl⟩
theorem zpn:∀ (l:List Nm) {s:Lo} {p:List Ar×Lo},zbd s l=.ok p->z9 s p.2
 | [],s,p,h=>by rw[zbd]at h;injection h with h;subst h;exact .refl _
 | n::r,s,p,h=>by
  rw[zbd]at h;obtain⟨q,h1,h2⟩:=zD h;obtain⟨u,h3,h4⟩:=zD h2;injection h4 with h4;subst h4;exact(ze4 h1).trans (show z9 q.2 u.2 from zpn r h3)
theorem zp5 {p:In×Lo}(h:zbe s t x=.ok p):z9 s p.2:=by
 unfold zbe at h;split at h
 ·cases h
 ·split at h
  ·obtain⟨q,h1,h2⟩:=zD h;injection h2 with h2;subst h2;exact zpn _ h1
  ·cases h
theorem zrx {p:In×Lo}(h:xt s t x=.ok p):z9 s p.2:=by
 unfold xt at h;split at h
 ·split at h
  ·cases h
  ·injection h with h;subst h;exact⟨rfl,rfl,rfl,rfl,rfl,rfl,rfl⟩
 ·split at h
  ·split at h
   ·cases h
   ·have:=zp5 h;exact⟨this.vars,this.qu,this.qm,this.fs,this.fn,this.nv,this.nm⟩
  ·split at h
   ·exact zp5 h
   ·obtain⟨q,h1,h2⟩:=zD h;injection h2 with h2;subst h2;exact ze4 h1
theorem z0d (h:setM s t x=.ok s1):z9 s s1:=by
 unfold setM at h;split at h
 ·split at h
  ·obtain⟨q,h1,h2⟩:=zD h;injection h2 with h2;subst h2;exact(ze4 h1).emit _
  ·cases h
 ·obtain⟨q,h1,h2⟩:=zD h;split at h2
  ·injection h2 with h2;subst h2;exact(zj3 h1).emit _
  ·obtain⟨r,h3,h4⟩:=zD h2;split at h4
   ·injection h4 with h4;subst h4;exact((zj3 h1).trans (ze4 h3)).emit _
   ·obtain⟨u,h5,h6⟩:=zD h4;injection h6 with h6;subst h6;exact(((zj3 h1).trans (ze4 h3)).trans (ze4 h5)).emit _
theorem zvz {block:Lo->List Nat->Except Flt Lo}(hb:∀ s l s',block s l=.ok s'->z9 s s')(h:zbz block s t x=.ok s1):z9 s s1:=by
 unfold zbz at h;obtain⟨p,h1,h2⟩:=zD h;obtain⟨q,h3,h4⟩:=zD h2;have k:=((ze4 h1).emit { x with y:=p.1 }).trans (hb _ _ _ h3);split at h4
 ·injection h4 with h4;subst h4;exact(k.emit _).patch _
 ·split at h4
  ·obtain⟨r,h5,h6⟩:=zD h4;injection h6 with h6;subst h6;exact(((k.emit _).patch _).trans (hb _ _ _ h5)).patch _
  ·injection h4 with h4;subst h4;exact k.patch _
theorem zzc (h:zhq s t x=.ok s1):z9 s s1:=by
 unfold zhq at h;split at h
 ·split at h
  ·injection h with h;subst h;exact(z9.refl _).emit _
  ·cases h
 ·split at h
  ·obtain⟨p,h1,h2⟩:=zD h;injection h2 with h2;subst h2;exact(ze4 h1).emit _
  ·split at h
   ·split at h
    ·obtain⟨p,h1,h2⟩:=zD h;injection h2 with h2;subst h2;exact(ze4 h1).emit _
    ·injection h with h;subst h;exact(z9.refl _).emit _
   ·split at h
    ·obtain⟨p,h1,h2⟩:=zD h;obtain⟨q,h3,h4⟩:=zD h2;injection h4 with h4;subst h4;exact((zj3 h1).trans (ze4 h3)).emit _
    ·split at h
     ·obtain⟨p,h1,h2⟩:=zD h;injection h2 with h2;subst h2;exact(zrx h1).emit _
     ·obtain⟨p,h1,h2⟩:=zD h;obtain⟨q,h3,h4⟩:=zD h2;injection h4 with h4;subst h4;exact((zj3 h1).trans (zrx h3)).emit _
theorem z0u {block:Lo->List Nat->Except Flt Lo}(hb:∀ s l s',block s l=.ok s'->z9 s s'){pl:Nat}(h:zcf block s t pl=.ok s1):z9 s s1:=by
 unfold zcf at h;split at h
 ·cases h
 ·split at h
  ·exact(z9.note _ _ _).trans (z0d h)
  ·split at h
   ·exact(z9.note _ _ _).trans (zvz hb h)
   ·exact(z9.note _ _ _).trans (zzc h)
end
theorem zk3 {xs:List Stm}:∀ (n:Nat) (s:Lo) (l:List Nat) (s':Lo),zd xs n s l=.ok s'->z9 s s'
 | 0,s,l,s',h=>by rw[zd]at h;cases h
 | n+1,s,[],s',h=>by rw[zd]at h;injection h with h;subst h;exact .refl _
 | n+1,s,k::r,s',h=>by
  rw[zd]at h;split at h
  ·obtain⟨s2,h1,h2⟩:=zD h;exact(z0u (zk3 n) h1).trans (zk3 n _ _ _ h2)
  ·cases h
end
attribute [local go_sem] dclV zU insV zV
def BodyPost (C:LC)(M:Except Flt Lo):Ending->World->Prop:=zmf C M fun s' v w'=>v=.tuple #[]/\∃ V',LE C w' s' V'
def zmd (C:LC)(s:Lo)(V:LV)(d:Dcl)(pv bv:Value)(db:Nat)(g:Nat)(iv:Value)(W:World):Prop :=
 ∃ (i:Nat),iv=.i i/\g=d.params.length-i/\i<=d.params.length/\LE C W { s with qc:=zdz (d.params.take i) } V/\Blk W db 223 (zU d pv bv).toArray
theorem zy2 {l:List Nm}(h:l[i]?=some n):zdz (l.take (i+1))=mput (zdz (l.take i)) n.text (zdz (l.take i)).length:=by
 unfold zdz;rw[yam,h];simp[List.foldl_append]
def fuFrom (n:Nat)(f:Fu):Fu:=⟨f.name,f.params,f.locals,n,f.5⟩
def fuTo (n:Nat)(f:Fu):Fu:=⟨f.name,f.params,f.locals,f.from_,n⟩
def zq3 (n:Nat)(f:Fu):Fu:=⟨f.name,f.params,n,f.from_,f.5⟩
theorem end_eq (s:Lo)(c:Nat):s.end_ c={ ({ s with fs:=s.fs.modify c (fuTo s.code.length) }:Lo)with fs:=(s.fs.modify c (fuTo s.code.length)).modify c (zq3 s.qc.length) }:=by
 unfold Lo.end_;rw[List.modify_modify_eq];rfl
theorem body_any (C:LC)(w:World)(s:Lo)(V:LV)(d:Dcl)(pv bv:Value)(c k m:Nat)(h:LE C w s V)(hp0:xp C.w0 C.B0 pv d.params)(hb0:zz C.w0 C.B0 bv d.body)(hx:(∀ a ∈ d.params,okNm a)/\d.params.length<=701)
  (hsp:zc (fun j=>C.xs[j]?) d.body k m) (hm:m<=C.xs.length) (hc:c<s.fs.length) (hcl:s.code.length+2+3*(m-k)<=90000) :
  Calls prog 113 #[.p C.lb,dclV d pv bv,.i c] w (BodyPost C (zig C.xs s d c)):=by
 obtain⟨pa,S,rfl⟩:=zX hp0;obtain⟨M0,ab⟩:∃ M,M=zig C.xs s d c:=⟨_,rfl⟩;rw[<- ab];have b5:=zH ab;obtain⟨R,ac⟩:∃ R:LV,R={ V with lm:=some (w.heap.size+1) }:=⟨_,rfl⟩;have af:=zH (show ∀ W,W=(((w.setCell (.a C.lb 6) (.i c)).setCell (.a C.lb 5) (.m (w.heap.size+1))).alloc (.k (zU d (.slice pa d.params.length S) bv).toArray 223)).alloc (.map #[] 0) ->
   LE C W { s with fn:=c,qc:=[] } R/\Blk W w.heap.size 223 (zU d (.slice pa d.params.length S) bv).toArray from fun W e=>by
  subst e;rw[ac];have h1:=(h.alloc (.k (zU d (.slice pa d.params.length S) bv).toArray 223)).setFn c;have h2:=h1.newLocs;have hz:((w.alloc (.k (zU d (.slice pa d.params.length S) bv).toArray 223)).setCell (.a C.lb 6) (.i c)).heap.size=w.heap.size+1:=by simp[World.setCell]
  rw[hz]at h2;have N:w.heap.size≠C.lb:=fun e=>by have:=h.l.lt;omega
  have Q:=h.l.lt;have h3:=(((Blk.new w 223 (zU d (.slice pa d.params.length S) bv).toArray).qi (p:=(.a C.lb 6)) N (.i c)).alloc (.map #[] 0)).qi (p:=(.a C.lb 5)) N (.m (w.heap.size+1));have e1:(((w.alloc (.k (zU d (.slice pa d.params.length S) bv).toArray 223)).setCell (.a C.lb 6) (.i c)).alloc (.map #[] 0)).setCell (.a C.lb 5) (.m (w.heap.size+1))=(((w.setCell (.a C.lb 6) (.i c)).setCell (.a C.lb 5) (.m (w.heap.size+1))).alloc (.k (zU d (.slice pa d.params.length S) bv).toArray 223)).alloc (.map #[] 0):=by
   rw[yc3 _ _ _ _ Q,yc3 _ _ _ _ (by simp[World.setCell];omega),yc3 _ _ _ _ (by simpa [World.setCell] using Q)]
  rw[e1]at h2 h3;exact⟨h2,h3⟩)
 have aa:=zH ac;clear ac;have H:=zH h;have HP:=zH hp0;have HB:=zH hb0;have HX:=zH hx;have ae:=zH hsp;have Z:d.params.length<=701:=hx.2;have A:C.lb<w.heap.size:=h.l.lt;have bm:=h.l.frozen;have bi:=h.l.cell;have a0:=@run_makeMap prog;have LN:=zH hcl;have CN:=zH hc;have MN:=zH hm;clear h hp0 hb0 hx ab hsp hcl hc hm;go_enter func113,ntmps113;go_wp2_with fail;clear a0;refine xh (fun W=>LE C W { s with fn:=c,qc:=[] } R/\Blk W w.heap.size 223 (zU d (.slice pa d.params.length S) bv).toArray) (af.o _ rfl) ?_;rintro w1 ⟨Y,hD⟩;have ST:=zH (show zmd C { s with fn:=c } R d (.slice pa d.params.length S) bv w.heap.size d.params.length (.i 0) w1 from⟨0,rfl,rfl,yD _,Y,hD⟩);clear Y hD A bm bi af;go_loopg [19] d.params.length (fun g v19 wr=>zmd C { s with fn:=c } R d (.slice pa d.params.length S) bv w.heap.size g v19 wr)
 case atStart=>exact ST.o
 case round =>
  obtain⟨i,rfl,hg,hi,Y,hD⟩:=hrel;have HG:=zH hg;have HL:=zH Y;have HD:=zH hD;obtain⟨hl,hp,D,G,A,E,_⟩:=Y.cells;clear hg Y hD hp G;by_cases Q:i<d.params.length
  ·obtain⟨n,hn⟩:∃ n,d.params[i]?=some n:=⟨_,yc Q⟩;obtain⟨ng,bz,bo,bn,O⟩:=HP.o.form yo;injection bo with aw ax ay;subst aw;have hq:∀ j,j<4->wr.cell? (.a ng (i*4+j))=(zcn n)[j]? := fun j hj=>by rw[HL.o.qk.cell (p:=(.a ng _)) O,HP.o.cellAt (i*4+j) yo,zn3 hn j hj]
   have q0:wr.cell? (.a ng (i*4))=some (.string n.text):=hq 0 yo;have q1:wr.cell? (.a ng (i*4+1))=some (.i n.at_):=hq 1 yo;have q2:wr.cell? (.a ng (i*4+2))=some (.bool n.num):=hq 2 yo;have q3:wr.cell? (.a ng (i*4+3))=some (.i n.n):=hq 3 yo;have HN:=zH (zN (HX.o.1 n (yl hn)));have b6:=zH (zy2 hn);clear hq hn ax ay bn O;go_upto_region 6 with fail
   refine xh (fun W=>LE C W { s with fn:=c,qc:=zdz (d.params.take i) } R/\Blk W w.heap.size 223 (zU d (.s ng d.params.length S) bv).toArray/\Blk W wr.heap.size 220 #[.string n.text,.i n.at_,.bool n.num,.i n.n]) ⟨HL.o.alloc _,HD.o.alloc _,Blk.newAt rfl⟩ ?_;rintro W ⟨Y,hD,hN⟩;clear hl D A E q0 q1 q2 q3;obtain⟨hl,hp,D,G,A,E,_⟩:=Y.cells;have hmb:R.lm=some (w.heap.size+1):=by rw[aa.o]
   have a0:=(Y.lm _ hmb).1;rw[hmb]at hl;have au:=hN.cell;have Z:(Builtin.len_ #[212] 3 #[.m (w.heap.size+1)]).run prog W.drew=.ok (.i (zdz (d.params.take i)).length) W.drew:=nlen a0.drew;obtain⟨w3,a1,aq,ad,bp⟩:=(a0.drew).update (t:=212) (e:=3) nkey underlying212 HN.o (zdz (d.params.take i)).length;have az:(Instr.mapUpdate 212 (.m (w.heap.size+1)) (.string n.text) (.i ((zdz (d.params.take i)).length:Int))).run prog W.drew=.ok () w3:=a1;have J:=Y.drew.qc hmb aq ad;rw[<- b6.o]at J;have ST2:=zH (show zmd C { s with fn:=c } R d (.s ng d.params.length S) bv w.heap.size (d.params.length-(i+1)) (.i ((i+1:Nat):Int)) w3 from
    ⟨i+1,rfl,rfl,Q,J,hD.drew.grown ad (fun e=>a0.qf hD (by injection e with e;exact e.symm))⟩)
   clear a1 aq ad bp J Y hD hN hp D G E;refine zh2 11 (fun w'=>w'.cell? (.a C.lb 5)=some (.m (w.heap.size+1))/\(∀ j,w'.cell? (.a wr.heap.size j)=#[.string n.text,.i n.at_,.bool n.num,.i n.n][j]?)/\(Builtin.len_ #[212] 3 #[.m (w.heap.size+1)]).run prog w'=.ok (.i (zdz (d.params.take i)).length) w') yk rfl rfl yk ?_;simp only[yM,yY];have U:W.drew.cell? (.a C.lb 5)=some (.m (w.heap.size+1))/\(∀ j,W.drew.cell? (.a wr.heap.size j)=#[.string n.text,.i n.at_,.bool n.num,.i n.n][j]?)/\(Builtin.len_ #[212] 3 #[.m (w.heap.size+1)]).run prog W.drew=.ok (.i (zdz (d.params.take i)).length) W.drew:=⟨by simp[hl],au,Z⟩
   iterate 11(refine tK 0 rfl U ?_)
   refine lst rfl fun K hK=>?_;go_simp;refine hK _ _ ?_;clear hK K U az Z au hl A;exact mMc
  ·obtain rfl:i=d.params.length:=yo;have ak:LE C wr { s with fn:=c,qc:=zdz d.params } R:=by have:=HL.o;rw[yaz]at this;exact this
   have H1:=zH ak;have am:=zH (show M0=zB (zd C.xs (C.xs.length+2) (s.begin_ d c) d.body) fun s2=>.ok ((s2.emit zee).end_ c)from b5.o);clear HL Q hi hl D A E ak;obtain⟨fg,fcap,ca,cc,x0,hl,hp,D,G,A,E,N,a5,a6,O,a8,a7,c8,a3,a4,⟨c6,L⟩,I⟩:=H1.o.fstore CN.o (j:=3) yo yo;have an:=HD.o.lt;have a2:=HD.o.cell;have ao:w.heap.size≠fg:=HD.o.qs L yd;have c0:=zH L;have LP:=zH (I (fuFrom s.code.length) (.i s.code.length) (fun _=>rfl));clear L I;go_wp2_with fail;go_region;go_wp2_with fail;refine zK (fun W=>LE C W (s.begin_ d c) R) LP.o.drew ?_;intro w2 ah;have H2:=zH ah;clear ah hl hp D G A E N a5 a6 O a8 a7 a3 a4 an a2 ao;refine(zvw C (m-k) w2 (s.begin_ d c) R (w.heap.size+1) bv d.body k m (C.xs.length+2) (by rw[aa.o]) H2.o HB.o ae.o yL (yq MN.o) (by have:=LN.o;show s.code.length+_<=_;omega)).mono ?_;rintro e w3 (⟨s3,v,hr,rfl,rfl,V3,J,b1⟩ | ⟨f,g,hr,rfl,bh,bj,bg⟩);rotate_left
   ·exact⟨rfl,.inr ⟨f,g,am.o.trans (by rw[hr,zbh]),rfl,bh,bj,bg⟩⟩
   have b9:=zH (show M0=.ok ((s3.emit zee).end_ c)from am.o.trans (by rw[hr,zF]));have H3:=zH J;have bb:=zH (show V3.lm=some (w.heap.size+1)from b1.trans (by rw[aa.o]));have a9:=zH (show s3.fs.length=s.fs.length by rw[(zk3 _ _ _ _ hr).fs];exact ybi _ _ _);have b3:=zH (ze5 _ ae.o hr);obtain⟨hl,hp,D,G,A,E,_⟩:=J.cells;clear hr J b1;go_wp2_with fail;refine(zbu C w3 s3 V3 zee (.z) H3.o (by have:=b3.o;have:=LN.o;have h0:(s.begin_ d c).code.length=s.code.length:=rfl;omega) yN).mono ?_;rintro e w4 ⟨rfl,V4,ai,b2⟩;have H4:=zH ai;have ag:=zH (b2.trans bb.o);clear ai b2 hl hp D G A E;obtain⟨c7,bd,c2,c4,x4,hl,hp,D,G,A,E,N,a5,a6,O,a8,a7,c9,a3,a4,⟨bq,L⟩,I⟩:=H4.o.fstore (c:=c) (by have:=a9.o;have:=CN.o;show c<s3.fs.length;omega) (j:=4) yo yo;have b7:=zH (I (fuTo (s3.emit zee).code.length) (.i ((s3.emit zee).code.length:Int)) (fun _=>rfl));clear L I;go_wp2_with fail;go_region;go_wp2_with fail;refine xh (fun W=>LE C W { s3.emit zee with fs:=(s3.emit zee).fs.modify c (fuTo (s3.emit zee).code.length) } V4) b7.o.drew ?_;intro w5 aj;have H5:=zH aj;clear aj hl hp D G A E N a5 a6 O a8 a7 a3 a4;obtain⟨bf,be,c3,c5,x5,hl,hp,D,G,A,E,N,a5,a6,O,a8,a7,cd,a3,a4,⟨br,L⟩,I⟩:=H5.o.fstore (c:=c) (by rw[zn1];have:=a9.o;have:=CN.o;show c<s3.fs.length;omega) (j:=2) yo yo;have b8:=zH (I (zq3 s3.qc.length) (.i s3.qc.length) (fun _=>rfl));rw[ag.o]at hl;have ap:=(H5.o.lm _ ag.o).1;have bk:(Builtin.len_ #[212] 3 #[.m (w.heap.size+1)]).run prog w5.drew=.ok (.i s3.qc.length) w5.drew:=nlen ap.drew;clear L I ap;have bu:c<s3.fs.length:=by have:=a9.o;have:=CN.o;omega
   go_region;have b4:=zH (show LE C (w5.drew.setCell (.a bf (c*5+2)) (.i s3.qc.length)) ((s3.emit zee).end_ c) V4 from by
    rw[end_eq];exact b8.o.drew)
   all_goals (first | go_end0 | refine ym (yp rfl _ _ _) rfl ?_)
   all_goals exact .inl ⟨_,_,b9.o,rfl,rfl,V4,b4.o⟩
theorem zqj {t:ByteArray}:∀ (n:Nat) {s:Sc} {k:Nat} {p:List Dcl×List Stm},zb0 t n s k=.ok p->s.at_<=t.size->s.at_+(p.1.length+p.2.length)<=t.size
 | 0,s,k,p,h,hs=>by rw[zb0]at h;cases h
 | n+1,s,k,p,h,hs=>by
  rw[zb0]at h;split at h
  ·injection h with h;subst h;simpa using hs
  ·obtain⟨q,h1,h2⟩:=zD h;obtain⟨r,h3,h4⟩:=zD h2;injection h4 with h4;subst h4;obtain⟨A,D⟩:=zqh h1 hs;have:=zqj n h3 A;simp only[yai,yx];omega
theorem zy4 {t:ByteArray}{p:List Dcl×List Stm}(h:zc1 t=.ok p):p.1.length+p.2.length<=700:=by
 unfold zc1 at h;split at h
 ·cases h
 ·obtain⟨s,h1,h2⟩:=zD h;have a:=(za8 h1 yZ).1;have:=zqj _ h2 a;omega
def cntF (l:List Dcl):Nat:=(l.filter fun d=>decide (d.kind=102)).length
theorem zm0 (d:Dcl)(l:List Dcl):cntF (d::l)=(if d.kind=102 then 1 else 0)+cntF l:=by
 unfold cntF;rw[ybh];by_cases h:d.kind=102 <;> simp[h] <;> omega
theorem zm1 (d:Dcl)(l:List Dcl):cntF (l++[d])=cntF l+(if d.kind=102 then 1 else 0):=by
 unfold cntF;rw[yb7,yx];congr 1;by_cases h:d.kind=102 <;> simp[h]
theorem zt0 {α: Type}{l:List α}{d:α}(h:l[i]?=some d):l.take (i+1)=l.take i++[d]:=by rw[yam,h];rfl
theorem zqi {s':Lo}(h:zab s d=.ok s'):s'.code=s.code/\s'.fs.length=s.fs.length+(if d.kind=102 then 1 else 0)\/(d.kind≠118/\d.kind≠109/\d.kind≠102):=by
 unfold zab at h;split at h
 ·cases h
 ·split at h
  ·rename_i A;split at h
   ·cases h
   ·injection h with h;subst h;left;rw[A];exact⟨rfl,rfl⟩
  ·split at h
   ·rename_i A;split at h
    ·cases h
    ·injection h with h;subst h;left;rw[A];exact⟨rfl,rfl⟩
   ·split at h
    ·cases h
    ·rename_i h1 h2 _;injection h with h;subst h;by_cases A:d.kind=102
     ·left;rw[yj A];exact⟨rfl,by simp⟩
     ·right;exact⟨h1,h2,A⟩
theorem bodyM_ok {s':Lo}{k m:Nat}(h:zig xs s d c=.ok s')(hsp:zc (fun j=>xs[j]?) d.body k m) :
  s'.qm=s.qm/\s'.fs.length=s.fs.length/\s'.code.length<=s.code.length+3*(m-k)+1:=by
 unfold zig at h;obtain⟨s2,h1,h2⟩:=zD h;injection h2 with h2;subst h2;have a:=zk3 _ _ _ _ h1;have b:=ze5 _ hsp h1;refine⟨a.qm,?_,?_⟩
 ·show((s2.emit zee).fs.modify c _).length=_;rw[zn1];show s2.fs.length=_;rw[a.fs];exact zn1 _ _ _
 ·show(s2.emit zee).code.length<=_;rw[zaf];exact Nat.succ_le_succ b
def prOf (C:LC)(s:Lo)(m:Nat):Pr:={ ds:=C.ds,xs:=C.xs,nv:=s.nv,nm:=s.nm,fs:=s.fs,code:=s.code,at_:=s.at_,news:=s.news,qg:=s.qg,main:=m }
theorem LE.prog {B m:Nat}{t:ByteArray}{u u':Value}{xa xe:Array Value}(h:LE C w s V)(hB:B<=C.B0)(hB0:C.B0<=C.B)(ha:Blk w pa 158 xa)(he:Blk w pe 78 xe)(hM:z8 t=.ok (prOf C s m)) :
  zc3 (((w.setCell (.a C.pb 8) (.i m)).setCell (.a pa 0) u).setCell (.a pe 0) u') B C.pb (prOf C s m) ⟨C.tb,V.fsv,V.cv,V.av,V.nv,V.gv,V.ags⟩:=by
 have E:=ha.qi (p:=(.a C.pb 8)) (ha.qs h.p yd) (.i m);have G:=he.qi (p:=(.a C.pb 8)) (he.qs h.p yd) (.i m);have H:=G.qi (p:=(.a pa 0)) (G.qs E yd) u;have D:∀ {B e size n':Nat} {v:Value} {ys:List Value},w.ownsRow B e size v n' ys->e≠211->e≠158->e≠78->(((w.setCell (.a C.pb 8) (.i m)).setCell (.a pa 0) u).setCell (.a pe 0) u').ownsRow B e size v n' ys:=fun D h1 h2 h3=>zL (zL (zL D h.p h1 _ _) E h2 _ _) H h3 _ _;have low:∀ {B' e size n':Nat} {v:Value} {ys:List Value} {w:World},w.ownsRow B' e size v n' ys->B<=B'->w.ownsRow B e size v n' ys:=fun D hb=>zm D hb;have A:B<=C.B:=ya hB hB0;have ht:zci w C.B0 C.tb C.ds C.xs:=h.c.tree.vj h.qk yL;refine⟨ya A h.c.pb,⟨t,hM⟩,?_,(((h.p.qe 8 _).qi (h.p.qs ha yd) _).qi (h.p.qs he yd) _).cast (by simp[zoa,prOf]),low (D h.fr yd yd yd) A,low (D h.cr yd yd yd) A,h.asl,fun k a i h1 h2=>low (D (h.ar k a i h1 h2) yd yd yd) A,low (D h.atr yd yd yd) A,low (D h.nr yd yd yd) A,low (D h.gr yd yd yd) A⟩;exact(((ht.farT h.p yd yd yd yd yd yd _ _).farT E yd yd yd yd yd yd _ _).farT H yd yd yd yd yd yd _ _).low0 hB
theorem zir {w1:World}{t:ByteArray}{f:Flt}{b:Nat}{xa ye:Array Value}{u v:Value}(ha:Blk w1 pa 158 xa)(he:Blk w1 pe 78 ye)
  (hM:z8 t=.error f) (hf:zf w1 b f) (hb:w.heap.size<=b) (hpa:w.heap.size<=pa) (hpe:w.heap.size<=pe) (hc:Below w.heap.size w w1) :
  zh5 w t (.r (.tuple #[.pointer none,.iface 206 (.p b)])) ((w1.setCell (.a pa 0) u).setCell (.a pe 0) v) :=
 .inr ⟨f,b,hM,rfl,(Blk.qi hf (p:=(.a pa 0)) (Blk.qs hf ha yd) u).qi (p:=(.a pe 0)) (Blk.qs hf he yd) v,hb,(hc.setCell (by exact hpa) _).setCell (by exact hpe) _⟩
theorem zwy {tmps:Array Value}{R:Ending->World->Prop}{x y:Value}(h2:tmps[2]?.getD undef=.p pa)(h3:tmps[3]?.getD undef=.p pe)
  (ha:Blk w pa 158 #[x]) (he:Blk w pe 78 #[y]) (hR:R (.r (.tuple #[x,y])) w):Leaves prog Tryz.f69 tmps R [] .returning w:=by
 have c1:=ha.cell 0;have A:=he.cell 0;refine⟨_,?_,hR⟩;simp at c1 A;simp[results,results69,go_sem,h2,h3,c1,A]
structure WEnv (w:World)(W:World):Prop where
 a:Blk W w.heap.size 158 #[.pointer none]
 e:Blk W (w.heap.size+1) 78 #[.nilIface]
 c:Below w.heap.size w W
theorem WEnv.below {W W1:World}{N:Nat}(h:WEnv w W)(hb:Below N W W1)(hN:W.heap.size<=N):WEnv w W1:=by
 have h1:=h.a.lt;have h2:=h.e.lt;exact⟨h.a.below hb yo,h.e.below hb yo,h.c.trans (hb.mono (ya h.c.size hN))⟩
def lcOf (w0:World)(B0 tb:Nat)(ds:List Dcl)(xs:List Stm):LC :=
 { w0:=w0,B0:=B0,tb:=tb,ds:=ds,xs:=xs,lb:=w0.heap.size+4,pb:=w0.heap.size,vb:=w0.heap.size+1,mb:=w0.heap.size+2,fb:=w0.heap.size+3 }
def V00:LV:=⟨none,.z,.z,.z,.z,.z,[]⟩
theorem le_start {w0:World}{B0 tb:Nat}{ds:List Dcl}(hT:zci w0 B0 tb ds xs)(hS:zao (fun j=>xs[j]?) ds 0 xs.length)(hx:xs.length<=700)(hd:ds.length<=700) :
  LE (lcOf w0 B0 tb ds xs) (((((w0.alloc (.k #[.p tb,.i 0,.i 0,.z,.z,.z,.z,.z,.i 0] 211)).alloc (.map #[] 0)).alloc (.map #[] 0)).alloc (.map #[] 0)).alloc
   (.k #[.p w0.heap.size,.p tb,.m (w0.heap.size+1),.m (w0.heap.size+2),.m (w0.heap.size+3),.map none,.i 0] 214)) {} V00:=by
 have A:∀ (w:World) (b:Nat),b=w.heap.size->NM (w.alloc (.map #[] 0)) b []:=fun w b e=>by subst e;exact zG.made _ _ _ _
 refine⟨⟨by simp[lcOf],by simp[lcOf],by simp[lcOf],by simp[lcOf],by simp[lcOf],by simp[lcOf],by simp[lcOf],by simp[lcOf],hT,hS,hx,hd⟩,
  ((((((yn w0.heap.size w0).alloc yL _).alloc yy _).alloc (by simp;omega) _).alloc (by simp;omega) _).alloc (by simp;omega) _),
  Blk.newAt (by simp[lcOf]),((((Blk.newAt (by simp[lcOf])).alloc _).alloc _).alloc _).alloc _,(((A _ _ (by simp[lcOf])).alloc _).alloc _).alloc _,((A _ _ (by simp[lcOf])).alloc _).alloc _,(A _ _ (by simp[lcOf])).alloc _,
  by simp[V00],yA _ _ _ _,yA _ _ _ _,rfl,by simp[V00],yA _ _ _ _,yA _ _ _ _,yA _ _ _ _,by simp[Sep,V00,Value.ownBlock],by simp[Sep,V00,Value.ownBlock],by simp[Sep,V00,Value.ownBlock],⟨rfl,by simp,by simp,by simp,by simp,by simp⟩⟩
theorem zaa.get {w:World}{B:Nat}:∀ {ps:List (Value×Value)} {ds:List Dcl} {k:Nat} {d:Dcl},zaa w B ps ds->ds[k]?=some d->∃ p,ps[k]?=some p/\xp w B p.1 d.params/\zz w B p.2 d.body
 | [],[],k,d,_,h=>by simp at h
 | [],_::_,_,_,h,_=>h.elim
 | _::_,[],_,_,h,_=>h.elim
 | p::_,y::_,0,d,h,hd=>by simp at hd;subst hd;exact⟨p,rfl,h.1,h.2.1⟩
 | p::ps,y::ds,k+1,d,h,hd=>by
  obtain⟨q,h1,h2⟩:=zaa.get h.2.2 (k:=k) (d:=d) (by simpa using hd);exact⟨q,by simpa using h1,h2⟩
theorem zqg:∀ {ps:List (Value×Value)} {ds:List Dcl} {k:Nat} {p:Value×Value} {d:Dcl},ps[k]?=some p->ds[k]?=some d->∀ j,j<7->(zdo ps ds)[k*7+j]? = (zU d p.1 p.2)[j]?
 | [],_,k,p,d,h,_,_,_=>by simp at h
 | _::_,[],k,p,d,_,h,_,_=>by simp at h
 | q::ps,e::ds,0,p,d,h,hd,j,hj=>by
  simp at h hd;subst h hd;show(zU e q.1 q.2++zdo ps ds)[0*7+j]? = _;rw[yz (by show _<7;omega),ycn,ybf]
 | q::ps,e::ds,k+1,p,d,h,hd,j,hj=>by
  show(zU e q.1 q.2++zdo ps ds)[(k+1)*7+j]? = _;rw[yC (by show 7<=_;omega),show(k+1)*7+j-(zU e q.1 q.2).length=k*7+j by show _-7=_;omega];exact zqg (by simpa using h) (by simpa using hd) j hj
theorem z01 (hc:LCok C):∃ E A sv,Blk C.w0 C.tb 218 #[.slice E C.ds.length A,sv] /\
  ∀ i d,C.ds[i]?=some d->∃ D pv bv,E=some (.a D 0)/\D<C.B/\(∀ j,j<7->C.w0.cell? (.a D (i*7+j))=(zU d pv bv)[j]?)/\xp C.w0 C.B0 pv d.params/\zz C.w0 C.B0 bv d.body:=by
 obtain⟨_,dv,sv,H,ps,hb,_,_,G,K⟩:=hc.tree;obtain⟨E,A,rfl⟩:=zX G;refine⟨E,A,sv,hb,fun i d h=>?_⟩;have N:i<C.ds.length:=(yh.1 h).1;obtain⟨D,Q,hv,_,hl⟩:=G.form yo;injection hv with h1 h2 h3;obtain⟨p,O,J,I⟩:=K.get h;subst h1;refine⟨D,p.1,p.2,rfl,hl,fun j L=>?_,J,I⟩;rw[G.cellAt (i*7+j) yo,zqg O h j L]
def zis (C:LC)(s:Lo):Except Flt Pr:=match mget s.qm zel with
 | none=>.error ⟨11,0⟩
 | some m=>if 0<s.je m then .error ⟨11,0⟩else .ok (prOf C s m)
def zlk (C:LC)(s:Lo):Except Flt Pr:=zB (ze6 C.xs s C.ds 0) (zis C)
def znx (C:LC)(s:Lo):Except Flt Pr:=zB (zg9 s C.ds) fun _=>zlk C s
def zmg (C:LC)(M:Except Flt Pr)(g:Nat)(iv:Value)(W:World):Prop :=
 ∃ (i:Nat) (s:Lo) (V:LV),iv=.i i/\g=C.ds.length-i/\i<=C.ds.length/\LE C W s V/\s.fs.length=cntF (C.ds.take i)/\s.code=[]/\M=zB (zhc s (C.ds.drop i)) (znx C)
def zmh (C:LC)(M:Except Flt Pr)(s:Lo)(V:LV)(g:Nat)(iv:Value)(W:World):Prop :=
 ∃ (i:Nat),iv=.i i/\g=C.ds.length-i/\i<=C.ds.length/\LE C W s V/\M=zB (zg9 s (C.ds.drop i)) fun _=>zlk C s
def zkv (C:LC)(M:Except Flt Pr)(g:Nat)(fv iv:Value)(W:World):Prop :=
 ∃ (i k:Nat) (s:Lo) (V:LV),fv=.i (cntF (C.ds.take i))/\iv=.i i/\g=C.ds.length-i/\i<=C.ds.length/\LE C W s V/\s.fs.length=cntF C.ds/\zao (fun j=>C.xs[j]?) (C.ds.drop i) k C.xs.length/\s.code.length<=i+3*k /\
  M=zB (ze6 C.xs s (C.ds.drop i) (cntF (C.ds.take i))) (zis C)
theorem zqb:∀ (l:List Dcl) (i:Nat) (d:Dcl),l[i]?=some d->d.kind=102->cntF (l.take i)<cntF l
 | [],i,d,h,_=>by simp at h
 | e::l,0,d,h,hk=>by simp at h;subst h;rw[yY,zm0,yj hk];show 0<_;omega
 | e::l,i+1,d,h,hk=>by
  rw[yM,zm0,zm0];have:=zqb l i d (by simpa using h) hk;omega
theorem cntF_len (l:List Dcl):cntF l<=l.length:=ycf _ _
theorem zyc {t:ByteArray}{ds:List Dcl}(h:zc1 t=.ok (ds,xs))(h1:C.ds=ds)(h2:C.xs=xs):z8 t=zB (zhc {} C.ds) (znx C):=by
 unfold z8;rw[h,zF,h1.symm,h2.symm];rfl
theorem zyd {M:Except Flt Pr}{W:World}(h:M=zlk C s)(hL:LE C W s V)(hf:s.fs.length=cntF C.ds)(hc:s.code=[]):zkv C M C.ds.length (.i 0) (.i 0) W :=
 ⟨0,0,s,V,rfl,rfl,rfl,yD _,hL,hf,hL.c.sp,by simp[hc],h⟩
attribute [local go_sem] dclV zU
theorem zg8.drew {α: Type}{w':World}{r:Except Flt α}{K:α -> Nat->World->Prop}{e:Ending}(h:zg8 w r K e w')(hK:∀ a b,K a b w'->K a b w'.drew):zg8 w r K e w'.drew:=by
 rcases h with⟨a,b,h1,h2,h3,h4,h5⟩ | ⟨f,b,h1,h2,h3,h4,h5⟩
 ·exact .inl ⟨a,b,h1,h2,hK _ _ h3,h4,h5.drew⟩
 ·exact .inr ⟨f,b,h1,h2,h3.drew,h4,h5.drew⟩
theorem zh5.drew {w':World}{t:ByteArray}{e:Ending}(h:zh5 w t e w'):zh5 w t e w'.drew:=zg8.drew h fun _ _ h=>h.drew
theorem zao.inv {r:List Dcl}{k:Nat}(h:zao f (d::r) k e):okNm d.name/\((∀ a ∈ d.params,okNm a)/\d.params.length<=701)/\(d.kind=118\/d.kind=109\/d.kind=102)/\∃ m,zc f d.body k m/\zao f r m e:=by
 cases h with
 | cons a b c d e=>exact⟨a,b,c,_,d,e⟩
theorem zao.drop {f:Nat->Option Stm}:∀ {l:List Dcl} {k e:Nat} (i:Nat),zao f l k e->∃ k',zao f (l.drop i) k' e
 | l,k,e,0,h=>⟨k,by simpa using h⟩
 | [],k,e,i+1,h=>⟨k,by simpa using h⟩
 | d::l,k,e,i+1,h=>by
  obtain⟨_,_,_,m,_,h2⟩:=h.inv;exact zao.drop i h2
theorem zk7 (h:zao f l 0 e)(hd:l[i]?=some d):okNm d.name/\((∀ a ∈ d.params,okNm a)/\d.params.length<=701)/\(d.kind=118\/d.kind=109\/d.kind=102):=by
 obtain⟨A,h'⟩:=h.drop i;rw[zae hd]at h';obtain⟨a,b,c,_⟩:=h'.inv;exact⟨a,b,c⟩
theorem lw_fs {s5:Lo}(h:zab s d=.ok s5)(hs:zao f l 0 e)(hd:l[i]?=some d)(hf:s.fs.length=cntF (l.take i)):s5.fs.length=cntF (l.take (i+1)):=by
 obtain⟨_,_,A⟩:=zk7 hs hd;rcases zqi h with⟨_,h2⟩ | ⟨a,b,c⟩
 ·rw[zt0 hd,zm1,h2,hf]
 ·rcases A with A | A | A
  ·exact absurd A a
  ·exact absurd A b
  ·exact absurd A c
theorem lw_code {s5:Lo}(h:zab s d=.ok s5)(hs:zao f l 0 e)(hd:l[i]?=some d)(hf:s.code=[]):s5.code=[]:=by
 obtain⟨_,_,A⟩:=zk7 hs hd;rcases zqi h with⟨h1,_⟩ | ⟨a,b,c⟩
 ·exact h1.trans hf
 ·rcases A with A | A | A
  ·exact absurd A a
  ·exact absurd A b
  ·exact absurd A c
theorem zyb (w:World)(t:ByteArray):Calls prog 69 #[.string t] w (zh5 w t):=by
 have d5:∀ (fn:Fn) (first cap:Array Value) (w:World),(Instr.makeFunc fn first cap).run prog w=.ok (.func fn first cap) w:=fun _ _ _ _=>rfl;have cp:=@run_makeMap prog
 go_enter_defers func69,ntmps69
 go_wp2_with fail;refine zK (fun W=>WEnv w W/\W.heap.size=w.heap.size+2) ⟨⟨(Blk.newAt rfl).alloc _,Blk.newAt yy,((yB.alloc yL _).alloc yy _)⟩,by simp⟩ ?_;rintro w1 ⟨E1,z1⟩;have D:=zH E1;have Z1:=zH z1;clear E1 z1;refine(zy6 w1 t).mono ?_;rintro e w2 (⟨⟨ds,xs⟩,tb,hr,rfl,hT,a7,hB⟩ | ⟨f,b,hr,rfl,hf,hb,hB⟩)
 ·have ha:=(D.o.a.below hB (yq D.o.a.lt));have he:=(D.o.e.below hB (yq D.o.e.lt));have b3:=he.cell;have b5:=he.lt;have b4:=he.frozen;obtain⟨w0,ap⟩:∃ w0,w2.setCell (.a (w.heap.size+1) 0) .nilIface=w0:=⟨_,rfl⟩;have bh:zci w0 w1.heap.size tb ds xs:=by rw[<- ap];exact hT.farT he yd yd yd yd yd yd _ _
  have b1:WEnv w w0:=by
   rw[<- ap];exact⟨ha.qi yy _,he.qe 0 _,(D.o.c.trans (hB.mono D.o.c.size)).setCell (by exact ya3 _) _⟩
  have a5:=zy4 hr;obtain⟨C,hC⟩:∃ C,C=lcOf w0 w1.heap.size tb ds xs:=⟨_,rfl⟩;have az:=le_start bh (zy5 hr) (by simp at a5;omega) (by simp at a5;omega);have c4:=zH (zyc (C:=C) hr (by rw[hC];rfl) (by rw[hC];rfl));rw[<- hC]at az;have c6:=zH (show C.w0=w0 by rw[hC];rfl);have R:=zH (show C.lb=w0.heap.size+4/\C.pb=w0.heap.size/\C.tb=tb/\C.vb=w0.heap.size+1/\C.mb=w0.heap.size+2/\C.fb=w0.heap.size+3/\C.B0=w1.heap.size by rw[hC];exact⟨rfl,rfl,rfl,rfl,rfl,rfl,rfl⟩);have HEN:=zH (show WEnv w C.w0 by rw[c6.o];exact b1);have L0:=zH az;have ag:=zH (show w.heap.size<=C.B0/\C.B0<=C.B from⟨by rw[R.o.2.2.2.2.2.2];exact D.o.c.size,by rw[R.o.2.2.2.2.2.2,show C.B=w0.heap.size by rw[hC];rfl,<- ap];simpa [World.setCell] using hB.size⟩);have bk:=b1.e.cell;clear hT he ha bh b1 a5 az hC hr hB a7;go_upto_region 6 with fail
  refine xh (fun W=>LE C W {} V00) L0.o ?_;rintro w3 a4;rw[show w0.heap.size+1+1+1+1=C.lb from R.o.1.symm,show w0.heap.size+1+1+1=C.fb from R.o.2.2.2.2.2.1.symm,show w0.heap.size+1+1=C.mb from R.o.2.2.2.2.1.symm,show w0.heap.size+1=C.vb from R.o.2.2.2.1.symm,show w0.heap.size=C.pb from R.o.2.1.symm,show tb=C.tb from R.o.2.2.1.symm];clear cp b3 b5 b4 bk ap;obtain⟨da,cq,sv,a7,bq⟩:=z01 a4.c;have ay:=zH bq;have aj:=zH a7;have ai:=zH a4.c.sp;have b2:C.ds.length<=700:=a4.c.dl;have af:=(a7.below a4.qk a7.lt).cell;have c7:=zH (show zmg C (z8 t) C.ds.length (.i 0) w3 from⟨0,{},V00,rfl,rfl,yD _,a4,rfl,rfl,c4.o⟩);clear bq a7 a4;go_wp2_with fail;clear af;go_loopg [36] C.ds.length (fun g v36 wr=>zmg C (z8 t) g v36 wr)
  case atStart=>exact c7.o
  case round =>
   obtain⟨i,s,V,rfl,hg,hi,hL,ab,bi,hM⟩:=hrel;have HG:=zH hg;have A:=zH hL;have Z:=zH ab;have aw:=zH bi;have HM:=zH hM;clear hg hL ab bi hM;by_cases I:i<C.ds.length
   ·obtain⟨d,hd⟩:∃ d,C.ds[i]?=some d:=⟨_,yc I⟩;obtain⟨E,pv,bv,aa,U,S,O,N⟩:=ay.o i d hd;obtain⟨pa,pc,rfl⟩:=zX O;obtain⟨ba,bc,rfl⟩:=zX N;have H:∀ j,j<7->wr.cell? (.a E (i*7+j))=(zU d (.slice pa d.params.length pc) (.slice ba d.body.length bc))[j]? := fun j hj=>by rw[A.o.qk.cell (p:=(.a E _)) U];exact S j hj
    have q0:wr.cell? (.a E (i*7))=some (.u d.kind.toNat):=H 0 yo;have q1:wr.cell? (.a E (i*7+1))=some (.string d.name.text):=H 1 yo;have q2:wr.cell? (.a E (i*7+2))=some (.i d.name.at_):=H 2 yo;have q3:wr.cell? (.a E (i*7+3))=some (.bool d.name.num):=H 3 yo;have q4:wr.cell? (.a E (i*7+4))=some (.i d.name.n):=H 4 yo;have q5:wr.cell? (.a E (i*7+5))=some (.slice pa d.params.length pc):=H 5 yo;have q6:wr.cell? (.a E (i*7+6))=some (.slice ba d.body.length bc):=H 6 yo;subst aa;have ah:=zH O;have au:=zH N;have G:=zH hd;have b2:C.ds.length<=700:=A.o.c.dl;clear hd U S O N H;obtain⟨a2,Y,hk⟩:=zk7 ai.o G.o;have a9:=zH (fun W (h:LE C W s V)=>zwr C W s V d (.slice pa d.params.length pc) (.slice ba d.body.length bc) h a2 pa pc rfl hk);have MD:=zH (show z8 t=zB (zab s d) fun s2=>zB (zhc s2 (C.ds.drop (i+1))) (znx C) by rw[HM.o,zae G.o,zhc,zhd]);clear a2 Y hk;go_wp2_with fail;refine zK (fun W=>LE C W s V) (A.o.alloc _) ?_;intro w4 hL4;have HL4:=zH hL4;refine(a9.o w4 hL4).mono ?_;rintro e w5 (⟨s5,v,hr,rfl,rfl,V5,hL5,_⟩ | ⟨f,b,hr,rfl,hfb,hle,hch⟩);rotate_left
    ·exact mFc
    have REL:=zH (show zmg C (z8 t) (C.ds.length-(i+1)) (.i ((i+1:Nat):Int)) w5 from
     ⟨i+1,s5,V5,rfl,rfl,I,hL5,lw_fs hr ai.o G.o Z.o,lw_code hr ai.o G.o aw.o,MD.o.trans (by rw[hr,zF])⟩)
    exact mGc
   ·obtain rfl:i=C.ds.length:=yo;have L:=HM.o;rw[yaa,zhc,zF]at L;have ac:=Z.o;rw[yaz]at ac;have c2:=zH L;have aq:=zH ac;clear HM Z I hi L ac;have af:=(aj.o.below A.o.qk aj.o.lt).cell;have c8:=zH (show zmh C (z8 t) s V C.ds.length (.i 0) wr from⟨0,rfl,rfl,yD _,A.o,c2.o⟩);go_wp2_with fail;clear af;go_loopg [49] C.ds.length (fun g v49 wr=>zmh C (z8 t) s V g v49 wr)
    case atStart=>exact c8.o
    case round =>
     rename_i d8;clear A HG;obtain⟨i,rfl,hg,hi,hL,hM⟩:=hrel;have HG:=zH hg;have A:=zH hL;have HM:=zH hM;clear hg hL hM;by_cases I:i<C.ds.length
     ·obtain⟨d,hd⟩:∃ d,C.ds[i]?=some d:=⟨_,yc I⟩;obtain⟨E,pv,bv,aa,U,S,O,N⟩:=ay.o i d hd;obtain⟨pa,pc,rfl⟩:=zX O;obtain⟨ba,bc,rfl⟩:=zX N;have H:∀ j,j<7->wr.cell? (.a E (i*7+j))=(zU d (.slice pa d.params.length pc) (.slice ba d.body.length bc))[j]? := fun j hj=>by rw[A.o.qk.cell (p:=(.a E _)) U];exact S j hj
      have q0:wr.cell? (.a E (i*7))=some (.u d.kind.toNat):=H 0 yo;have q1:wr.cell? (.a E (i*7+1))=some (.string d.name.text):=H 1 yo;have q2:wr.cell? (.a E (i*7+2))=some (.i d.name.at_):=H 2 yo;have q3:wr.cell? (.a E (i*7+3))=some (.bool d.name.num):=H 3 yo;have q4:wr.cell? (.a E (i*7+4))=some (.i d.name.n):=H 4 yo;have q5:wr.cell? (.a E (i*7+5))=some (.slice pa d.params.length pc):=H 5 yo;have q6:wr.cell? (.a E (i*7+6))=some (.slice ba d.body.length bc):=H 6 yo;subst aa;have ah:=zH O;have au:=zH N;have G:=zH hd;have b2:C.ds.length<=700:=A.o.c.dl;clear hd U S O N H;obtain⟨a2,Y,hk⟩:=zk7 ai.o G.o;have a9:=zH (fun W (h:LE C W s V)=>zy3 C W s V d (.slice pa d.params.length pc) (.slice ba d.body.length bc) h ah.o Y);have MD:=zH (show z8 t=zB (zff s d.params 0 []) fun _=>zB (zg9 s (C.ds.drop (i+1))) fun _=>zlk C s by rw[HM.o,zae G.o,zg9,zhd]);clear a2 Y hk;go_wp2_with fail;refine zK (fun W=>LE C W s V) (A.o.alloc _) ?_;intro w4 hL4;have HL4:=zH hL4;refine(a9.o w4 hL4).mono ?_;rintro e w5 (⟨s5,v,hr,rfl,rfl,hL5⟩ | ⟨f,b,hr,rfl,hfb,hle,hch⟩);rotate_left
      ·exact mFc
      have REL:=zH (show zmh C (z8 t) s V (C.ds.length-(i+1)) (.i ((i+1:Nat):Int)) w5 from
       ⟨i+1,rfl,rfl,I,hL5,MD.o.trans (by rw[hr,zF])⟩)
      exact mGc
     ·obtain rfl:i=C.ds.length:=yo;have L:=HM.o;rw[yaa,zg9,zF]at L;have c3:=zH L;clear HM I hi L;have af:=(aj.o.below A.o.qk aj.o.lt).cell;have c9:=zH (zyd c3.o A.o aq.o aw.o);go_wp2_with fail;clear af;go_loopg [10,62] C.ds.length (fun g v10 v62 wr=>zkv C (z8 t) g v10 v62 wr)
      case atStart=>exact c9.o
      case round =>
       rename_i d9;clear A HG aq aw;obtain⟨i,k,s,V,rfl,rfl,hg,hi,hL,ab,a0,bj,hM⟩:=hrel;have HG:=zH hg;have A:=zH hL;have HM:=zH hM;have Z:=zH ab;have bu:=zH a0;have ax:=zH bj;clear hg hL hM ab a0 bj;have a5:=cntF_len (C.ds.take i);rw[yah]at a5;have cu:cntF (C.ds.take i)<=700:=yo;clear a5;by_cases I:i<C.ds.length
       ·obtain⟨d,hd⟩:∃ d,C.ds[i]?=some d:=⟨_,yc I⟩;obtain⟨E,pv,bv,aa,U,S,O,N⟩:=ay.o i d hd;obtain⟨pa,pc,rfl⟩:=zX O;obtain⟨ba,bc,rfl⟩:=zX N;have H:∀ j,j<7->wr.cell? (.a E (i*7+j))=(zU d (.slice pa d.params.length pc) (.slice ba d.body.length bc))[j]? := fun j hj=>by rw[A.o.qk.cell (p:=(.a E _)) U];exact S j hj
        have q0:wr.cell? (.a E (i*7))=some (.u d.kind.toNat):=H 0 yo;have q1:wr.cell? (.a E (i*7+1))=some (.string d.name.text):=H 1 yo;have q2:wr.cell? (.a E (i*7+2))=some (.i d.name.at_):=H 2 yo;have q3:wr.cell? (.a E (i*7+3))=some (.bool d.name.num):=H 3 yo;have q4:wr.cell? (.a E (i*7+4))=some (.i d.name.n):=H 4 yo;have q5:wr.cell? (.a E (i*7+5))=some (.slice pa d.params.length pc):=H 5 yo;have q6:wr.cell? (.a E (i*7+6))=some (.slice ba d.body.length bc):=H 6 yo;subst aa;have ah:=zH O;have au:=zH N;have G:=zH hd;have b2:C.ds.length<=700:=A.o.c.dl;clear hd U S O N H;have a0:=bu.o;rw[zae G.o]at a0;obtain⟨a2,Y,hk,m,ae,a3⟩:=a0.inv;have bo:=a3.le;have cn:=ae.le;have b7:=zH a3;have bd:=zH (zt0 G.o);by_cases hf:d.kind=102
        ·have kf:((d.kind.toNat:Int)==102)=true:=by rw[hf];rfl
         have a8:=zH (show cntF (C.ds.take (i+1))=cntF (C.ds.take i)+1 by rw[bd.o,zm1,yj hf]);have bn:=zqb C.ds i d G.o hf;have d7:=A.o.c.xl;have a9:=zH (fun W (h:LE C W s V)=>body_any C W s V d (.slice pa d.params.length pc) (.slice ba d.body.length bc) (cntF (C.ds.take i)) k m h ah.o au.o Y ae bo (by rw[Z.o];exact bn) (yq ax.o));have MD:=zH (show z8 t=zB (zig C.xs s d (cntF (C.ds.take i))) fun s2=>zB (ze6 C.xs s2 (C.ds.drop (i+1)) (cntF (C.ds.take (i+1)))) (zis C) by rw[HM.o,zae G.o,ze6,yj hf,zhd,a8.o]);have c5:=zH ae;clear a2 Y hk ae a3 a0 hf;go_wp2_with fail;refine zK (fun W=>LE C W s V) (A.o.alloc _) ?_;intro w4 hL4;refine(a9.o w4 hL4).mono ?_;rintro e w5 (⟨s5,v,hr,rfl,rfl,V5,hL5⟩ | ⟨f,b,hr,rfl,hfb,hle,hch⟩);rotate_left
         ·have E9:=HEN.o.below hch yL;refine zjm rfl rfl E9.a E9.e yo ?_;exact zir E9.a E9.e (MD.o.trans (by rw[hr,zbh])) hfb (ya HEN.o.c.size hle) yL yo E9.c
         obtain⟨ca,bg,cc⟩:=bodyM_ok hr c5.o;have REL:=zH (show zkv C (z8 t) (C.ds.length-(i+1)) (.i ((cntF (C.ds.take (i+1)):Nat):Int)) (.i ((i+1:Nat):Int)) w5 from
          ⟨i+1,m,s5,V5,rfl,rfl,rfl,I,hL5,by rw[bg,Z.o],b7.o,by have:=ax.o;omega,MD.o.trans (by rw[hr,zF])⟩)
         clear hr hL5 hL4 q0 q1 q2 q3 q4 q5 q6 ca bg cc;go_wp2;go_roundg (C.ds.length-(i+1))
         case measure=>have:=HG.o;omega
         case rel=>rw[show((i:Int)+1)=((i+1:Nat):Int) by omega,show((cntF (C.ds.take i):Int)+1)=((cntF (C.ds.take (i+1)):Nat):Int) by rw[a8.o];omega];exact REL.o
        ·have kf:((d.kind.toNat:Int)==102)=false:=zI (fun e=>hf (UInt8.toNat_inj.1 (by show d.kind.toNat=102;omega)));have a8:=zH (show cntF (C.ds.take (i+1))=cntF (C.ds.take i) by rw[bd.o,zm1,yg hf];rfl);have MD:=zH (show z8 t=zB (ze6 C.xs s (C.ds.drop (i+1)) (cntF (C.ds.take (i+1)))) (zis C) by rw[HM.o,zae G.o,ze6,yg hf,a8.o]);have REL:=zH (show ∀ o,zkv C (z8 t) (C.ds.length-(i+1)) (.i ((cntF (C.ds.take i):Nat):Int)) (.i ((i+1:Nat):Int)) (wr.alloc o)from fun o =>
          ⟨i+1,m,s,V,by rw[a8.o],rfl,rfl,I,A.o.alloc o,Z.o,b7.o,by have:=ax.o;omega,MD.o⟩)
         clear a2 Y hk ae a3 a0 hf bo cn;go_wp2;go_roundg (C.ds.length-(i+1))
         case measure=>have:=HG.o;omega
         case rel=>rw[show((i:Int)+1)=((i+1:Nat):Int) by omega];exact REL.o _
       ·obtain rfl:i=C.ds.length:=yo;have L:=HM.o;rw[yaa,ze6,zF]at L;have b8:=zH L;clear HM I hi L;obtain⟨hl,hp,ck,cm,bm,co,bp⟩:=A.o.cells;obtain⟨fa,fc,a1⟩:=zX A.o.fr;rw[a1]at hp;have cy:=zH a1;clear a1;have bz:=zH (fun W (h:LE C W s V)=>xn W C.fb s.qm zel h.fm (by show(4:Nat)<=maxLen;unfold maxLen;omega));go_wp2_with fail;refine zov ?_;refine zh2 11 (fun w'=>w'.cell? (.a C.lb 0)=some (.p C.pb)/\w'.cell? (.a C.lb 4)=some (.m C.fb)) yk rfl rfl yk ?_;simp only[yM,yY];have J:wr.drew.cell? (.a C.lb 0)=some (.p C.pb)/\wr.drew.cell? (.a C.lb 4)=some (.m C.fb):=⟨by simp[hl],by simp[hl]⟩
        iterate 8(refine tK 0 rfl J ?_)
        refine rdy 8 rfl fun K hK=>?_;go_simp;refine(bz.o _ A.o.drew).mono ?_;rintro e w' ⟨rfl,rfl⟩;refine hK.o _ _ J (fun J=>?_);clear hK K
        iterate 2(refine tK 9 rfl J ?_)
        refine lst rfl fun K hK=>?_;go_simp;refine hK _ _ ?_;clear hK K J;refine zf5 ?_;have Q:Blk ((wr.setCell (.a C.pb 8) (.i (za1 s.qm zel))).drew) C.pb 211 #[.p C.tb,.i s.nv,.i s.nm,V.fsv,V.cv,V.av,V.nv,V.gv,.i (za1 s.qm zel)]:=(A.o.p.qe 8 _).cast yy;have a6:=(A.o.l.qi (p:=(.a C.pb 8)) bp (.i (za1 s.qm zel))).drew;have am:=((A.o.qk.setCell (p:=(.a C.pb 8)) A.o.c.pb (.i (za1 s.qm zel))).drew);have ao:=zi (zL A.o.fr A.o.p yd 8 (.i (za1 s.qm zel)));generalize br:(wr.setCell (.a C.pb 8) (.i (za1 s.qm zel))).drew=w6 at Q a6 am ao |-;have be:=zH br;clear br hl hp ck cm bm co bp;have hl:=a6.cell;have d3:=a6.frozen;have bm:=a6.lt;have d6:=Q.lt;have HB6:=zH am;have bb:=zH ao;cases hmg:mget s.qm zel with
        | none =>
         have ad:za1 s.qm zel=-1:=by unfold za1;rw[hmg]
         have MD:=zH (show z8 t=.error ⟨11,0⟩ by rw[b8.o];unfold zis;rw[hmg]);rw[ad]at Q;have hp:=Q.cell;clear hmg ad Q a6 am ao;exact mMb
        | some m =>
         have ad:za1 s.qm zel=(m:Int):=by unfold za1;rw[hmg]
         have hm:=A.o.i.fok _ (zdd hmg);simp only at hm;have d4:m<5:=by have:=A.o.i.fl;have:=A.o.i.f5;omega
         have hf:s.fs[m]?=some s.fs[m]:=yc hm;obtain⟨fg,fcap,a1,cz,d1⟩:=bb.o.form yo;rw[ad]at Q be;have hp:=Q.cell;rw[a1]at hp;have b6:=bb.o;rw[a1]at b6;have d0:w6.cell? (.a fg (m*5+1))=some (.i (s.fs[m].params:Int)):=by
          rw[b6.cellAt (m*5+1) yo];exact zjt hf 1 yo
         have d2:decide ((m:Int)<0)=false:=by rw[decide_eq_false_iff_not];omega
         have bf:=zH (show z8 t=if 0<s.fs[m].params then .error ⟨11,0⟩else .ok (prOf C s m) by rw[b8.o];unfold zis Lo.je;rw[hmg];simp only[hf]);have b9:=zH Q;clear hmg ad Q a6 am ao a1 hf b6;by_cases h0:0<s.fs[m].params
         ·have cd:decide ((0:Int)<(s.fs[m].params:Int))=true:=by rw[decide_eq_true_iff];omega
          have MD:=zH (bf.o.trans (yj h0));exact mMb
         ·have cd:decide ((0:Int)<(s.fs[m].params:Int))=false:=by rw[decide_eq_false_iff_not];omega
          have MD:=zH (bf.o.trans (yg h0));have E6:=HEN.o.below HB6.o yL;have ce:=E6.a.cell;have b3:=E6.e.cell;have cf:∀ n i,(w6.drewN n).frozen? (.a w.heap.size i)=false:=fun n i=>(E6.a.drewN n).frozen i;have b4:∀ n i,(w6.drewN n).frozen? (.a (w.heap.size+1) i)=false:=fun n i=>(E6.e.drewN n).frozen i;have ch:=E6.a.lt;have b5:=E6.e.lt;have ct:w.heap.size≠C.pb:=E6.a.qs b9.o yd;have cx:w.heap.size+1≠C.pb:=E6.e.qs b9.o yd;have cs:w.heap.size≠C.lb:=fun e=>by have h1:=A.o.c.lb;have h2:=HEN.o.a.lt;rw[e]at h2;exact absurd h2 (Nat.not_lt.2 h1)
          have cw:w.heap.size+1≠C.lb:=fun e=>by have h1:=A.o.c.lb;have h2:=HEN.o.e.lt;rw[e]at h2;exact absurd h2 (Nat.not_lt.2 h1)
          go_wp2_with fail;go_quiet (fail);go_wp2_with fail;have ak:=((E6.a.drewN nq).qe 0 (.p C.pb)).qi (p:=(.a (w.heap.size+1) 0)) yy .nilIface;have an:=((E6.e.drewN nq).qi (p:=(.a w.heap.size 0)) yy (.p C.pb)).qe 0 .nilIface;show Leaves prog Tryz.f69 _ (zh5 w t) _ _ _;refine zwz (pa:=w.heap.size) (pe:=w.heap.size+1) rfl rfl ak an ?_;have EW:=HEN.o.below A.o.qk yL;have PG:=(A.o.prog (u:=.p C.pb) (u':=.nilIface) ag.o.1 ag.o.2 EW.a EW.e MD.o).drew.drewN nq;refine .inl ⟨prOf C s m,C.pb,MD.o,rfl,⟨⟨C.tb,V.fsv,V.cv,V.av,V.nv,V.gv,V.ags⟩,?_⟩,ya (ya ag.o.1 ag.o.2) A.o.c.pb,((zc7 E6.c nq).setCell (by exact yr _) _).setCell (by exact ya3 _) _⟩;rw[<- be.o];exact PG
 ·have ha:=(D.o.a.below hB (yq D.o.a.lt));have he:=(D.o.e.below hB (yq D.o.e.lt));have ce:=ha.cell;have b3:=he.cell;have ch:=ha.lt;have b5:=he.lt;have cf:=ha.frozen;have b4:=he.frozen;have MD:=zH (show z8 t=.error f by unfold z8;rw[hr,zbh]);have HA:=zH ha;have HE:=zH he;have HF:=zH hf;have HB:=zH (D.o.c.trans (hB.mono D.o.c.size));have c0:=zH (ya D.o.c.size hb);clear ha he hr hf hB hb;go_wp2_with fail;go_region;go_wp2_with fail;have ak:=(HA.o.qi (p:=(.a (w.heap.size+1) 0)) yy (.iface 206 (.p b)));have an:=(HE.o.qe 0 (.iface 206 (.p b)));have cj:=Blk.qi HF.o (p:=(.a (w.heap.size+1) 0)) (Blk.qs HF.o HE.o yd) (.iface 206 (.p b));have ci:=HB.o.setCell (p:=(.a (w.heap.size+1) 0)) (ya3 _) (.iface 206 (.p b));refine zwy rfl rfl (Blk.drew ((ak.qe 0 (.pointer none)).qi (p:=(.a (w.heap.size+1) 0)) yy _)) (Blk.drew ((an.qi (p:=(.a w.heap.size 0)) yy _).qe 0 _)) ?_;exact(zir ak an MD.o cj c0.o yL (ya3 _) ci).drew
end Go.Proofs.YtkmcihhndgdhpaaGreat
