/- Parts of the walk. -/
import Derived.Test.YtkmcihhndgdhpaaGreatWC5
set_option maxRecDepth 100000
set_option maxHeartbeats 4000000
set_option linter.unusedSimpArgs false
set_option linter.unusedVariables false
open Go.Maps Go.RowKit Go.Proofs.Tryz
namespace Go.Proofs.YtkmcihhndgdhpaaGreat
variable {C:LC}{w w1:World}{s:Lo}{V:LV}{k:Nat}{m:NMap}
theorem mRa {p:Prop}(h:p:=by
  have HL2:=zH hL2;clear hm2 hg2 hz2 hL2 hs2;go_wp2_with fail;refine xh (fun W=>LE C W s2 V) HL2.o ?_;intro W hL;clear hlen hl hp hfl hfp hll hlp hbc hbl hrun HL2 HL HB HC;obtain⟨hl,hp,hfl,hfp,hll,hlp,hne⟩:=hL.cells;have HL:=zH hL;clear hL;have hlenv:(Builtin.len_ #[212] 3 #[.m C.vb]).run prog W.drew=.ok (.i s2.vars.length) W.drew:=nlen HL.o.drew.vm;have hlenm:(Builtin.len_ #[212] 3 #[.m C.mb]).run prog W.drew=.ok (.i s2.qu.length) W.drew:=nlen HL.o.drew.mm;have hlenv2:∀ i u,(Builtin.len_ #[212] 3 #[.m C.vb]).run prog (W.drew.setCell (.a C.pb i) u)=.ok (.i s2.vars.length) (W.drew.setCell (.a C.pb i) u):=fun i u=>nlen (HL.o.drew.vm.qi (HL.o.vm.qf HL.o.p) u);have hlenm2:∀ i u,(Builtin.len_ #[212] 3 #[.m C.mb]).run prog (W.drew.setCell (.a C.pb i) u)=.ok (.i s2.qu.length) (W.drew.setCell (.a C.pb i) u):=fun i u=>nlen (HL.o.drew.mm.qi (HL.o.mm.qf HL.o.p) u);go_region;refine ym (yp rfl _ _ _) rfl ?_;exact .inl ⟨_,_,HM.o,rfl,rfl,V,(HL.o.nvm _ _).drew,rfl⟩):p:=h
theorem mBb {p:Prop}(h:p:=by
  go_wp2_with fail;refine(zb4 _ _ _).mono ?_;rintro e w4 ⟨rfl,rfl⟩;exact⟨rfl,.fault HM.o (zf.new rfl) HC.o.size (((Chg.any (B:=C.B) (bs:=[]) HC.o).below H.o.qk.size).alloc (ya H.o.qk.size HC.o.size) _)⟩):p:=h
theorem mSc {p:Prop}(h:p:=by
  refine zn hr fun k e=>hg.block k (hr.lt k e).2 ?_;intro e';injection e' with e';obtain⟨cs,hh⟩:=zr hr e;exact hcell hh e'):p:=h
attribute [local go_sem] zT ptrV
theorem za.get {w:World}{B:Nat}:∀ {bs:List Nat} {xs:List Stm} {k:Nat} {x:Stm},za w B bs xs->xs[k]?=some x->∃ b,bs[k]?=some b/\zE w B b x
 | [],[],k,x,_,h=>by simp at h
 | [],_::_,_,_,h,_=>h.elim
 | _::_,[],_,_,h,_=>h.elim
 | b::bs,y::xs,0,x,h,hx=>by simp at hx;subst hx;exact⟨b,rfl,h.2.1⟩
 | b::bs,y::xs,k+1,x,h,hx=>by
  obtain⟨c,h1,h2⟩:=za.get h.2.2 (k:=k) (x:=x) (by simpa using hx);exact⟨c,by simpa using h1,h2⟩
theorem tree_stm (hc:LCok C){x:Stm}(hx:C.xs[k]?=some x):∃ dv E A sp,Blk C.w0 C.tb 218 #[dv,.s E C.xs.length A]/\E<C.B/\C.w0.cell? (.a E k)=some (.p sp)/\zE C.w0 C.B0 sp x/\k<C.xs.length:=by
 obtain⟨_,dv,sv,J,ps,hb,H,I,_⟩:=hc.tree;have G:k<C.xs.length:=(yh.1 hx).1;have hl:=I.length;obtain⟨sp,h1,h2⟩:=I.get hx;obtain⟨E,A,hv,_,D⟩:=H.form yo;subst hv;refine⟨dv,E,A,sp,hl ▸ hb,D,?_,h2,G⟩;rw[H.cellAt k yo,yV,h1];rfl
theorem stmt_all (C:LC)(n:Nat)(w:World)(s:Lo)(V:LV)(sp b place m e fuel:Nat)(t:Stm)(HB:zem C n)(HMO:zh6 C)(hV:V.lm=some b)(h:LE C w s V)(hst:zE C.w0 C.B0 sp t)(hok:okStm t)
  (hb1:zc (fun j=>C.xs[j]?) t.body (place+1) m) (hb2:zc (fun j=>C.xs[j]?) t.els m e) (hn:e-(place+1)<=n) (hf:n<fuel) (hcl:s.code.length+2+3*(e-(place+1))<=90000) :
  Calls prog 248 #[.p C.lb,.p sp,.i place] w (zby C V (zcf (zd C.xs fuel) s t place)):=by
 have ht:TS C sp t:=⟨hst,hok⟩;obtain⟨av,bv,ev,A,h1,h2,h3⟩:=hst;have T:TC C sp t av bv ev:=⟨A,h1,h2,h3⟩;by_cases D:48<=place
 ·exact z0v C n w s V sp b place m e fuel t av bv ev HB HMO hV h ht T hb1 hb2 hn hf hcl D
 ·exact stmt_go C n w s V sp b place m e fuel t av bv ev HB HMO hV h ht T hb1 hb2 hn hf hcl yo
def zmb (C:LC)(V:LV)(M:Except Flt Lo)(ids:List Nat)(e n:Nat)(g:Nat)(iv:Value)(W:World):Prop :=
 ∃ (i k fuel:Nat) (s:Lo) (V1:LV),iv=.i i/\g=ids.length-i/\i<=ids.length/\zc (fun j=>C.xs[j]?) (ids.drop i) k e/\e-k<=n/\e-k<fuel/\s.code.length+3*(e-k)<=90000/\LE C W s V1/\V1.lm=V.lm/\M=zd C.xs fuel s (ids.drop i)
theorem zc.len {f:Nat->Option Stm}{l:List Nat}{e:Nat}(h:zc f l k e):l.length<=e-k:=by
 induction h with
 | nil=>simp
 | cons _ _ h1 h2 h3 _ _ i3=>have:=h1.le;have:=h2.le;have:=h3.le;simp;omega
theorem zc.top {f:Nat->Option Stm}{l:List Nat}{e N:Nat}(h:zc f l k e)(hf:∀ j x,f j=some x->j<N)(hne:l≠[]):k<N:=by
 cases h with
 | nil=>exact absurd rfl hne
 | cons h0 _ _ _ _=>exact hf _ _ h0
theorem zvx (C:LC)(n:Nat)(HB:∀ Q,Q<n->zem C Q)(HMO:zh6 C):zem C n:=by
 intro w s V b bv A k e H hV h hI hs hn hf ac;obtain⟨ba,bc,rfl⟩:=zX hI;obtain⟨S,J⟩:∃ M,M=zd C.xs H s A:=⟨_,rfl⟩;have I:=zH (show zmb C V S A e n A.length (.i 0) w from⟨0,k,H,s,V,rfl,rfl,yD _,hs,hn,hf,ac,h,rfl,J⟩);rw[<- J];have HI:=zH hI;have au:A.length<=90000:=yq hs.len;clear h hs J hI;go_enter func161,ntmps161;go_wp2_with fail;go_loopg [8] A.length (fun g v8 wr=>zmb C V S A e n g v8 wr)
 case atStart=>exact I.o
 case round =>
  obtain⟨i,k1,D,s1,V1,rfl,hg,hi,a3,b6,az,ay,hL,hv,hM⟩:=hrel;have G:=zH hL;have v1:=zH hv;have HM:=zH hM;have HG:=zH hg;have a8:=zH a3;clear hL hv hM hg a3;by_cases L:i<A.length
  ·obtain⟨j,hj⟩:∃ j,A[i]?=some j:=⟨_,yc L⟩;have E:A.drop i=j::A.drop (i+1):=by
    obtain⟨_,ak⟩:=yh.1 hj;rw[yay L,ak]
   have Z:=a8.o;rw[E]at Z;have N:=HM.o;rw[E]at N;cases Z with
   | cons h0 ho b1 b2 b3 =>
    rename_i m Q x;obtain⟨dv,sg,ax,sp,O,a2,a0,a4,b5⟩:=tree_stm G.o.c h0;obtain⟨ig,aw,aj,b4,ai⟩:=HI.o.form yo;injection aj with ae af ag;subst ae;have l1:=b1.le;have l2:=b2.le;have l3:=b3.le;obtain⟨f0,K⟩:∃ f0,D=f0+1:=⟨D-1,by omega⟩;have ah:wr.cell? (.a ig i)=some (.i k1):=by
     rw[G.o.qk.cell (p:=(.a ig i)) ai,HI.o.cellAt i yo];rw[yV,hj];rfl
    have a1:wr.cell? (.a sg k1)=some (.p sp):=by rw[G.o.qk.cell (p:=(.a sg k1)) a2];exact a0
    have aq:=(O.below G.o.qk O.lt).cell;have am:C.xs.length<=700:=G.o.c.xl;obtain⟨an,_,_,_,W,_,_⟩:=G.o.cells;have a9:=zH (stmt_all C (e-k1-1) wr s1 V1 sp b k1 m Q f0 x (HB _ yo) HMO (v1.o.trans hV) G.o a4 ho b1 b2 yo yo yo);have R:=zH (show S=zB (zcf (zd C.xs f0) s1 x k1) fun s2=>zd C.xs f0 s2 (A.drop (i+1)) by
     rw[N,K,zd];rw[show C.xs[k1]?=some x from h0])
    have a7:=zH (show ∀ s2,zcf (zd C.xs f0) s1 x k1=.ok s2->s2.code.length<=s1.code.length+2+3*(m-(k1+1))+3*(Q-m)from fun s2 hh=>ztx (fun _ _ q=>ze5 f0 b1 q) (fun _ _ q=>ze5 f0 b2 q) hh);have B3:=zH b3;clear O a0 a4 N h0 ho b1 b2 b3 E hj af ag;go_wp2_with fail;refine a9.o.mono ?_;rintro e' w9 (⟨s9,v,Y,rfl,rfl,V9,U,a5⟩ | ⟨f,g',Y,rfl,ad,ao,ab⟩);rotate_left
    ·exact⟨rfl,.inr ⟨f,g',R.o.trans (by rw[Y,zbh]),rfl,ad,ao,ab⟩⟩
    have ap:=a7.o _ Y;have aa:=zH (show zmb C V S A e n (A.length-(i+1)) (.i ((i+1:Nat):Int)) w9 from⟨i+1,Q,f0,s9,V9,rfl,rfl,L,B3.o,by omega,by omega,by omega,U,a5.trans v1.o,R.o.trans (by rw[Y,zF])⟩);clear Y U a5 ap an W ah a1 aq;go_wp2;go_roundg (A.length-(i+1))
    case measure=>have:=HG.o;omega
    case rel=>rw[show((i:Int)+1)=((i+1:Nat):Int) by omega];exact aa.o
  ·obtain⟨f0,K⟩:∃ f0,D=f0+1:=⟨D-1,by omega⟩;have a6:=zH (show zby C V S (.e) wr from .inl ⟨s1,_,HM.o.trans (by rw[ybg yo,K,zd]),rfl,rfl,V1,G.o,v1.o⟩);go_wp2_with fail
   first | go_end0 | refine ym (yp rfl _ _ _) rfl ?_
   exact a6.o
theorem zvu (C:LC)(HMO:zh6 C)(n:Nat):zem C n:=by
 induction n using Nat.strongRecOn with
 | _ n ih=>exact zvx C n ih HMO
theorem zyn (C:LC):zh6 C:=by
 intro w s V sp xb b t x D h ht hx A;by_cases h6:t.op=6
 ·by_cases hf:s.news.length=6
  ·exact zyl C w s V sp xb b t x D h ht hx A h6 hf
  ·exact more_new C w s V sp xb b t x D h ht hx A h6 hf
 by_cases h7:t.op=7
 ·by_cases hf:s.qg.length=5
  ·exact zym C w s V sp xb b t x D h ht hx A h7 hf
  ·exact more_go C w s V sp xb b t x D h ht hx A h7 hf
 by_cases E:t.op=11
 ·exact zyk C w s V sp xb b t x D h ht hx A E
 exact more_get C w s V sp xb b t x D h ht hx A h6 h7 E
theorem zvw (C:LC)(n:Nat):zem C n:=zvu C (zyn C) n
def dclV (d:Dcl)(pv bv:Value):Value:=.agg (zU d pv bv).toArray
attribute [local go_sem] dclV zU
theorem zwx (C:LC)(w:World)(s:Lo)(V:LV)(d:Dcl)(pv bv:Value)(h:LE C w s V)(hx:okNm d.name)(h1:s.known d.name.text=true) :
  Calls prog 111 #[.p C.lb,dclV d pv bv] w (za4 C w V (zab s d)):=by
 have G:=zH h1;have HM:=zH (show zab s d=.error ⟨7,d.name.at_⟩ by unfold zab;rw[yj h1]);clear h1;have H:=zH h;have I:=zH (zN hx);clear h hx;go_enter func111,ntmps111;go_wp2_with fail;refine(zet C _ s V d.name.text (H.o.alloc _) I.o).mono ?_;rintro e W ⟨rfl,E,D⟩;rw[G.o];have A:=(Blk.newAt (w:=w) (t:=223) (cs:=(zU d pv bv).toArray) rfl).vh D yy yy;have HC:=zH (((Chg.refl 0 [] [] w).alloc _).trans D);obtain⟨hl,U,L,N,O,Q,_⟩:=E.cells;have J:=A.cell;have K:=A.lt;have S:=zH E;have R:=zH A;clear E D A;exact mBb
theorem zwt (C:LC)(w:World)(s:Lo)(V:LV)(d:Dcl)(pv bv:Value)(h:LE C w s V)(hx:okNm d.name)(h1:s.known d.name.text=false)(hk:d.kind=118)(h3:s.vars.length=5) :
  Calls prog 111 #[.p C.lb,dclV d pv bv] w (za4 C w V (zab s d)):=by
 have L:=zH h1;have HM:=zH (show zab s d=.error ⟨8,d.name.at_⟩ by unfold zab;rw[yg (by rw[h1];simp),yj hk,yj h3]);have G:=zH hk;have K:=zH h3;clear h1 hk h3;have H:=zH h;have O:=zH (zN hx);clear h hx;go_enter func111,ntmps111;go_wp2_with fail;refine(zet C _ s V d.name.text (H.o.alloc _) O.o).mono ?_;rintro e J ⟨rfl,E,D⟩;rw[L.o];have A:=(Blk.newAt (w:=w) (t:=223) (cs:=(zU d pv bv).toArray) rfl).vh D yy yy;have HC:=zH (((Chg.refl 0 [] [] w).alloc _).trans D);obtain⟨hl,hp,S,U,Y,Z,_⟩:=E.cells;have Q:=A.cell;have R:=A.lt;have N:=zH E;have HB:=zH A;clear E D A;have W:((d.kind.toNat:Int)==118)=true:=by rw[G.o];rfl
 have I:(Builtin.len_ #[212] 3 #[.m C.vb]).run prog J=.ok (.i 5) J:=by
  have:=N.o.vm.len (t:=212) (e:=3) (k:=9) underlying212 3;rw[K.o]at this;exact this
 exact mBb
theorem zws (C:LC)(w:World)(s:Lo)(V:LV)(d:Dcl)(pv bv:Value)(h:LE C w s V)(hx:okNm d.name)(h1:s.known d.name.text=false)(hk:d.kind=109)(h3:s.qu.length=3) :
  Calls prog 111 #[.p C.lb,dclV d pv bv] w (za4 C w V (zab s d)):=by
 have L:=zH h1;have HM:=zH (show zab s d=.error ⟨8,d.name.at_⟩ by unfold zab;rw[yg (by rw[h1];simp),yg (fun e:d.kind=118=>absurd (hk.symm.trans e) yd),yj hk,yj h3]);have G:=zH hk;have K:=zH h3;clear h1 hk h3;have H:=zH h;have O:=zH (zN hx);clear h hx;go_enter func111,ntmps111;go_wp2_with fail;refine(zet C _ s V d.name.text (H.o.alloc _) O.o).mono ?_;rintro e J ⟨rfl,E,D⟩;rw[L.o];have A:=(Blk.newAt (w:=w) (t:=223) (cs:=(zU d pv bv).toArray) rfl).vh D yy yy;have HC:=zH (((Chg.refl 0 [] [] w).alloc _).trans D);obtain⟨hl,hp,S,U,Z,a0,_⟩:=E.cells;have Q:=A.cell;have R:=A.lt;have N:=zH E;have HB:=zH A;clear E D A;have W:((d.kind.toNat:Int)==118)=false:=by rw[G.o];rfl
 have Y:((d.kind.toNat:Int)==109)=true:=by rw[G.o];rfl
 have I:(Builtin.len_ #[212] 3 #[.m C.mb]).run prog J=.ok (.i 3) J:=by
  have:=N.o.mm.len (t:=212) (e:=3) (k:=9) underlying212 3;rw[K.o]at this;exact this
 exact mBb
theorem LE.vars (h:LE C w s V)(hm:NM w1 C.vb m)(hg:w.grownBy w1 (some C.vb)):LE C w1 { s with vars:=m } V:=by
 have E:Below C.B C.w0 w1:=h.qk.grown hg h.qk.size (fun k e=>by cases e;exact h.c.vb);have G:∀ k,Uses C V k->k≠C.vb->w1.heap[k]? = w.heap[k]? := fun k hu H=>hg.block k (h.lt hu) (by intro e;injection e with e;exact H e);have hcell:∀ {g:Nat} {t:TypeId} {cs:Array Value},Blk w g t cs->g≠C.vb:=fun N e=>zG.qf h.vm N e.symm;have A:∀ {e size n:Nat} {v:Value} {I:List Value},w.ownsRow C.B e size v n I->w1.ownsRow C.B e size v n I:=by
  intro e size n v I hr;exact mSc
 have O:Uses C V C.vb:=.inr (r2 (.inl rfl));have K:Uses C V C.mb:=.inr (r3 (.inl rfl));have J:Uses C V C.fb:=.inr (r4 (.inl rfl));exact⟨h.c,E,(G _ (.inr (.inl rfl)) (hcell h.l)).trans h.l,(G _ (r2 (.inl rfl)) (hcell h.p)).trans h.p,
  hm,h.mm.qa (G _ K h.c.vm.symm),h.fm.qa (G _ J h.c.vf.symm),
  fun b' D=>⟨(h.lm b' D).1.qa (G _ (r6 (.inl D)) (by first | exact(h.lm b' D).2.2.1 | exact(h.lm b' D).2.2.2.1)),(h.lm b' D).2⟩,
  A h.fr,A h.cr,h.asl,fun j a i L hi=>A (h.ar j a i L hi),A h.atr,A h.nr,A h.gr,h.s1,h.s2,h.s3,⟨h.i.fl,h.i.f5,h.i.al,h.i.nl,h.i.gl,h.i.fok⟩⟩
theorem LE.qu (h:LE C w s V)(hm:NM w1 C.mb m)(hg:w.grownBy w1 (some C.mb)):LE C w1 { s with qu:=m } V:=by
 have E:Below C.B C.w0 w1:=h.qk.grown hg h.qk.size (fun k e=>by cases e;exact h.c.mb);have G:∀ k,Uses C V k->k≠C.mb->w1.heap[k]? = w.heap[k]? := fun k hu H=>hg.block k (h.lt hu) (by intro e;injection e with e;exact H e);have hcell:∀ {g:Nat} {t:TypeId} {cs:Array Value},Blk w g t cs->g≠C.mb:=fun N e=>zG.qf h.mm N e.symm;have A:∀ {e size n:Nat} {v:Value} {I:List Value},w.ownsRow C.B e size v n I->w1.ownsRow C.B e size v n I:=by
  intro e size n v I hr;exact mSc
 have K:Uses C V C.vb:=.inr (r2 (.inl rfl));have O:Uses C V C.mb:=.inr (r3 (.inl rfl));have J:Uses C V C.fb:=.inr (r4 (.inl rfl));exact⟨h.c,E,(G _ (.inr (.inl rfl)) (hcell h.l)).trans h.l,(G _ (r2 (.inl rfl)) (hcell h.p)).trans h.p,
  h.vm.qa (G _ K h.c.vm),hm,h.fm.qa (G _ J h.c.mf.symm),
  fun b' D=>⟨(h.lm b' D).1.qa (G _ (r6 (.inl D)) (by first | exact(h.lm b' D).2.2.1 | exact(h.lm b' D).2.2.2.1)),(h.lm b' D).2⟩,
  A h.fr,A h.cr,h.asl,fun j a i L hi=>A (h.ar j a i L hi),A h.atr,A h.nr,A h.gr,h.s1,h.s2,h.s3,⟨h.i.fl,h.i.f5,h.i.al,h.i.nl,h.i.gl,h.i.fok⟩⟩
theorem LE.nvm (h:LE C w s V)(a b:Nat):LE C ((w.setCell (.a C.pb 1) (.i a)).setCell (.a C.pb 2) (.i b)) { s with nv:=a,nm:=b } V:=by
 have D:=h.c.pb;have hm:∀ {g:Nat} {m:NMap},NM w g m->NM ((w.setCell (.a C.pb 1) (.i a)).setCell (.a C.pb 2) (.i b)) g m:=fun hm=>(hm.qi (hm.qf h.p) _).qi (hm.qf h.p) _;have A:∀ {B e size n:Nat} {v:Value} {ys:List Value},w.ownsRow B e size v n ys->e≠211->((w.setCell (.a C.pb 1) (.i a)).setCell (.a C.pb 2) (.i b)).ownsRow B e size v n ys:=fun A E=>zL (zL A h.p E _ _) (h.p.qe 1 _) E _ _;exact⟨h.c,(h.qk.setCell D _).setCell D _,(h.l.qi (h.l.qs h.p yd) _).qi (h.l.qs h.p yd) _,((h.p.qe 1 _).qe 2 _).cast yy,
  hm h.vm,hm h.mm,hm h.fm,fun b hb=>⟨hm (h.lm b hb).1,(h.lm b hb).2⟩,A h.fr yd,A h.cr yd,h.asl,fun j a i ha hi=>A (h.ar j a i ha hi) yd,A h.atr yd,A h.nr yd,A h.gr yd,h.s1,h.s2,h.s3,⟨h.i.fl,h.i.f5,h.i.al,h.i.nl,h.i.gl,h.i.fok⟩⟩
attribute [local go_sem] dclV zU
theorem nlen {b:Nat}(h:NM w b m):(Builtin.len_ #[212] 3 #[.m b]).run prog w=.ok (.i m.length) w :=
 h.len (t:=212) (e:=3) (k:=9) underlying212 3
theorem zww (C:LC)(w:World)(s:Lo)(V:LV)(d:Dcl)(pv bv:Value)(h:LE C w s V)(hx:okNm d.name)(h1:s.known d.name.text=false)(hk:d.kind=118)(h3:s.vars.length≠5) :
  Calls prog 111 #[.p C.lb,dclV d pv bv] w (za4 C w V (zab s d)):=by
 have J:=zH h1;obtain⟨s2,hs2⟩:∃ s2:Lo,s2={ s with vars:=mput s.vars d.name.text s.vars.length }:=⟨_,rfl⟩;have HM:=zH (show zab s d=.ok { s2 with nv:=s2.vars.length,nm:=s2.qu.length } by subst hs2;unfold zab;rw[yg (by rw[h1];simp),yj hk,yg h3]);have G:=zH hk;have h5:((s.vars.length:Int)==5)=false:=zI yo;clear h1 hk h3;have H:=zH h;have I:=zH (zN hx);clear h hx;go_enter func111,ntmps111;go_wp2_with fail;refine(zet C _ s V d.name.text (H.o.alloc _) I.o).mono ?_;rintro e N ⟨rfl,E,D⟩;rw[J.o];have A:=(Blk.newAt (w:=w) (t:=223) (cs:=(zU d pv bv).toArray) rfl).vh D yy yy;have HC:=zH (((Chg.refl 0 [] [] w).alloc _).trans D);obtain⟨hl,hp,hfl,hfp,hll,hlp,_⟩:=E.cells;have hbc:=A.cell;have hbl:=A.lt;have HL:=zH E;have HB:=zH A;clear E D A;have K:((d.kind.toNat:Int)==118)=true:=by rw[G.o];rfl
 have hlen:=nlen HL.o.vm;obtain⟨L,hrun,hm2,hg2,hz2⟩:=HL.o.vm.update nkey underlying212 I.o s.vars.length;have hL2:LE C L s2 V:=by subst hs2;exact HL.o.vars hm2 hg2
 exact mRa
theorem zwv (C:LC)(w:World)(s:Lo)(V:LV)(d:Dcl)(pv bv:Value)(h:LE C w s V)(hx:okNm d.name)(h1:s.known d.name.text=false)(hk:d.kind=109)(h3:s.qu.length≠3) :
  Calls prog 111 #[.p C.lb,dclV d pv bv] w (za4 C w V (zab s d)):=by
 have J:=zH h1;obtain⟨s2,hs2⟩:∃ s2:Lo,s2={ s with qu:=mput s.qu d.name.text s.qu.length }:=⟨_,rfl⟩;have HM:=zH (show zab s d=.ok { s2 with nv:=s2.vars.length,nm:=s2.qu.length } by subst hs2;unfold zab;rw[yg (by rw[h1];simp),yg (fun e:d.kind=118=>absurd (hk.symm.trans e) yd),yj hk,yg h3]);have G:=zH hk;have h5:((s.qu.length:Int)==3)=false:=zI yo;clear h1 hk h3;have H:=zH h;have I:=zH (zN hx);clear h hx;go_enter func111,ntmps111;go_wp2_with fail;refine(zet C _ s V d.name.text (H.o.alloc _) I.o).mono ?_;rintro e O ⟨rfl,E,D⟩;rw[J.o];have A:=(Blk.newAt (w:=w) (t:=223) (cs:=(zU d pv bv).toArray) rfl).vh D yy yy;have HC:=zH (((Chg.refl 0 [] [] w).alloc _).trans D);obtain⟨hl,hp,hfl,hfp,hll,hlp,_⟩:=E.cells;have hbc:=A.cell;have hbl:=A.lt;have HL:=zH E;have HB:=zH A;clear E D A;have K:((d.kind.toNat:Int)==118)=false:=by rw[G.o];rfl
 have L:((d.kind.toNat:Int)==109)=true:=by rw[G.o];rfl
 have hlen:=nlen HL.o.mm;obtain⟨N,hrun,hm2,hg2,hz2⟩:=HL.o.mm.update nkey underlying212 I.o s.qu.length;have hL2:LE C N s2 V:=by subst hs2;exact HL.o.qu hm2 hg2
 exact mRa
attribute [local go_sem] dclV zU
theorem fun_step {w2 w4:World}{f:Fu}{x:ByteArray}{g cap:Nat}{o:Obj}(h1:LE C w1 s V)
  (hrow:w2.ownsRow C.B 228 5 (.s g (s.fs.length+1) cap) (s.fs.length+1) (s.fs.flatMap zal++zal f)) (hg:(w1.drew.alloc o).grownBy w2 V.fsv.ownBlock)
  (hm4:NM w4 C.fb (mput s.qm x s.qm.length)) (hg4:(w2.setCell (.a C.pb 3) (.s g (s.fs.length+1) cap)).grownBy w4 (some C.fb)) (hx:mget s.qm x=none) (h5:s.qm.length≠5) :
  ∃ V',LE C w4 { s with fs:=s.fs++[f],qm:=mput s.qm x s.qm.length } V'/\V'.lm=V.lm:=by
 have A:=(h1.drew).alloc o;have Q:Below C.B C.w0 w2:=A.qk.grown hg A.qk.size fun k e=>(A.fr.lt k e).1;have N:Blk w2 C.pb 211 _:=A.p.append A.fr hg yd;obtain⟨x1,W,Y,x4,O,K⟩:=A.grown (w3:=w2.setCell (.a C.pb 3) (.s g (s.fs.length+1) cap)) A.fr (fun k J h1 h2=>(yt _ _ _ _ h1).trans (hg.block k J h2)) yd;have x7:=N.qe 3 (.s g (s.fs.length+1) cap);have x8:=zL hrow N yd 3 (.s g (s.fs.length+1) cap);have I:=Q.setCell (p:=(.a C.pb 3)) A.c.pb (.s g (s.fs.length+1) cap);obtain⟨w3,U⟩:∃ w3,w3=w2.setCell (.a C.pb 3) (.s g (s.fs.length+1) cap):=⟨_,rfl⟩;rw[<- U]at x1 W Y x4 O K x7 x8 hg4 I;have J:∀ k,k<w3.heap.size->k≠C.fb->w4.heap[k]? = w3.heap[k]? := fun k hu R=>hg4.block k hu (by intro e;injection e with e;exact R e);have D:∀ {g:Nat} {t:TypeId} {cs:Array Value},Blk w3 g t cs->g≠C.fb:=fun L e=>zG.qf x4 L e.symm;have G:∀ {g:Nat} {t:TypeId} {cs:Array Value},Blk w3 g t cs->Blk w4 g t cs:=fun L=>(J _ L.lt (D L)).trans L;have E:∀ {B e size n:Nat} {v:Value} {Z:List Value},w3.ownsRow B e size v n Z->w4.ownsRow B e size v n Z:=by
  intro B e size n v Z E;refine zn E fun k e=>J k (E.lt k e).2 ?_;obtain⟨cs,hh⟩:=zr E e;exact D hh
 have H:(mput s.qm x s.qm.length).length=s.qm.length+1:=by rw[znu,yj hx]
 have hi:=A.i;refine⟨{ V with fsv:=.s g (s.fs.length+1) cap },⟨A.c,I.grown hg4 I.size (fun k e=>by cases e;exact A.c.fb),G x1,(G x7).cast yy,W.qa (J _ W.lt A.c.vf),Y.qa (J _ Y.lt A.c.mf),hm4,
  fun b hb=>⟨(O b hb).1.qa (J _ (O b hb).1.lt (O b hb).2.2.2.2),(O b hb).2⟩,?_,E (K A.cr (.inl yd) yd),A.asl,fun j a i ha hj=>E (K (A.ar j a i ha hj) (.inl yd) yd),
  E (K A.atr (.inl yd) yd),E (K A.nr (.inl yd) yd),E (K A.gr (.inl yd) yd),A.s1,A.s2,A.s3,⟨?_,?_,hi.al,hi.nl,hi.gl,?_⟩⟩,rfl⟩
 ·show World.ownsRow _ C.B _ 5 _ (s.fs++[f]).length ((s.fs++[f]).flatMap zal);rw[yx,List.flatMap_append,List.flatMap_singleton];exact E x8
 ·show(s.fs++[f]).length=_;rw[yx,H,hi.fl];rfl
 ·show(mput s.qm x s.qm.length).length<=5;rw[H];have:=hi.f5;omega
 ·intro p S;show p.2<(s.fs++[f]).length;rw[yx];rcases zf3 S with rfl | S
  ·show s.qm.length<_;rw[hi.fl];exact Nat.lt_succ_self _
  ·exact yb1 (hi.fok p S)
attribute [local go_sem] dclV zU
theorem zwu (C:LC)(w:World)(s:Lo)(V:LV)(d:Dcl)(pv bv:Value)(h:LE C w s V)(hx:okNm d.name)(pa:Option Addr)(pc:Nat)(hpv:pv=.slice pa d.params.length pc)(h1:s.known d.name.text=false)(hk:d.kind=102) :
  Calls prog 111 #[.p C.lb,dclV d pv bv] w (za4 C w V (zab s d)):=by
 have HK:=zH h1;have HM:=zH (show zab s d=(if s.qm.length=5 then .error ⟨8,d.name.at_⟩else .ok { s with qm:=mput s.qm d.name.text s.qm.length,fs:=s.fs++[{ name:=d.name.text,params:=d.params.length }],nv:=s.vars.length,nm:=s.qu.length }) by
  unfold zab;rw[yg (by rw[h1];simp),yg (fun e:d.kind=118=>absurd (hk.symm.trans e) yd),yg (fun e:d.kind=109=>absurd (hk.symm.trans e) yd)])
 have a6:=zH hk;subst hpv;clear h1 hk;have H:=zH h;have HX:=zH (zN hx);clear h hx;go_enter func111,ntmps111;go_wp2_with fail;refine(zet C _ s V d.name.text (H.o.alloc _) HX.o).mono ?_;rintro e w1 ⟨rfl,a1,a0⟩;rw[HK.o];have L:=(Blk.newAt (w:=w) (t:=223) (cs:=(zU d (Value.slice pa d.params.length pc) bv).toArray) rfl).vh a0 yy yy;have HC:=zH (((Chg.refl 0 [] [] w).alloc _).trans a0);obtain⟨hl,hp,ac,ad,aj,ak,_⟩:=a1.cells;have aa:=L.cell;have b2:=L.lt;have D:=zH a1;have HB:=zH L;clear a1 a0 L;have b8:((d.kind.toNat:Int)==118)=false:=by rw[a6.o];rfl
 have b9:((d.kind.toNat:Int)==109)=false:=by rw[a6.o];rfl
 obtain⟨fa,fc,a3⟩:=zX D.o.fr;rw[a3]at hp;have S:=zH a3;clear a3;go_wp2_with fail;refine zh2 22 (fun w'=>w'.cell? (.a C.lb 0)=some (.p C.pb)/\w'.cell? (.a C.pb 3)=some (.slice fa s.fs.length fc)/\∀ j,w'.cell? (.a w.heap.size j)=(zU d (.slice pa d.params.length pc) bv).toArray[j]?) yk rfl rfl yk ?_;simp only[yM,yY];have A:w1.drew.cell? (.a C.lb 0)=some (.p C.pb)/\w1.drew.cell? (.a C.pb 3)=some (.slice fa s.fs.length fc)/\∀ j,w1.drew.cell? (.a w.heap.size j)=(zU d (.slice pa d.params.length pc) bv).toArray[j]? := ⟨by simp[hl],by simp[hp],aa⟩
 iterate 18(refine tK 0 rfl A ?_)
 clear A;refine rdy 18 rfl fun K O=>?_;go_simp;have b7:s.fs.length<=5:=by rw[D.o.i.fl];exact D.o.i.f5
 have Z:=zH D.o.qk.size;have HU:=zH (H.o.fresh (k:=w.heap.size) yL);refine O.o _ _ ⟨by simp[ybe,hl],by simp[ybe,hp],(Blk.alloc HB.o _).cell⟩ (fun A=>?_);clear O K;refine rdy 19 rfl fun K O=>?_;refine zan tyFu rfl _ _ rfl C.B _ s.fs.length (s.fs.flatMap zal) w1.heap.size _ _ ((zi (by have:=D.o.fr;rw[S.o]at this;exact this)).alloc _) (Blk.newAt yy) rfl rfl rfl yE yo (ya Z.o yy) ?_;intro g cap w2 J af a9;have E:=af;rw[<- S.o]at E;have N:=(Blk.append ((D.o.drew.alloc _).p) ((zi D.o.fr).alloc _) E yd);have I:=N.cell;have ae:=N.frozen;rw[S.o]at I;have ah:=(Blk.append ((D.o.drew.alloc _).l) ((zi D.o.fr).alloc _) E yd);have R:=ah.cell;have Q:=(Blk.alloc (Blk.drew HB.o) _).grown E (fun e=>HU.o (r7 (.inl e.symm)));have HS:=zH Q;have a8:=zH J;have ax:=zH N;have U:=zH E;clear N ah J af a9 A E Q;refine O.o _ _ ⟨by simp[R],by simp[I],HS.o.cell⟩ (fun A=>?_);clear O K
 iterate 2(refine tK 20 rfl A ?_)
 refine lst rfl fun K O=>?_;go_simp;refine O _ _ ?_;clear O K A;obtain⟨x1,_,_,x4,_,_⟩:=(D.o.drew.alloc _).grown (w3:=w2.setCell (.a C.pb 3) (.s g (s.fs.length+1) cap)) (D.o.drew.alloc _).fr (fun k hk h1 h2=>(yt _ _ _ _ h1).trans (U.o.block k hk h2)) yd;have x9:=HS.o.qi (p:=(.a C.pb 3)) (HS.o.qs ax.o yd) (.s g (s.fs.length+1) cap);have ab:=((Chg.any (B:=C.B) (bs:=[]) HC.o).below H.o.qk.size);have G:=zH (((ab.trans ((((yn C.B w1).drew).alloc Z.o _).grown U.o (ya Z.o yy) (fun k e=>(D.o.fr.lt k e).1)))).setCell (p:=(.a C.pb 3)) D.o.c.pb (.s g (s.fs.length+1) cap));have b3:=x1.cell;have b1:=x9.cell;have ai:=nlen x4;clear ab hl hp ac ad aj ak aa b2 R I ae;by_cases h5:s.qm.length=5
 ·have az:((s.qm.length:Int)==5)=true:=by rw[h5];rfl
  have Y:=zH (HM.o.trans (yj h5));clear h5;go_wp2_with fail;refine(zb4 _ _ _).mono ?_;rintro e w4 ⟨rfl,rfl⟩;exact⟨rfl,.fault Y.o (zf.new rfl) G.o.size (G.o.alloc (ya H.o.qk.size G.o.size) _)⟩
 ·have az:((s.qm.length:Int)==5)=false:=zI yo;have Y:=zH (HM.o.trans (yg h5));have ap:mget s.qm d.name.text=none:=by
   have a4:=HK.o;unfold Lo.known at a4;cases hq:mget s.qm d.name.text with
   | none=>rfl
   | some q=>rw[hq]at a4;simp at a4
  obtain⟨w4,an,am,ag,b6⟩:=x4.update nkey underlying212 HX.o s.qm.length;obtain⟨V',a2,ao⟩:=fun_step (f:={ name:=d.name.text,params:=d.params.length }) D.o a8.o U.o am ag ap h5;obtain⟨s2,a5⟩:∃ s2:Lo,s2={ s with fs:=s.fs++[{ name:=d.name.text,params:=d.params.length }],qm:=mput s.qm d.name.text s.qm.length }:=⟨_,rfl⟩;have aw:=zH (show zab s d=.ok { s2 with nv:=s2.vars.length,nm:=s2.qu.length } by rw[Y.o,a5]);rw[<- a5]at a2;have a7:=zH a2;have ay:=zH ao;clear am ag b6 a2 ao ap x4 a5 h5;go_wp2_with fail;refine xh (fun W=>LE C W s2 V') a7.o ?_;intro W hL;clear ai an a7 D HB HC x1 x9 b3 b1;obtain⟨hl,hp,ac,ad,aj,ak,bb⟩:=hL.cells;have D:=zH hL;clear hL;have b5:(Builtin.len_ #[212] 3 #[.m C.vb]).run prog W.drew=.ok (.i s2.vars.length) W.drew:=nlen D.o.drew.vm;have b4:(Builtin.len_ #[212] 3 #[.m C.mb]).run prog W.drew=.ok (.i s2.qu.length) W.drew:=nlen D.o.drew.mm;have au:∀ i u,(Builtin.len_ #[212] 3 #[.m C.vb]).run prog (W.drew.setCell (.a C.pb i) u)=.ok (.i s2.vars.length) (W.drew.setCell (.a C.pb i) u):=fun i u=>nlen (D.o.drew.vm.qi (D.o.vm.qf D.o.p) u);have aq:∀ i u,(Builtin.len_ #[212] 3 #[.m C.mb]).run prog (W.drew.setCell (.a C.pb i) u)=.ok (.i s2.qu.length) (W.drew.setCell (.a C.pb i) u):=fun i u=>nlen (D.o.drew.mm.qi (D.o.mm.qf D.o.p) u);go_region;refine ym (yp rfl _ _ _) rfl ?_;exact .inl ⟨_,_,aw.o,rfl,rfl,V',(D.o.nvm _ _).drew,ay.o⟩
theorem zwr (C:LC)(w:World)(s:Lo)(V:LV)(d:Dcl)(pv bv:Value)(h:LE C w s V)(hx:okNm d.name)(pa:Option Addr)(pc:Nat)(hpv:pv=.slice pa d.params.length pc)(A:d.kind=118\/d.kind=109\/d.kind=102) :
  Calls prog 111 #[.p C.lb,dclV d pv bv] w (za4 C w V (zab s d)):=by
 cases h1:s.known d.name.text
 ·rcases A with A | A | A
  ·by_cases h3:s.vars.length=5
   ·exact zwt C w s V d pv bv h hx h1 A h3
   ·exact zww C w s V d pv bv h hx h1 A h3
  ·by_cases h3:s.qu.length=3
   ·exact zws C w s V d pv bv h hx h1 A h3
   ·exact zwv C w s V d pv bv h hx h1 A h3
  ·exact zwu C w s V d pv bv h hx pa pc hpv h1 A
 ·exact zwx C w s V d pv bv h hx h1
end Go.Proofs.YtkmcihhndgdhpaaGreat
