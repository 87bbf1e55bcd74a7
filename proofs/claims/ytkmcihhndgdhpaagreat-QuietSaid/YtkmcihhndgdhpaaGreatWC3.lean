/- Parts of the walk. -/
import Derived.Test.YtkmcihhndgdhpaaGreatWA6
set_option maxRecDepth 100000
set_option maxHeartbeats 4000000
set_option linter.unusedSimpArgs false
set_option linter.unusedVariables false
open Go.Maps Go.RowKit Go.Proofs.Tryz
namespace Go.Proofs.YtkmcihhndgdhpaaGreat
variable {s:Lo}{C:LC}{V:LV}{o:Obj}{w1 w2 w:World}{xb g cap n v:Nat}{x:In}{av:Value}
theorem mPa {p:Prop}(h:p:=by
  rcases hu with hu | hu | hu | hu | hu | hu | hu | hu | hu | hu | hu | hu | hu
  all_goals first
   | exact hgk hu
   | exact .inl hu
   | exact .inr (.inl hu)
   | exact .inr (.inr (.inl hu))
   | exact .inr (r2 (.inl hu))
   | exact .inr (r3 (.inl hu))
   | exact .inr (r4 (.inl hu))
   | exact .inr (r5 (.inl hu))
   | exact .inr (r6 (.inl hu))
   | exact .inr (r7 (.inl hu))
   | exact .inr (r8 (.inl hu))
   | exact .inr (r9 (.inl hu))
   | exact .inr (.inr (.inr (.inr (.inr (.inr (.inr (.inr (.inr (.inr (.inr (.inl hu)))))))))))
   | exact .inr (.inr (.inr (.inr (.inr (.inr (.inr (.inr (.inr (.inr (.inr (.inr hu)))))))))))):p:=h
theorem mJc {p:Prop}(h:p:=by
  clear ho hf hnv;go_enter func298,ntmps298;go_wp2_with fail;refine(zb4 _ _ _).mono ?_;rintro e w4 ⟨rfl,rfl⟩;exact⟨rfl,.fault HM.o (zf.new rfl) yL (yB.alloc H.o.qk.size _)⟩):p:=h
attribute [local go_sem] zT arV
def CLoop (C:LC)(w W0:World)(V:LV)(xb:Nat)(x:In)(t:Stm)(M:Except Flt (List Ar×Lo))(n:Nat)(kv:Value)(W:World):Prop :=
 ∃ (k:Nat) (s:Lo) (done:List Ar) (av:Value),n=t.args.length-k/\k<=t.args.length/\kv=.i k/\LE C W s V/\Blk W xb 309 (zV { x with args:=done } av).toArray /\
  W.ownsRow W0.heap.size 306 2 av done.length (done.flatMap zdm)/\Below C.B w W/\w.heap.size<=W.heap.size/\W0.heap.size<=W.heap.size/\done.length=k/\M=zB (zbd s (t.args.drop k)) fun q=>.ok (done++q.1,q.2)
theorem zu6 {l:List Nm}{k:Nat}{n:Nm}(h:l[k]?=some n):zbd s (l.drop k)=zB (argM s n) fun p=>zB (zbd p.2 (l.drop (k+1))) fun q=>.ok (p.1::q.1,q.2):=by
 obtain⟨A,rfl⟩:=yh.1 h;rw[yay A,zbd]
theorem zu7 {W0 W W2:World}{k:Nat}{t:Stm}{M:Except Flt (List Ar×Lo)}{s1:Lo}{done:List Ar}{a:Ar}(hk:k<t.args.length)(hL:LE C W s1 V)(hu:¬ Uses C V xb)(hX:Blk W xb 309 (zV { x with args:=done } av).toArray)
  (hR:W.ownsRow W0.heap.size 306 2 av done.length (done.flatMap zdm)) (hB:Below C.B w W) (hz:w.heap.size<=W.heap.size) (hz0:W0.heap.size<=W.heap.size) (h0:∀ k,Uses C V k->k<W0.heap.size) (hd:done.length=k) (hM:M=zB (zbd s1 (t.args.drop (k+1))) fun q=>.ok (done++a::q.1,q.2))
  (hrow:W2.ownsRow W0.heap.size 306 2 (.s g (done.length+1) cap) (done.length+1) (done.flatMap zdm++zdm a)) (hg:(W.drew.alloc o).grownBy W2 av.ownBlock) :
  CLoop C w W0 V xb x t M (t.args.length-(k+1)) (.i ((k+1:Nat):Int)) (W2.setCell (.a xb 12) (.s g (done.length+1) cap)):=by
 have H:=(zi hR).alloc o;have E:=((hX.drew).alloc o).append H hg yd;have D:C.B<=xb:=yaq fun J=>hu (.inl J);have K:∀ k,av.ownBlock=some k->C.B<=k:=fun k e=>by
  have h1:=(hR.lt k e).1;have h2:C.B<=k\/k<C.B:=yo;rcases h2 with h2 | h2
  ·exact h2
  ·have:=h0 k (.inl h2);omega
 have A:Below C.B W W2:=(((yn C.B W).drew.alloc hL.qk.size o)).grown hg (by simp;exact yca hL.qk.size) (fun k e=>K k e);have G:LE C W2 s1 V:=hL.same (hL.qk.trans A) fun j I _=>by
  rw[hg.block j (by simp;exact yb1 (hL.lt I)) (by
   intro e;have:=(hR.lt j e.symm).1;have:=h0 j I;omega)]
  exact yak _ o j (hL.lt I)
 refine⟨k+1,s1,done++[a],.s g (done.length+1) cap,rfl,hk,rfl,G.qi hu _,(E.qe 12 _).cast (by simp[zV]),?_,(hB.trans A).setCell D _,?_,?_,by simp[hd],?_⟩
 ·rw[yx,List.flatMap_append];exact zL (by simpa using hrow) E yd _ _
 ·have:=A.size;simp[World.setCell]at this |-;omega
 ·have:=A.size;simp[World.setCell]at this |-;omega
 ·rw[hM];congr 1;funext q
  simp
theorem zv7 (C:LC)(w:World)(s:Lo)(V:LV)(sp xb b:Nat)(t:Stm)(x:In)(hV:V.lm=some b)(h:LE C w s V)(ht:TS C sp t)(hx:XE C w V xb x (.z))(hxa:x.args=[])(c:Nat)(f:Fu)(hg:mget s.qm t.f.text=some c)(hf:s.fs[c]?=some f)(hn:t.args.length=f.params) :
  Calls prog 313 #[.p C.lb,.p sp,.p xb] w (zi3 C w V xb (zbe s t x)):=by
 have HM:=zH (show zbe s t x=zB (zbd s t.args) fun p=>.ok ({ x with call:=c,args:=x.args++p.1 },p.2) by unfold zbe;rw[hg];simp only;rw[yj (by unfold Lo.je;rw[hf];exact hn)]);have HK:=zH (show za1 s.qm t.f.text=c by unfold za1;rw[hg]);have c2:c<s.fs.length:=(yh.1 hf).1;have c3:s.fs.length<=5:=by rw[h.i.fl];exact h.i.f5
 obtain⟨fg,fcap,ae,_,_⟩:=h.fr.form yo;have b9:=zH (show ∀ W,LE C W s V->W.cell? (.a fg (c*5+1))=some (.i f.params)from fun W hW=>by
  have:=hW.fr;rw[ae]at this;rw[this.cellAt (c*5+1) yo,zjt hf 1 yo];rfl)
 have b6:=zH ae;clear hg hf ae;have au:((t.args.length:Int) != (f.params:Int))=false:=bne_eq_false_iff_eq.2 yo;have bd:=zH hxa;clear hxa;obtain⟨hl,hp,ab,ad,N,ag,c5⟩:=h.cells;obtain⟨_,_,_,_,_,_,Q,R,_⟩:=h.qh ht;have c6:sp≠xb:=fun e=>hx.u (.inl (e ▸ ht.lt));have Z:∀ j,w.cell? (.a xb j)=(.j x (.z):Array Value)[j]? := hx.b.cell;have bo:=hx.b.frozen;have a0:=hx.b.lt;have az:C.B<=xb:=yaq fun I=>hx.u (.inl I);have H:=zH h;have HT:=zH ht;have HX:=zH hx;have be:=zH az;clear h hx ht az;go_enter func313,ntmps313;go_wp2_with fail;go_cut [] (fun wx=>zow C w s V xb { x with call:=c } wx)
 case first =>
  go_region_with (go_at_call 114;refine(xn _ _ s.qm _ ((H.o.drew).fm) (zN HT.o.ok.f)).mono ?_;rintro e w' ⟨rfl,rfl⟩;rw[HK.o])
  all_goals go_wp2_with fail
  all_goals go_meet
  all_goals exact⟨(H.o.qi HX.o.u _).drew,(HX.o.store 11 _ (by simp[zV])).drew,((Chg.refl _ _ _ _).setX be.o yy _).drew⟩
 case rest =>
  obtain⟨S,hX,hC⟩:=hcut;clear hl hp ab ad N ag Q R Z bo a0;obtain⟨hl,hp,ab,ad,N,ag,_⟩:=S.cells;rw[b6.o]at hp;obtain⟨aa,ac,ba,bc,ea,ec,Q,R,L,_⟩:=S.qh HT.o;have Z:∀ j,wc.cell? (.a xb j)=#[.i x.op,.i x.place,.i x.fn,.i x.x,.bool x.y.c,.i x.y.n,.bool x.z.c,.i x.z.n,.i x.bin,.i x.var,.i x.site,.i c,.z,.i x.to][j]? := hX.b.cell;have a0:=hX.b.lt;have bm:=b9.o _ S;have HC:=zH hC;have HL:=zH S;have bb:=zH hX;have bu:=zH L;clear S hX hC L;go_wp2_with fail;go_quiet (fail);go_wp2_with fail;refine xh (fun W=>LE C W s V/\XE C W V xb { x with call:=c } (.z)/\Chg C.B [] [xb] w W) ⟨HL.o.drewN _,bb.o.drewN _,HC.o.drewN _⟩ ?_;rintro Y ⟨a8,ap,a7⟩;have a5:=zH (show CLoop C w Y V xb { x with call:=c } t (zbd s t.args) t.args.length (.i 0) Y from
   ⟨0,s,[],.z,rfl,yD _,rfl,a8,ap.b.cast (by simp[zV]),yA _ _ _ _,a7.below H.o.qk.size,a7.size,yr _,rfl,by rw[yal];cases zbd s t.args <;> simp[zB]⟩)
  have aj:=zH (show ∀ k,Uses C V k->k<Y.heap.size from fun k hk=>a8.lt hk);clear a8 ap a7 hl hp ab ad N ag Q R Z a0 bm au;go_loopg [6] t.args.length (fun n v6 wr=>CLoop C w Y V xb { x with call:=c } t (zbd s t.args) n v6 wr)
  case atStart=>exact a5.o
  case round =>
   obtain⟨k,s2,A,av,hn,hk,rfl,S,hX,hR,hB,hz,b1,hd,hM⟩:=hrel;obtain⟨hl,_,_,_,N,_,_⟩:=S.cells;obtain⟨aa,ac,ba,bc,ea,ec,Q,R,L,_⟩:=S.qh HT.o;have J:=zH S;have am:=zH hX;have a4:=zH hR;have ah:=zH hB;have HZ:=zH hz;have bf:=zH b1;have HD:=zH hd;have U:=zH hM;have HN:=zH hn;have a1:=zH L;clear S hX hR hB hz b1 hd hM hn L;by_cases I:k<t.args.length
   ·obtain⟨n,hn⟩:∃ n,t.args[k]?=some n:=⟨_,yc I⟩;obtain⟨ng,br,bk,_,_⟩:=a1.o.form yo;injection bk with aw ax ay;subst aw;have hq:∀ j,j<4->wr.cell? (.a ng (k*4+j))=(zcn n)[j]? := fun j hj=>by rw[a1.o.cellAt (k*4+j) yo,zn3 hn j hj]
    have q0:wr.cell? (.a ng (k*4))=some (.string n.text):=hq 0 yo;have q1:wr.cell? (.a ng (k*4+1))=some (.i n.at_):=hq 1 yo;have q2:wr.cell? (.a ng (k*4+2))=some (.bool n.num):=hq 2 yo;have q3:wr.cell? (.a ng (k*4+3))=some (.i n.n):=hq 3 yo;have a2:=zH (zu6 (s:=s2) hn);have ai:=zH (zN (HT.o.ok.args.1 n (yl hn)));clear hq hn ax ay;go_wp2_with fail;refine(zcu C wr s2 V n b hV J.o ai.o).mono ?_;rintro e w1 (⟨p,v,hr,rfl,rfl,K,D⟩ | ⟨f,b',hr,rfl,bi,bj,D⟩);rotate_left
    ·exact⟨rfl,.fault (HM.o.trans (by rw[U.o,a2.o,hr];rfl)) bi (ya HZ.o bj) (ah.o.trans D)⟩
    have bn:xb≠b:=fun e=>HX.o.u (by rw[e];exact .inr (r5 (.inl hV)));have E:=am.o.vh D yy (by simpa using bn);have G:=za9 a4.o D yy (by
     intro j hj hm;rw[yG.1 hm]at hj;obtain⟨cs,h1⟩:=zr a4.o hj;exact zG.qf (J.o.lm b hV).1 h1 rfl)
    obtain⟨va,vc,bh⟩:=zX G;subst bh;have MS:=zH (show zbd s t.args=zB (zbd p.2 (t.args.drop (k+1))) fun q=>.ok (A++p.1::q.1,q.2) by
     rw[U.o,a2.o,hr,zF,zhd];rfl)
    have c4:A.length<=701:=by
     have:=HD.o;have:=HT.o.ok.args.2;omega
    have HW:=zH (show ∀ o,LE C (w1.alloc o) p.2 V/\Blk (w1.alloc o) xb 309 (zV { { x with call:=c } with args:=A } (.slice va A.length vc)).toArray/\(w1.alloc o).ownsRow Y.heap.size 306 2 (.slice va A.length vc) A.length (A.flatMap zdm) /\
     Below C.B w (w1.alloc o)/\w.heap.size<=(w1.alloc o).heap.size/\Y.heap.size<=(w1.alloc o).heap.size from fun o =>
     ⟨K.alloc o,E.alloc o,G.alloc o,(ah.o.trans (D.below J.o.qk.size)).alloc (ya J.o.qk.size D.size) o,by simp;exact yca (ya HZ.o D.size),by simp;exact yca (ya bf.o D.size)⟩)
    clear hr K D E G hl N Q R q0 q1 q2 q3 a2 U;go_upto_region 9 with fail
    refine xh (fun W=>(LE C W p.2 V/\Blk W xb 309 (zV { { x with call:=c } with args:=A } (.slice va A.length vc)).toArray/\W.ownsRow Y.heap.size 306 2 (.slice va A.length vc) A.length (A.flatMap zdm) /\
     Below C.B w W/\w.heap.size<=W.heap.size/\Y.heap.size<=W.heap.size)/\Blk W w1.heap.size 306 #[.bool p.1.c,.i p.1.n]) ⟨HW.o _,Blk.newAt rfl⟩ ?_
    rintro W ⟨⟨K,E,G,ao,b2,b3⟩,a6⟩;have Z:∀ j,W.cell? (.a xb j)=#[.i x.op,.i x.place,.i x.fn,.i x.x,.bool x.y.c,.i x.y.n,.bool x.z.c,.i x.z.n,.i x.bin,.i x.var,.i x.site,.i c,.slice va A.length vc,.i x.to][j]? := E.cell;have a0:=E.lt;have bz:=a6.cell;have c0:=a6.lt;have b7:=zH K;have ak:=zH E;have a3:=zH G;have b5:=zH ao;have bg:=zH b2;have an:=zH b3;clear K E G ao b2 b3 a6 HW;go_region_law (refine zan tyAr rfl _ _ rfl Y.heap.size _ A.length (A.flatMap zdm) W.heap.size _ _ ((zi a3.o).alloc _) (Blk.newAt yy) rfl rfl rfl yE yo (ya an.o yy) ?_;intro g cap w2 O af aq;(have a9:=Blk.append ((ak.o.drew).alloc _) ((zi a3.o).alloc _) af yd);(have bp:∀ j,w2.cell? (.a xb j)=#[.i x.op,.i x.place,.i x.fn,.i x.x,.bool x.y.c,.i x.y.n,.bool x.z.c,.i x.z.n,.i x.bin,.i x.var,.i x.site,.i c,.slice va A.length vc,.i x.to][j]? := a9.cell);(have bq:=a9.frozen);(have b8:=zH (zu7 I b7.o HX.o.u ak.o a3.o b5.o bg.o an.o aj.o HD.o MS.o O af));clear a9 O af aq)
    all_goals go_wp2_with fail
    all_goals (go_roundg (t.args.length-(k+1)))
    all_goals first | (case measure=>have:=HN.o;omega) | skip
    all_goals (case rel=>rw[show wrap64 ((k:Int)+1)=((k+1:Nat):Int) by rw[show((k+1:Nat):Int)=(k:Int)+1 by omega];exact IntWalk.wrap64_in ((k:Int)+1) (yq HD.o)];exact b8.o)
   ·obtain rfl:k=t.args.length:=yo;have MF:=zH (show zbe s t x=.ok ({ x with call:=c,args:=A },s2)from HM.o.trans (by rw[U.o,yaa,zbd,zF,zF,bd.o];simp));have b4:=zH (show zi3 C w V xb (zbe s t x) (.e) wr from
     .inl ⟨_,_,MF.o,rfl,rfl,J.o,av,⟨am.o,zm a4.o (yaq fun I=>by have:=aj.o _ (.inl I);omega),HX.o.u⟩⟩)
    go_wp2;go_end0;exact b4.o
theorem zp6 (C:LC)(w:World)(s:Lo)(V:LV)(sp xb b:Nat)(t:Stm)(x:In)(hV:V.lm=some b)(h:LE C w s V)(ht:TS C sp t)(hx:XE C w V xb x (.z))(hxa:x.args=[]) :
  Calls prog 313 #[.p C.lb,.p sp,.p xb] w (zi3 C w V xb (zbe s t x)):=by
 cases hg:mget s.qm t.f.text with
 | none=>exact zv8 C w s V sp xb b t x hV h ht hx hxa hg
 | some c =>
  have A:=h.i.fok _ (zdd hg);have hf:s.fs[c]?=some s.fs[c]:=yc A;by_cases hn:t.args.length=(s.fs[c]).params
  ·exact zv7 C w s V sp xb b t x hV h ht hx hxa c _ hg hf hn
  ·exact zv6 C w s V sp xb b t x hV h ht hx hxa c _ hg hf hn
attribute [local go_sem] zT arV
theorem znt {α: Type}{l:List α}{x:α}(h:l.length<n):(l++[x]).length<=n:=by rw[yx];exact h
def zgk (C:LC)(w:World)(V V':LV):Prop:=V'.lm=V.lm/\∀ k,k<w.heap.size->Uses C V' k->Uses C V k
theorem zgk.refl (C:LC)(w:World)(V:LV):zgk C w V V:=⟨rfl,fun _ _ h=>h⟩
theorem at_step (h1:LE C w1 s V)(hb:s.at_.length<48)
  (hrow:w2.ownsRow C.B 3 1 (.s g (s.at_.length+1) cap) (s.at_.length+1) (zag s.at_++[ienc v])) (hg:(w1.drew.alloc o).grownBy w2 V.av.ownBlock) (D:V.av.ownBlock=some g\/g=(w1.drew.alloc o).heap.size) :
  LE C (w2.setCell (.a C.pb 5) (.s g (s.at_.length+1) cap)) { s with at_:=s.at_++[v] } { V with av:=.s g (s.at_.length+1) cap }/\zgk C w1 V { V with av:=.s g (s.at_.length+1) cap }:=by
 have A:=(h1.drew).alloc o;have J:Below C.B C.w0 w2:=A.qk.grown hg A.qk.size fun k e=>(A.atr.lt k e).1;have H:Blk w2 C.pb 211 _:=A.p.append A.atr hg yd;obtain⟨O,Q,R,S,U,I⟩:=A.grown (w3:=w2.setCell (.a C.pb 5) (.s g (s.at_.length+1) cap)) A.atr (fun k E h1 h2=>(yt _ _ _ _ h1).trans (hg.block k E h2)) yd;have G:(w2.setCell (.a C.pb 5) (.s g (s.at_.length+1) cap)).ownsRow C.B 3 1 (.s g (s.at_.length+1) cap) (s.at_++[v]).length (zag (s.at_++[v])):=by
  have:=zL hrow H yd 5 (.s g (s.at_.length+1) cap);simpa [zag] using this
 have K:=zil (n:=s.at_.length+1) D h1.s1 (fun k E=>(A.nr.lt k E).2) cap;have L:=zil (n:=s.at_.length+1) D h1.s2 (fun k E=>(A.gr.lt k E).2) cap;refine⟨⟨A.c,J.setCell A.c.pb _,O,(H.qe 5 _).cast yy,Q,R,S,U,I A.fr (.inl yd) yd,I A.cr (.inl yd) yd,A.asl,fun k a i N hi=>I (A.ar k a i N hi) (.inl yd) yd,
  G,I A.nr (.inr A.s1) yd,I A.gr (.inr A.s2) yd,K,L,A.s3,⟨A.i.fl,A.i.f5,znt hb,A.i.nl,A.i.gl,A.i.fok⟩⟩,rfl,?_⟩
 intro k E hu;have hgk:(some g=some k)->Uses C V k:=fun e=>by
  injection e with e;subst e;rcases D with D | D
  ·exact .inr (r8 (.inl D))
  ·simp at D;omega
 exact mPa
theorem zys (h1:LE C w1 s V)(hb:s.news.length<6)
  (hrow:w2.ownsRow C.B 3 1 (.s g (s.news.length+1) cap) (s.news.length+1) (zag s.news++[ienc v])) (hg:(w1.drew.alloc o).grownBy w2 V.nv.ownBlock) (D:V.nv.ownBlock=some g\/g=(w1.drew.alloc o).heap.size) :
  LE C (w2.setCell (.a C.pb 6) (.s g (s.news.length+1) cap)) { s with news:=s.news++[v] } { V with nv:=.s g (s.news.length+1) cap }/\zgk C w1 V { V with nv:=.s g (s.news.length+1) cap }:=by
 have A:=(h1.drew).alloc o;have J:Below C.B C.w0 w2:=A.qk.grown hg A.qk.size fun k e=>(A.nr.lt k e).1;have H:Blk w2 C.pb 211 _:=A.p.append A.nr hg yd;obtain⟨O,Q,R,S,U,I⟩:=A.grown (w3:=w2.setCell (.a C.pb 6) (.s g (s.news.length+1) cap)) A.nr (fun k E h1 h2=>(yt _ _ _ _ h1).trans (hg.block k E h2)) yd;have G:(w2.setCell (.a C.pb 6) (.s g (s.news.length+1) cap)).ownsRow C.B 3 1 (.s g (s.news.length+1) cap) (s.news++[v]).length (zag (s.news++[v])):=by
  have:=zL hrow H yd 6 (.s g (s.news.length+1) cap);simpa [zag] using this
 have K:=zil (n:=s.news.length+1) D h1.s1.symm (fun k E=>(A.atr.lt k E).2) cap;have L:=zil (n:=s.news.length+1) D h1.s3 (fun k E=>(A.gr.lt k E).2) cap;refine⟨⟨A.c,J.setCell A.c.pb _,O,(H.qe 6 _).cast yy,Q,R,S,U,I A.fr (.inl yd) yd,I A.cr (.inl yd) yd,A.asl,fun k a i N hi=>I (A.ar k a i N hi) (.inl yd) yd,
  I A.atr (.inr A.s1.symm) yd,G,I A.gr (.inr A.s3) yd,K.symm,A.s2,L,⟨A.i.fl,A.i.f5,A.i.al,znt hb,A.i.gl,A.i.fok⟩⟩,rfl,?_⟩
 intro k E hu;have hgk:(some g=some k)->Uses C V k:=fun e=>by
  injection e with e;subst e;rcases D with D | D
  ·exact .inr (r9 (.inl D))
  ·simp at D;omega
 exact mPa
theorem gos_step (h1:LE C w1 s V)(hb:s.qg.length<5)
  (hrow:w2.ownsRow C.B 3 1 (.s g (s.qg.length+1) cap) (s.qg.length+1) (zag s.qg++[ienc v])) (hg:(w1.drew.alloc o).grownBy w2 V.gv.ownBlock) (D:V.gv.ownBlock=some g\/g=(w1.drew.alloc o).heap.size) :
  LE C (w2.setCell (.a C.pb 7) (.s g (s.qg.length+1) cap)) { s with qg:=s.qg++[v] } { V with gv:=.s g (s.qg.length+1) cap }/\zgk C w1 V { V with gv:=.s g (s.qg.length+1) cap }:=by
 have A:=(h1.drew).alloc o;have J:Below C.B C.w0 w2:=A.qk.grown hg A.qk.size fun k e=>(A.gr.lt k e).1;have H:Blk w2 C.pb 211 _:=A.p.append A.gr hg yd;obtain⟨O,Q,R,S,U,I⟩:=A.grown (w3:=w2.setCell (.a C.pb 7) (.s g (s.qg.length+1) cap)) A.gr (fun k E h1 h2=>(yt _ _ _ _ h1).trans (hg.block k E h2)) yd;have G:(w2.setCell (.a C.pb 7) (.s g (s.qg.length+1) cap)).ownsRow C.B 3 1 (.s g (s.qg.length+1) cap) (s.qg++[v]).length (zag (s.qg++[v])):=by
  have:=zL hrow H yd 7 (.s g (s.qg.length+1) cap);simpa [zag] using this
 have K:=zil (n:=s.qg.length+1) D h1.s2.symm (fun k E=>(A.atr.lt k E).2) cap;have L:=zil (n:=s.qg.length+1) D h1.s3.symm (fun k E=>(A.nr.lt k E).2) cap;refine⟨⟨A.c,J.setCell A.c.pb _,O,(H.qe 7 _).cast yy,Q,R,S,U,I A.fr (.inl yd) yd,I A.cr (.inl yd) yd,A.asl,fun k a i N hi=>I (A.ar k a i N hi) (.inl yd) yd,
  I A.atr (.inr A.s2.symm) yd,I A.nr (.inr A.s3.symm) yd,G,A.s1,K.symm,L.symm,⟨A.i.fl,A.i.f5,A.i.al,A.i.nl,znt hb,A.i.fok⟩⟩,rfl,?_⟩
 intro k E hu;have hgk:(some g=some k)->Uses C V k:=fun e=>by
  injection e with e;subst e;rcases D with D | D
  ·exact .inr (.inr (.inr (.inr (.inr (.inr (.inr (.inr (.inr (.inr (.inr (.inl D)))))))))))
  ·simp at D;omega
 exact mPa
attribute [local go_sem] zT arV
def zep (C:LC)(w:World)(V:LV)(xb:Nat)(M:Except Flt (In×Lo)):Ending->World->Prop :=
 zap C w M fun p v w'=>v=.tuple #[]/\∃ V' av,LE C w' p.2 V'/\V'.lm=V.lm/\XE C w' V' xb p.1 av
theorem XE.ints {V':LV}{i:Nat}{v u:Value}{ys:List Value}(h:XE C w1 V xb x av)(h1:LE C w1 s V)(hown:w1.ownsRow C.B 3 1 v n ys)(hg:(w1.drew.alloc o).grownBy w2 v.ownBlock)(hw:zgk C w1 V V') :
  XE C (w2.setCell (.a C.pb i) u) V' xb x av:=by
 have A:=(zi hown).alloc o;have D:=(h1.p.drew.alloc o).append A hg yd;exact⟨((h.b.drew.alloc o).append A hg yd).qi (h.b.qs h1.p yd) _,zL (zgw A hg yd ((zi h.a).alloc o)) D yd _ _,fun hu=>h.u (hw.2 _ h.b.lt hu)⟩
theorem XE.arg {b:Nat}(h:XE C w V xb x av)(hL:LE C w s V)(hV:V.lm=some b)(hc:Chg C.B [] [b] w w1):XE C w1 V xb x av :=
 h.vh hc yy yy (by
  intro hm;rw[yG.1 hm]at h;exact h.u (r6 (.inl hV))) (fun k A hm=>by
  rw[yG.1 hm]at A;obtain⟨cs,h1⟩:=zr h.a A;exact zG.qf (hL.lm b hV).1 h1 rfl)
def AppMid (C:LC)(w:World)(s:Lo)(V:LV)(xb:Nat)(x:In)(W:World):Prop :=
 ∃ V',LE C W s V'/\V'.lm=V.lm/\XE C W V' xb x (.z)/\Below C.B w W/\w.heap.size<=W.heap.size
theorem zpi {V':LV}{i:Nat}{v u:Value}{ys:List Value}(hc:Chg C.B [] [xb] w w1)(hB:C.B<=w.heap.size)(h:LE C (w2.setCell (.a C.pb i) u) s V'/\zgk C w1 V V')
  (hX:∀ V',zgk C w1 V V'->XE C (w2.setCell (.a C.pb i) u) V' xb x (.z)) (hb:Below C.B C.w0 w1) (hown:w1.ownsRow C.B 3 1 v n ys) (hg:(w1.drew.alloc o).grownBy w2 v.ownBlock) :
  AppMid C w s V xb x (w2.setCell (.a C.pb i) u):=by
 have h2:Below C.B w1 w2:=((yn C.B w1).drew.alloc hb.size o).grown hg (by simp;exact yca hb.size) (fun k e=>(hown.lt k e).1);have A:=hc.below hB;have h3:Below C.B w (w2.setCell (.a C.pb i) u):=(A.trans h2).setCell h.1.c.pb _;exact⟨V',h.1,h.2.1,hX V' h.2,h3,h3.size⟩
theorem zyl (C:LC)(w:World)(s:Lo)(V:LV)(sp xb b:Nat)(t:Stm)(x:In)(hV:V.lm=some b)(h:LE C w s V)(ht:TS C sp t)(hx:XE C w V xb x (.z))(hxa:x.args=[])(ho:t.op=6)(hf:s.news.length=6) :
  Calls prog 298 #[.p C.lb,.p sp,.p xb] w (zep C w V xb (xt s t x)):=by
 have HM:=zH (show xt s t x=.error ⟨8,t.mark⟩ by unfold xt;rw[yj ho,yj hf]);obtain⟨na,nc,hnv⟩:=zX h.nr;obtain⟨hl,Q,I,J,K,L,O⟩:=h.cells;obtain⟨_,_,_,_,_,_,S,U,_⟩:=h.qh ht;have W:sp≠xb:=fun e=>hx.u (.inl (e ▸ ht.lt));have Y:∀ j,w.cell? (.a xb j)=(.j x (.z):Array Value)[j]? := hx.b.cell;have Z:=hx.b.frozen;have a0:=hx.b.lt;have A:C.B<=xb:=yaq fun D=>hx.u (.inl D);have N:C.lb≠xb:=h.l.qs hx.b yd;have R:C.pb≠xb:=h.p.qs hx.b yd;have H:=zH h;have HT:=zH ht;have HX:=zH hx;have E:=zH hxa;have G:=zH A;clear h hx ht A hxa;rw[hnv]at Q;have o6:(t.op:Int)=6:=yo;have f6:(s.news.length:Int)=6:=yo;exact mJc
theorem zym (C:LC)(w:World)(s:Lo)(V:LV)(sp xb b:Nat)(t:Stm)(x:In)(hV:V.lm=some b)(h:LE C w s V)(ht:TS C sp t)(hx:XE C w V xb x (.z))(hxa:x.args=[])(ho:t.op=7)(hf:s.qg.length=5) :
  Calls prog 298 #[.p C.lb,.p sp,.p xb] w (zep C w V xb (xt s t x)):=by
 have HM:=zH (show xt s t x=.error ⟨8,t.mark⟩ by unfold xt;rw[yg yo,yj ho,yj hf]);obtain⟨na,nc,hnv⟩:=zX h.gr;obtain⟨hl,Q,I,J,K,L,O⟩:=h.cells;obtain⟨_,_,_,_,_,_,S,U,_⟩:=h.qh ht;have W:sp≠xb:=fun e=>hx.u (.inl (e ▸ ht.lt));have Y:∀ j,w.cell? (.a xb j)=(.j x (.z):Array Value)[j]? := hx.b.cell;have Z:=hx.b.frozen;have a0:=hx.b.lt;have A:C.B<=xb:=yaq fun D=>hx.u (.inl D);have N:C.lb≠xb:=h.l.qs hx.b yd;have R:C.pb≠xb:=h.p.qs hx.b yd;have H:=zH h;have HT:=zH ht;have HX:=zH hx;have E:=zH hxa;have G:=zH A;clear h hx ht A hxa;rw[hnv]at Q;have o6:(t.op:Int)=7:=yo;have f6:(s.qg.length:Int)=5:=yo;exact mJc
theorem zyk (C:LC)(w:World)(s:Lo)(V:LV)(sp xb b:Nat)(t:Stm)(x:In)(hV:V.lm=some b)(h:LE C w s V)(ht:TS C sp t)(hx:XE C w V xb x (.z))(hxa:x.args=[])(ho:t.op=11) :
  Calls prog 298 #[.p C.lb,.p sp,.p xb] w (zep C w V xb (xt s t x)):=by
 have Q:=zH (show xt s t x=zbe s t x by unfold xt;rw[yg yo,yg yo,yj ho]);obtain⟨hl,hp,W,Y,Z,a0,a2⟩:=h.cells;obtain⟨_,_,_,_,_,_,a4,a5,_⟩:=h.qh ht;have a6:sp≠xb:=fun e=>hx.u (.inl (e ▸ ht.lt));have a7:∀ j,w.cell? (.a xb j)=(.j x (.z):Array Value)[j]? := hx.b.cell;have a8:=hx.b.frozen;have a9:=hx.b.lt;have E:C.B<=xb:=yaq fun O=>hx.u (.inl O);have a1:C.lb≠xb:=h.l.qs hx.b yd;have a3:C.pb≠xb:=h.p.qs hx.b yd;have H:=zH h;have R:=zH ht;have S:=zH hx;have J:=zH hxa;have U:=zH E;clear h hx ht E hxa;have o6:(t.op:Int)=11:=yo;clear ho;go_enter func298,ntmps298;go_wp2_with fail;refine(zp6 C w s V sp xb b t x hV H.o R.o S.o J.o).mono ?_;rintro e w1 (⟨p,v,G,rfl,rfl,A,av,D⟩ | ⟨f,g,G,rfl,L,N,K⟩);rotate_left
 ·exact⟨rfl,.fault (Q.o.trans G) L N K⟩
 have I:=zH (show zep C w V xb (xt s t x) (.e) w1 from .inl ⟨p,_,Q.o.trans G,rfl,rfl,V,av,A,rfl,D⟩);clear G A D;go_wp2;go_end0;exact I.o
theorem more_get (C:LC)(w:World)(s:Lo)(V:LV)(sp xb b:Nat)(t:Stm)(x:In)(hV:V.lm=some b)(h:LE C w s V)(ht:TS C sp t)(hx:XE C w V xb x (.z))(hxa:x.args=[])(h6:t.op≠6)(h7:t.op≠7)(h11:t.op≠11) :
  Calls prog 298 #[.p C.lb,.p sp,.p xb] w (zep C w V xb (xt s t x)):=by
 have Q:=zH (show xt s t x=zB (argM s t.y) fun p=>.ok ({ x with y:=p.1 },p.2) by unfold xt;rw[yg h6,yg h7,yg h11]);obtain⟨hl,hp,Z,a0,a1,a2,a4⟩:=h.cells;obtain⟨_,_,_,_,_,_,a6,a7,_⟩:=h.qh ht;have a8:sp≠xb:=fun e=>hx.u (.inl (e ▸ ht.lt));have aa:∀ j,w.cell? (.a xb j)=(.j x (.z):Array Value)[j]? := hx.b.cell;have ab:=hx.b.frozen;have ac:=hx.b.lt;have G:C.B<=xb:=yaq fun O=>hx.u (.inl O);have a3:C.lb≠xb:=h.l.qs hx.b yd;have a5:C.pb≠xb:=h.p.qs hx.b yd;have H:=zH h;have S:=zH ht;have K:=zH hx;have U:=zH hxa;have W:=zH G;clear h hx ht G hxa;have o6:((t.op:Int)==6)=false:=zI yo;have o7:((t.op:Int)==7)=false:=zI yo;have ad:((t.op:Int)==11)=false:=zI yo;clear h6 h7 h11;go_enter func298,ntmps298;go_wp2_with fail;refine(zcu C w s V t.y b hV H.o (zN S.o.ok.y)).mono ?_;rintro e R (⟨p,v,I,rfl,rfl,E,D⟩ | ⟨f,g,I,rfl,L,N,D⟩);rotate_left
 ·exact⟨rfl,.fault (Q.o.trans (by rw[I];rfl)) L N D⟩
 have A:=K.o.arg H.o hV D;have a9:∀ j,R.cell? (.a xb j)=(.j x (.z):Array Value)[j]? := A.b.cell;have Y:=A.b.frozen;have J:=zH (show zep C w V xb (xt s t x) (.e) ((R.setCell (.a xb 4) (.bool p.1.c)).setCell (.a xb 5) (.i p.1.n))from
  .inl ⟨_,_,Q.o.trans (by rw[I];rfl),rfl,rfl,V,_,(E.qi K.o.u _).qi K.o.u _,rfl,(A.store (x':={ x with y:={ x.y with c:=p.1.c } }) 4 (.bool p.1.c) (by simp[zV])).store (x':={ x with y:=p.1 }) 5 (.i p.1.n) (by simp[zV])⟩)
 clear I E A D;go_wp2;go_end0;exact J.o
attribute [local go_sem] zT arV
theorem more_new (C:LC)(w:World)(s:Lo)(V:LV)(sp xb b:Nat)(t:Stm)(x:In)(hV:V.lm=some b)(h:LE C w s V)(ht:TS C sp t)(hx:XE C w V xb x (.z))(hxa:x.args=[])(ho:t.op=6)(hf:s.news.length≠6) :
  Calls prog 298 #[.p C.lb,.p sp,.p xb] w (zep C w V xb (xt s t x)):=by
 have HM:=zH (show xt s t x=.ok ({ x with site:=s.news.length },{ s with news:=s.news++[s.code.length] }) by unfold xt;rw[yj ho,yg hf]);have h6:=h.i.nl;obtain⟨na,nc,D⟩:=zX h.nr;obtain⟨hl,hp,S,U,Y,Z,ah⟩:=h.cells;obtain⟨_,_,_,_,_,_,aa,ab,_⟩:=h.qh ht;have aj:sp≠xb:=fun e=>hx.u (.inl (e ▸ ht.lt));have ac:∀ j,w.cell? (.a xb j)=(.j x (.z):Array Value)[j]? := hx.b.cell;have ad:=hx.b.frozen;have ae:=hx.b.lt;have a3:C.B<=xb:=yaq fun a9=>hx.u (.inl a9);have ag:C.lb≠xb:=h.l.qs hx.b yd;have ai:C.pb≠xb:=h.p.qs hx.b yd;have H:=zH h;have HT:=zH ht;have HX:=zH hx;have af:=zH hxa;have a8:=zH a3;clear h hx ht a3 hxa;rw[D]at hp;have o6:(t.op:Int)=6:=yo;have f6:((s.news.length:Int)==6)=false:=zI yo;have l6:s.news.length<6:=yo;clear ho hf D h6;go_enter func298,ntmps298;go_upto_region 6 with fail
 refine xh (fun W=>LE C W s V/\XE C W V xb { x with site:=s.news.length } (.z)/\Chg C.B [] [xb] w W) ⟨H.o.qi HX.o.u _,HX.o.store (x':={ x with site:=s.news.length }) 10 (.i s.news.length) (by simp[zV]),(Chg.refl _ _ _ _).setX a8.o yy _⟩ ?_;rintro W ⟨J,hX,hC⟩;clear hl hp S U Y Z aa ab ac ad ae;obtain⟨hl,hp,S,U,Y,Z,_⟩:=J.cells;obtain⟨na,nc,D⟩:=zX J.nr;obtain⟨ca,cc,R⟩:=zX J.cr;rw[D,R]at hp;have HL:=zH J;have a7:=zH hX;have HC:=zH hC;have Q:=zH D;have a6:=zH R;have HR:=zH (show W.ownsRow C.B 3 1 (.slice na s.news.length nc) s.news.length (zag s.news) by have:=J.nr;rw[D]at this;exact this);have a5:=zH J.qk.size;clear J hX hC D R;refine zh2 23 (fun w'=>w'.cell? (.a C.lb 0)=some (.p C.pb)/\w'.cell? (.a C.pb 4)=some (.slice ca s.code.length cc)/\w'.cell? (.a C.pb 6)=some (.slice na s.news.length nc)) yk rfl rfl yk ?_;simp only[yM,yY];have A:W.drew.cell? (.a C.lb 0)=some (.p C.pb)/\W.drew.cell? (.a C.pb 4)=some (.slice ca s.code.length cc)/\W.drew.cell? (.a C.pb 6)=some (.slice na s.news.length nc):=by simp[hl,hp]
 iterate 19(refine tK 0 rfl A ?_)
 refine rdy 19 rfl fun K L=>?_;clear A;go_simp;refine L.o _ _ (by simp[ybe,hl,hp]) (fun A=>?_);clear L K;refine rdy 20 rfl fun K L=>?_;refine zan tyInt rfl _ _ rfl C.B _ s.news.length (zag s.news) W.heap.size _ _ ((zi HR.o).alloc _) (Blk.newAt yy) rfl rfl rfl yE yo (ya a5.o yy) ?_;intro g cap w2 I E N;have a0:=(Blk.append ((HL.o.drew.alloc _).p) ((zi HR.o).alloc _) E yd);have G:=a0.cell;have a1:=a0.frozen;rw[Q.o,a6.o]at G;have a2:=(Blk.append ((HL.o.drew.alloc _).l) ((zi HR.o).alloc _) E yd);have O:=a2.cell;have HN:=zH (zpi HC.o H.o.qk.size (zys HL.o l6 I (by rw[Q.o];exact E) (by rw[Q.o];exact N)) (fun V' hw=>a7.o.ints HL.o HR.o E hw) HL.o.qk HR.o E);clear a0 a2 I E N A;refine L.o _ _ (by simp[O,G]) (fun A=>?_);clear L K
 iterate 2(refine tK 21 rfl A ?_)
 refine lst rfl fun K L=>?_;go_simp;refine L _ _ ?_;clear L K A;obtain⟨V',J,hv,hX,hB,hz⟩:=HN.o;have a4:=zH (show zep C w V xb (xt s t x) (.e) _ from .inl ⟨_,_,HM.o,rfl,rfl,V',_,J,hv,hX⟩);clear J hv hX hB hz hl hp S U Y Z G a1 O;go_wp2;go_end0;exact a4.o
attribute [local go_sem] zT arV
theorem more_go (C:LC)(w:World)(s:Lo)(V:LV)(sp xb b:Nat)(t:Stm)(x:In)(hV:V.lm=some b)(h:LE C w s V)(ht:TS C sp t)(hx:XE C w V xb x (.z))(hxa:x.args=[])(ho:t.op=7)(hf:s.qg.length≠5) :
  Calls prog 298 #[.p C.lb,.p sp,.p xb] w (zep C w V xb (xt s t x)):=by
 have HM:=zH (show xt s t x=zbe { s with qg:=s.qg++[s.code.length] } t { x with site:=s.qg.length } by unfold xt;rw[yg yo,yj ho,yg hf]);have h6:=h.i.gl;obtain⟨na,nc,D⟩:=zX h.gr;obtain⟨hl,hp,S,U,Y,Z,au⟩:=h.cells;obtain⟨_,_,_,_,_,_,ak,am,_⟩:=h.qh ht;have ax:sp≠xb:=fun e=>hx.u (.inl (e ▸ ht.lt));have an:∀ j,w.cell? (.a xb j)=(.j x (.z):Array Value)[j]? := hx.b.cell;have ao:=hx.b.frozen;have ap:=hx.b.lt;have a5:C.B<=xb:=yaq fun aj=>hx.u (.inl aj);have aq:C.lb≠xb:=h.l.qs hx.b yd;have aw:C.pb≠xb:=h.p.qs hx.b yd;have H:=zH h;have HT:=zH ht;have HX:=zH hx;have ae:=zH hxa;have af:=zH a5;clear h hx ht a5 hxa;rw[D]at hp;have o6:(t.op:Int)=7:=yo;have f6:((s.qg.length:Int)==5)=false:=zI yo;have l6:s.qg.length<5:=yo;clear ho hf D h6;go_enter func298,ntmps298;go_upto_region 11 with fail
 refine xh (fun W=>LE C W s V/\XE C W V xb { x with site:=s.qg.length } (.z)/\Chg C.B [] [xb] w W) ⟨H.o.qi HX.o.u _,HX.o.store (x':={ x with site:=s.qg.length }) 10 (.i s.qg.length) (by simp[zV]),(Chg.refl _ _ _ _).setX af.o yy _⟩ ?_;rintro W ⟨J,hX,hC⟩;clear hl hp S U Y Z ak am an ao ap;obtain⟨hl,hp,S,U,Y,Z,_⟩:=J.cells;obtain⟨na,nc,D⟩:=zX J.gr;obtain⟨ca,cc,R⟩:=zX J.cr;rw[D,R]at hp;have HL:=zH J;have ac:=zH hX;have HC:=zH hC;have Q:=zH D;have a8:=zH R;have HR:=zH (show W.ownsRow C.B 3 1 (.slice na s.qg.length nc) s.qg.length (zag s.qg) by have:=J.gr;rw[D]at this;exact this);have a7:=zH J.qk.size;clear J hX hC D R;refine zh2 23 (fun w'=>w'.cell? (.a C.lb 0)=some (.p C.pb)/\w'.cell? (.a C.pb 4)=some (.slice ca s.code.length cc)/\w'.cell? (.a C.pb 7)=some (.slice na s.qg.length nc)) yk rfl rfl yk ?_;simp only[yM,yY];have A:W.drew.cell? (.a C.lb 0)=some (.p C.pb)/\W.drew.cell? (.a C.pb 4)=some (.slice ca s.code.length cc)/\W.drew.cell? (.a C.pb 7)=some (.slice na s.qg.length nc):=by simp[hl,hp]
 iterate 19(refine tK 0 rfl A ?_)
 refine rdy 19 rfl fun K L=>?_;clear A;go_simp;refine L.o _ _ (by simp[ybe,hl,hp]) (fun A=>?_);clear L K;refine rdy 20 rfl fun K L=>?_;refine zan tyInt rfl _ _ rfl C.B _ s.qg.length (zag s.qg) W.heap.size _ _ ((zi HR.o).alloc _) (Blk.newAt yy) rfl rfl rfl yE yo (ya a7.o yy) ?_;intro g cap w2 I E N;have a0:=(Blk.append ((HL.o.drew.alloc _).p) ((zi HR.o).alloc _) E yd);have G:=a0.cell;have a3:=a0.frozen;rw[Q.o,a8.o]at G;have a4:=(Blk.append ((HL.o.drew.alloc _).l) ((zi HR.o).alloc _) E yd);have O:=a4.cell;have HN:=zH (zpi HC.o H.o.qk.size (gos_step HL.o l6 I (by rw[Q.o];exact E) (by rw[Q.o];exact N)) (fun V' hw=>ac.o.ints HL.o HR.o E hw) HL.o.qk HR.o E);clear a0 a4 I E N A;refine L.o _ _ (by simp[O,G]) (fun A=>?_);clear L K
 iterate 2(refine tK 21 rfl A ?_)
 refine lst rfl fun K L=>?_;go_simp;refine L _ _ ?_;clear L K A;obtain⟨V',J,hv,hX,hB,hz⟩:=HN.o;have aa:=zH (hv.trans hV);have ab:=zH hv;have a9:=zH J;have ad:=zH hX;have HB:=zH hB;have HZ:=zH hz;clear J hv hX hB hz hl hp S U Y Z G a3 O;go_wp2_with fail;refine(zp6 C _ _ V' sp xb b t _ aa.o a9.o HT.o ad.o ae.o).mono ?_;rintro e w3 (⟨p,v,hr,rfl,rfl,a1,av,a2⟩ | ⟨f,g',hr,rfl,ah,ai,ag⟩);rotate_left
 ·exact⟨rfl,.fault (HM.o.trans hr) ah (ya HZ.o ai) (HB.o.trans ag)⟩
 have a6:=zH (show zep C w V xb (xt s t x) (.e) w3 from .inl ⟨p,_,HM.o.trans hr,rfl,rfl,V',av,a1,ab.o,a2⟩);clear hr a1 a2;go_wp2;go_end0;exact a6.o
end Go.Proofs.YtkmcihhndgdhpaaGreat
