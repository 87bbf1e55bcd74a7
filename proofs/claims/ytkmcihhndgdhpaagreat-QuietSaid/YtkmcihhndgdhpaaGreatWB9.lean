/- Parts of the walk. -/
import Derived.Test.YtkmcihhndgdhpaaGreatWB5
import Derived.Test.YtkmcihhndgdhpaaGreatWB8
set_option maxRecDepth 100000
set_option maxHeartbeats 4000000
set_option linter.unusedSimpArgs false
set_option linter.unusedVariables false
open Go.ChangeMaps Go.Maps Go.RowKit Go.Shelf Go.Proofs.Tryz
namespace Go.Proofs.YtkmcihhndgdhpaaGreat
variable {B fb:Nat}{P:Pr}{V:LkV}{st:PS}{W:World}
def lk0 (P:Pr):LF:=upd2 (fun r _=>if r<3 then 2 ^ P.nm-1 else 0) 1 P.main 0
def LkIs (P:Pr)(st:PS)(Bs:List Nat)(f:LF):Prop:=∃ f1 f2,zh3 (dropsS P) (lk0 P) f1/\zh3 (passS P) f1 f2/\zh3 (zky P st Bs) f2 f
def zo2 (C:AX)(VF:FV)(VP:PtV)(st:PS)(Bs:List Nat)(w:World)(e:Ending)(w':World):Prop :=
 ∃ V f,e=.r (.p V.xb)/\LkM w' w.heap.size VF.fb VP.sb C.P V f/\LkIs C.P st Bs f/\Below w.heap.size w w'
theorem zz6 (args:Array Value)(w:World):(callFunc 230 args).run prog w=.ok (.enter 230 args) w:=enters_of func230 yk rfl args w
theorem zz9 (args:Array Value)(w:World):(callFunc 231 args).run prog w=.ok (.enter 231 args) w:=enters_of func231 yk rfl args w
theorem zz4 (args:Array Value)(w:World):(callFunc 232 args).run prog w=.ok (.enter 232 args) w:=enters_of func232 yk rfl args w
theorem lk_made {w wz:World}{sb full:Nat}(hf:full=2 ^ P.nm-1)(hf48:full<2 ^ 48)(hV:V=⟨w.heap.size+7,fun r=>w.heap.size+r⟩)
  (hx:Blk wz (w.heap.size+7) 388 (za2 P fb sb V))
  (h0:Blk wz (w.heap.size+0) 381 (rowV P.code.length fun _=>full)) (h1:Blk wz (w.heap.size+1) 381 (rowV P.fs.length fun _=>full)) (h2:Blk wz (w.heap.size+2) 381 (rowV P.fs.length fun _=>full))
  (h3:Blk wz (w.heap.size+3) 381 (rowV P.fs.length fun _=>0)) (h4:Blk wz (w.heap.size+4) 381 (rowV P.code.length fun _=>0)) (h5:Blk wz (w.heap.size+5) 381 (rowV P.fs.length fun _=>0)) (h6:Blk wz (w.heap.size+6) 381 (rowV P.fs.length fun _=>0)) :
  LkM wz w.heap.size fb sb P V (fun r _=>if r<3 then 2 ^ P.nm-1 else 0):=by
 subst hf;refine⟨by rw[hV];rw[hV]at hx;exact hx,fun r A=>?_,fun r r' _ _ e=>?_,⟨by rw[hV];show w.heap.size<=w.heap.size+7;omega,fun r _=>by rw[hV];show w.heap.size<=w.heap.size+r;omega⟩,fun r i=>?_⟩
 ·rw[hV]
  match r,A with
  | 0,_=>exact h0
  | 1,_=>exact h1
  | 2,_=>exact h2
  | 3,_=>exact h3
  | 4,_=>exact h4
  | 5,_=>exact h5
  | 6,_=>exact h6
 ·rw[hV]at e;have:w.heap.size+r=w.heap.size+r':=e;omega
 ·show(if r<3 then 2 ^ P.nm-1 else 0)<2 ^ 48;split
  ·exact hf48
  ·omega
theorem zya (C:AX)(w:World)(VF:FV)(Rs Bs:List Nat)(wp:World)(VP:PtV)(st:PS)(x:Nat)(Y:LkY C w VF Rs Bs wp VP st x) :
  Calls prog 153 #[.p VF.fb,.p VP.sb] w (zo2 C VF VP st Bs w):=by
 have bn:∀ (fn:Fn) (first cap:Array Value) (w:World),(Instr.makeFunc fn first cap).run prog w=.ok (.func fn first cap) w:=fun _ _ _ _=>rfl;have HC:=Y.l.f.f.h.c;have c6:=HC.wf.cl;have c5:=HC.wf.c1;have c4:=HC.wf.fl;have bo:=HC.wf.ml;have ai:=HC.wf.main;obtain⟨sb,au⟩:∃ sb,sb=VP.sb:=⟨_,rfl⟩;have ad:=zH au;have HF:=zH (fun(W':World) (hb:Below w.heap.size w W')=>(Y.l.f.below hb yL).f.h);obtain⟨bh,bp⟩:=(HF.o w yB).cells;have bi:=(HF.o w yB).f.lt;have aj:=(HF.o w yB).c.prog.p.lt;have aj:C.pb<w.heap.size:=yi aj (HF.o w yB).ve.size;obtain⟨I,a3⟩:∃ I,I=2 ^ C.P.nm-1:=⟨_,rfl⟩;have a4:I<2 ^ 48:=by
  have:2 ^ C.P.nm<=2 ^ 3:=yO yo bo;omega
 have aw:=zto C.P.nm w yo;rw[<- a3]at aw;have bg:=zH aw;have az:=zH a3;rw[<- au];clear aw a3 au;go_enter func153,ntmps153;go_wp2_with fail;refine bg.o.mono ?_;rintro e w2 ⟨rfl,rfl⟩;go_wp2_with fail;have b1:=zH (HF.o w.drew yB.drew);have J:=b1.o.cells;clear bh bp;refine rgl 17 (fun(W':World)=>(∀ i,W'.cell? (.a VF.fb i)=#[.p C.pb,.m VF.jf,VF.sv,VF.rv,VF.bv,.m VF.vz,.m VF.vu][i]?)/\(∀ i,W'.cell? (.a C.pb i)=(.c C:Array Value)[i]?)) ?_
 iterate 17(refine tK 0 rfl J ?_)
 refine lst rfl fun K hK=>?_;go_simp;refine hK _ _ ?_;clear hK K J b1;have ag:Below w.heap.size w w.drew:=yB.drew;have ab:w.drew.heap.size=w.heap.size:=rfl;generalize w.drew=w0 at ag ab |-;go_wp2_with fail;refine(zhf C.P.code.length I _ yo yo a4).mono ?_;rintro e w1 ⟨rfl,D,b9,bq⟩;go_wp2_with fail;refine(zhf C.P.fs.length I _ yo yo a4).mono ?_;rintro e w2 ⟨rfl,E,ae,br⟩;go_wp2_with fail;have D:=D.below ae D.lt;refine(zhf C.P.fs.length I _ yo yo a4).mono ?_;rintro e w3 ⟨rfl,G,aa,bu⟩;go_wp2_with fail;have D:=D.below aa D.lt;have E:=E.below aa E.lt;refine(zhf C.P.fs.length 0 _ yo yo yo).mono ?_;rintro e w4 ⟨rfl,H,a8,bz⟩;go_wp2_with fail;have D:=D.below a8 D.lt;have E:=E.below a8 E.lt;have G:=G.below a8 G.lt;refine(zhf C.P.code.length 0 _ yo yo yo).mono ?_;rintro e w5 ⟨rfl,L,a5,c0⟩;go_wp2_with fail;have D:=D.below a5 D.lt;have E:=E.below a5 E.lt;have G:=G.below a5 G.lt;have H:=H.below a5 H.lt;refine(zhf C.P.fs.length 0 _ yo yo yo).mono ?_;rintro e w6 ⟨rfl,a1,a2,c2⟩;go_wp2_with fail;have D:=D.below a2 D.lt;have E:=E.below a2 E.lt;have G:=G.below a2 G.lt;have H:=H.below a2 H.lt;have L:=L.below a2 L.lt;refine(zhf C.P.fs.length 0 _ yo yo yo).mono ?_;rintro e w7 ⟨rfl,a9,U,c3⟩;have D:=D.below U D.lt;have E:=E.below U E.lt;have G:=G.below U G.lt;have H:=H.below U H.lt;have L:=L.below U L.lt;have a1:=a1.below U a1.lt;have ak:w1.heap.size=w.heap.size+1:=yo;have am:w2.heap.size=w.heap.size+2:=yo;have an:w3.heap.size=w.heap.size+3:=yo;have ao:w4.heap.size=w.heap.size+4:=yo;have ap:w5.heap.size=w.heap.size+5:=yo;have aq:w6.heap.size=w.heap.size+6:=yo;have bd:w7.heap.size=w.heap.size+7:=yo;have af:Below w.heap.size w w7:=ag.trans ((b9.mono yo).trans ((ae.mono yo).trans ((aa.mono yo).trans ((a8.mono yo).trans ((a5.mono yo).trans ((a2.mono yo).trans (U.mono yo)))))));rw[ab]at D;rw[ak]at E;rw[am]at G;rw[an]at H;rw[ao]at L;rw[ap]at a1;rw[aq]at a9;simp only[ak,am,an,ao,ap,aq,ab];clear b9 ae aa a8 a5 a2 U bq br bu bz c0 c2 c3 ag;go_wp2_with fail;change Code.wp _ _ _ _ (w7.alloc (.k (za2 C.P VF.fb sb ⟨w.heap.size+7,fun r=>w.heap.size+r⟩) 388))
 obtain⟨V,hV⟩:∃ V:LkV,V=⟨w.heap.size+7,fun r=>w.heap.size+r⟩:=⟨_,rfl⟩;rw[<- hV,show w.heap.size+7=V.xb by rw[hV]];have A:Below w7.heap.size w7 (w7.alloc (.k (za2 C.P VF.fb sb V) 388)):=yB.alloc yL _;have S:=zH (lk_made (wz:=w7.alloc (.k (za2 C.P VF.fb sb V) 388)) az.o a4 hV (by rw[<- bd];exact Blk.newAt rfl) (D.below A D.lt) (E.below A E.lt) (G.below A G.lt) (H.below A H.lt) (L.below A L.lt) (a1.below A a1.lt) (a9.below A a9.lt));have a6:=zH (af.trans (A.mono af.size));clear A D E G H L a1 a9 af ak am an ao ap aq bd ab;generalize w7.alloc (.k (za2 C.P VF.fb sb V) 388)=w8 at S a6 |-;have HV:=zH hV;clear hV bi aj;have ah:Below w8.heap.size w8 w8.drew:=yB.drew;have b2:=zH (S.o.below ah);have ax:=zH (a6.o.trans (ah.mono a6.o.size));have J:=And.intro (show ∀ j,w8.drew.cell? (.a V.xb j)=(.k VF.fb sb V.g C.P:Array Value)[j]? from b2.o.x.cell) (HF.o _ ax.o).cells;refine rgl 12 (fun(W':World)=>(∀ j,W'.cell? (.a V.xb j)=(.k VF.fb sb V.g C.P:Array Value)[j]?)/\(∀ i,W'.cell? (.a VF.fb i)=#[.p C.pb,.m VF.jf,VF.sv,VF.rv,VF.bv,.m VF.vz,.m VF.vu][i]?)/\(∀ i,W'.cell? (.a C.pb i)=(.c C:Array Value)[i]?)) ?_
 iterate 12(refine tK 0 rfl J ?_)
 have bj:=(S.o.r 1 yo).frozen;have bk:=(S.o.r 1 yo).lt;have bm:w8.cell? (.a (V.g 1) C.P.main)=some (zA I):=by
  have:=S.o.cell (r:=1) (i:=C.P.main) yo (by unfold zq;simpa using ai);rw[this,az.o];rfl
 refine lst rfl fun K hK=>?_;go_simp;refine hK _ _ ?_;have a7:=zH (show LkM (w8.setCell (.a (V.g 1) C.P.main) (zA 0)).drew w.heap.size VF.fb sb C.P V (lk0 C.P)from(S.o.set yo yo).below yB.drew);have N:=zH (show Below w.heap.size w (w8.setCell (.a (V.g 1) C.P.main) (zA 0)).drew from(a6.o.setCell (p:=(.a (V.g 1) C.P.main)) (S.o.bB.2 1 yo) _).drew);clear hK K J bj bk bm ah b2 ax S a6;generalize (w8.setCell (.a (V.g 1) C.P.main) (zA 0)).drew=w9 at a7 N |-;obtain⟨f0,bb⟩:∃ f0,f0=lk0 C.P:=⟨_,rfl⟩;rw[<- bb]at a7;have ac:∀ s,Bs.getD s 0<2 ^ 48:=fun s=>by
  rw[yab];cases hs:Bs[s]? with
  | none=>simp
  | some v=>exact yi (Y.l.f.small _ _ hs) (yO yo (yq HC.wf.gl))
 have bf:=zH (show ∀ f W,LkM W w.heap.size VF.fb sb C.P V f->Below w.heap.size w W->Calls prog 232 #[.p V.xb] W (zh7 C w VF sb V (zky C.P st Bs (f,false)) W)from fun f W O hb=>by
  have:=zu0 C w VF Rs Bs wp VP st x Y V f W (by rw[<- ad.o];exact O) hb;rw[<- ad.o]at this;exact this)
 go_wp2_with fail;have A:Below w9.heap.size w9 (w9.alloc (.k #[.func (.func 230) #[.p V.xb] #[]] 37)):=yB.alloc yL _;refine(znd (dropsS C.P) (muG (zdc C.P)) 230 w9.heap.size f0 (a7.o.below A) (N.o.trans (A.mono N.o.size)) zz6 (Blk.newAt rfl) (fun f W O hb=>(zw2 C w VF Rs Bs Y.l sb V f W O hb).mono fun _ _ h=>h) (fun f h=>(zm6 HC.wf Y.l.w C.P.code 0 (f,false) (by rw[yal]) h).1)).mono ?_;rintro e wa ⟨rfl,f1,O,a0,Z⟩;have b3:=zH O;have b6:=zH a0;have Q:=zH (show Below w.heap.size w wa from(N.o.trans (A.mono N.o.size)).trans (Z.base O.bB.2 (O.bB.2 3 yo) (ya N.o.size A.size)));clear O a0 Z A;go_wp2_with fail;have A:Below wa.heap.size wa (wa.alloc (.k #[.func (.func 231) #[.p V.xb] #[]] 37)):=yB.alloc yL _;refine(znd (passS C.P) (muL (zdc C.P)) 231 wa.heap.size f1 (b3.o.below A) (Q.o.trans (A.mono Q.o.size)) zz9 (Blk.newAt rfl) (fun f W O hb=>pass_any C w VF Rs Bs Y.l sb V f W O hb) (fun f h=>((zn7 HC.wf C.P.fs 0 (f,false) (by rw[yal]) h).trans (zn8 HC.wf (onB C.P) C.P.code 0 _ (by rw[yal]) (zn7 HC.wf C.P.fs 0 (f,false) (by rw[yal]) h).2)).1)).mono ?_;rintro e wb ⟨rfl,f2,O,a0,Z⟩;have b4:=zH O;have b7:=zH a0;have R:=zH (show Below w.heap.size w wb from(Q.o.trans (A.mono Q.o.size)).trans (Z.base O.bB.2 (O.bB.2 3 yo) (ya Q.o.size A.size)));clear O a0 Z A;go_wp2_with fail;have A:Below wb.heap.size wb (wb.alloc (.k #[.func (.func 232) #[.p V.xb] #[]] 37)):=yB.alloc yL _;refine(znd (zky C.P st Bs) (muG (zdc C.P)) 232 wb.heap.size f2 (b4.o.below A) (R.o.trans (A.mono R.o.size)) zz4 (Blk.newAt rfl) bf.o (fun f h=>(zmq HC.wf Y.l.w ac C.P.code 0 (f,false) (by rw[yal]) h).1)).mono ?_;rintro e wc ⟨rfl,f3,O,a0,Z⟩;have b5:=zH O;have b8:=zH a0;have ay:=zH (show Below w.heap.size w wc from(R.o.trans (A.mono R.o.size)).trans (Z.base O.bB.2 (O.bB.2 3 yo) (ya R.o.size A.size)));clear O a0 Z A;have be:=zH (show zo2 C VF VP st Bs w (.r (.p V.xb)) wc from⟨V,f3,rfl,by rw[<- ad.o];exact b5.o,⟨f1,f2,by rw[<- bb];exact b6.o,b7.o,b8.o⟩,ay.o⟩);clear ac bn;go_wp2;go_ret;exact be.o
section
structure Yk (N E:Nat)(w w':World):Prop where
 os:w'.os=w.os
 tape:w'.tape=w.tape
 output:w'.output=w.output
 size:w.heap.size<=w'.heap.size
 block:∀ (k:Nat) (o:Obj),w.heap[k]?=some o->(k<N\/∀ t,typOf o=some t->t≠69/\(k<E->t≠3/\t≠4/\t≠62))->w'.heap[k]?=some o
section
variable {N E:Nat} {w w' w2:World} {g:Nat} {t:TypeId} {cs:Array Value}
theorem Yk.refl (N E:Nat)(w:World):Yk N E w w:=⟨rfl,rfl,rfl,yr _,fun _ _ h _=>h⟩
theorem Yk.trans (h:Yk N E w w')(k:Yk N E w' w2):Yk N E w w2 :=
 ⟨k.os.trans h.os,k.tape.trans h.tape,k.output.trans h.output,ya h.size k.size,fun i o hi A=>k.block i o (h.block i o hi A) A⟩
theorem Yk.qz (h:Below w.heap.size w w'):Yk N E w w':=⟨h.os,h.tape,h.output,h.size,fun _ _ hi _=>(h.block _ (lt_of_block hi)).trans hi⟩
theorem Yk.below (h:Yk N E w w')(hN:N<=w.heap.size):Below N w w' :=
 ⟨h.os,h.tape,h.output,h.size,fun k A=>by
  have e:w.heap[k]?=some w.heap[k]:=ycv (yi A hN);rw[e];exact h.block k _ e (.inl A)⟩
theorem Yk.kp (h:Yk N E w w'):PtKp w w':=⟨h.size,fun k o A ho=>h.block k o A (.inr fun t ht=>by
 cases o with
 | cells cs e f =>
  injection ht with ht;subst ht;simp only[ptObj,yQ,beq_iff_eq]at ho;rcases ho with rfl | rfl <;> exact⟨by decide,fun _=>⟨by decide,by decide,by decide⟩⟩
 | _=>cases ht)⟩
theorem Yk.map (h:Yk N E w w'){b:Nat}{es:Array MapEntry}{c:Nat}(hb:w.heap[b]?=some (.map es c)):w'.heap[b]? = w.heap[b]? := by
 rw[hb];exact h.block b _ hb (.inr fun t ht=>by cases ht)
theorem MkE.yk {b:Nat}{S:Nat->Bool}(h:MkE w b S)(hy:Yk N E w w'):MkE w' b S:=by
 refine h.qa ?_;obtain⟨m,hm⟩:=h;obtain⟨D,c,A⟩:=hm.is.obj;exact hy.map A
theorem Blk.yk (hb:Blk w g t cs)(h:Yk N E w w')(h1:t≠69)(h2:g<E->t≠3/\t≠4/\t≠62):Blk w' g t cs :=
 h.block g _ hb (.inr fun A e=>by injection e with e;subst e;exact⟨h1,h2⟩)
theorem zly {e size n:Nat}{v:Value}{xs:List Value}(h:w.ownsRow B e size v n xs)(hy:Yk N E w w')(hE:E<=B)(h1:e≠69):w'.ownsRow B e size v n xs:=by
 refine zn h fun k A=>?_;obtain⟨cs,hb⟩:=zr h A;have D:=(h.lt k A).1;exact(hb.yk hy h1 (fun G=>by omega)).trans hb.symm
theorem zc3.below {pb M:Nat}{X:PV}(h:zc3 w B pb P X)(hb:Below M w w')(hM:w.heap.size<=M):zc3 w' B pb P X :=
 ⟨h.pB,h.ok,h.tree.vj hb hM,h.p.below hb (yi h.p.lt hM),zbn h.fr hb fun k e=>yi (h.fr.lt k e).2 hM,zbn h.cr hb fun k e=>yi (h.cr.lt k e).2 hM,h.asl,
  fun k a i h1 h2=>zbn (h.ar k a i h1 h2) hb fun k e=>yi ((h.ar _ a i h1 h2).lt k e).2 hM,
  zbn h.atr hb fun k e=>yi (h.atr.lt k e).2 hM,zbn h.nr hb fun k e=>yi (h.nr.lt k e).2 hM,zbn h.gr hb fun k e=>yi (h.gr.lt k e).2 hM⟩
abbrev AX.at_ (C:AX)(w:World):AX:=⟨w,C.B,C.pb,C.P,C.X,C.fg,C.fcap,C.cg,C.ccap⟩
theorem AXok.at_ {C:AX}(h:AXok C)(hb:C.on w):AXok (C.at_ w):=⟨h.prog.below hb yL,h.wf,h.fsv,h.cv⟩
theorem zcs.yk {C:AX}{w1:World}{V:FV}{Rs Bs:List Nat}(hc:AXok C)(h:zcs (C.at_ w1) w V Rs Bs)(h1:C.on w1)(hy:Yk C.w0.heap.size w1.heap.size w w'):zcs C w' V Rs Bs:=by
 have E:=h1.size;have I:w1.heap.size<=w.heap.size:=h.f.h.ve.size;have G:C.on w':=(h1.trans (h.f.h.ve.mono E)).trans (hy.below yo);have D:=h.f;have A:=D.h;refine⟨⟨⟨hc,G,ya E A.fB,A.f.yk hy yd (fun H=>by have:=A.fB;dsimp only at this;omega),A.on.yk hy,A.lo.yk hy,A.ma.yk hy,ya E A.mB,A.mo,A.ml⟩,ya E D.lB,D.lon,
  zm (zly D.s hy yL yd) E,zm (zly D.r hy yL yd) E,zm (zly D.b hy yL yd) E,
  fun i rb hi=>⟨(D.rm i rb hi).1.yk hy,(D.rm i rb hi).2⟩⟩,h.rl,h.bl,h.small,h.qk⟩
theorem PtM.low {B':Nat}{V:PtV}{out:Nat}{mh:List (Nd×(Nat×Nat))}{mt:List (Nd×Nat)}{mu:List (Nd×Value)}(h:PtM w B fb V st out mh mt mu)(hB:B'<=B):PtM w B' fb V st out mh mt mu :=
 ⟨h.s,h.h,h.hv,h.t,h.tn,fun n b hb=>⟨(h.ti n b hb).1,ya hB (h.ti n b hb).2.1,(h.ti n b hb).2.2⟩,h.t0,h.u,fun n v hv=>zm (h.ur n v hv) hB,h.un,h.u0,
  ⟨ya hB h.bB.1,ya hB h.bB.2.1,ya hB h.bB.2.2.1,ya hB h.bB.2.2.2⟩,h.ne,h.sm⟩
theorem PtAt.yk {wf w0:World}{V:PtV}{out:Nat}(h:PtAt B fb wf V st out w)(hy:Yk N E w w')(hB:w0.heap.size<=B)(hb:Below w0.heap.size w0 w)(hN:N=w0.heap.size):PtAt w0.heap.size fb w0 V st out w':=by
 obtain⟨A,D,mu,hm⟩:=h.m;subst hN;exact⟨hb.trans (hy.below hb.size),ya hb.size hy.size,A,D,mu,(hm.kp hy.kp).low hB⟩
theorem LkM.yk {sb:Nat}{f:LF}(h:LkM w B fb sb P V f)(hy:Yk N E w w'):LkM w' B fb sb P V f :=
 ⟨h.x.yk hy yd (fun _=>by decide),fun r hr=>(h.r r hr).yk hy yd (fun _=>by decide),h.inj,h.bB,h.sm⟩
end
theorem zlx {α: Type}{e:TypeId}{va:Option Addr}{vc:Nat}{l:List α}(enc:α -> Value)(hr:W.ownsRow B e 1 (.slice va l.length vc) l.length (l.map enc)) :
  ∀ (j:Nat) (x:α),l[j]?=some x->∃ A,va=some (.a A 0)/\W.cell? (.a A j)=some (enc x):=fun j x E=>by
 have G:j<l.length:=(yh.1 E).1;obtain⟨A,gc,D,_,_⟩:=hr.form yo;injection D with h1 h2 h3;subst h1;exact⟨A,rfl,by rw[hr.cellAt j yo];simp[E]⟩
theorem ztc {e:TypeId}{va:Option Addr}{n vc size:Nat}{l:List Value}(hr:W.ownsRow B e size (.slice va n vc) n l):n<=vc:=by
 rcases hr.2 with⟨h,D⟩ | ⟨g,cap,A,hv,_,_,E,_⟩
 ·omega
 ·injection hv with _ _ h3;omega
theorem jg_on {C:AX}(hc:AXok C)(hr:WfRp C.P){w wf wj:World}(hon:C.on w){VF:FV}{Rs Bs:List Nat}{VP:PtV}{x jb B2:Nat}{f:LF}
  (hF:zcs (C.at_ w) wj VF Rs Bs) (hP:PtAt B2 VF.fb wf VP st x wj) (hB2:C.w0.heap.size<=B2) (x48:x<2 ^ 48) (hk:LkM wj B VF.fb VP.sb C.P V f)
  (hj:Blk wj jb 304 #[.p C.pb,.p VF.fb,.p VP.sb,.p V.xb]) :
  ∃ J:JV,C=J.C/\st=J.st/\x=J.x/\f=J.f/\jb=J.jb/\VF=J.VF/\∀ W,Yk C.w0.heap.size w.heap.size wj W->zi5 J W:=by
 have A:=hF.yk hc hon (Yk.refl _ _ wj);obtain⟨sa,sc,O⟩:=zZ A.f.s;obtain⟨ra,rc,H⟩:=zZ A.f.r;obtain⟨ba,bc,K⟩:=zZ A.f.b;obtain⟨r0,E⟩:∃ r0,Rs[0]?=some r0:=⟨_,yc (by rw[hF.rl];show 0<_+1;omega)⟩;obtain⟨rg,Y,_⟩:=zlx (fun b=>Value.map (some b)) (H ▸ A.f.r) 0 r0 E;subst Y;obtain⟨ga,gc,S,L⟩:=znk A.f.h;refine⟨⟨C,VF,VP,V,C.w0,st,x,Rs,Bs,f,jb,B,sa,sc,rg,rc,ba,bc,r0,ga,gc⟩,rfl,rfl,rfl,rfl,rfl,rfl,fun W Q=>?_⟩;have h2:=hF.yk hc hon Q;obtain⟨hf,hp⟩:=h2.f.h.cells;have U:(zW C.P).length=C.P.qg.length:=by simp[zW]
 have N:C.on wj:=A.f.h.ve;have R:=h2.f.s;have G:=h2.f.r;have hb:=h2.f.b;rw[O]at R;rw[H]at G;rw[K]at hb;rw[O,H,K,h2.rl,h2.bl,U]at hf;have hR:=zlx (fun b=>Value.map (some b)) G;have D:∀ (i rb:Nat),Rs[i]?=some rb->W.cell? (.a rg i)=some (.m rb):=fun i rb hi=>by
  obtain⟨gb,e,h⟩:=hR i rb hi;injection e with e;injection e with e;subst e;exact h
 have I:=hP.yk Q hB2 N rfl;refine⟨hc,hr,⟨hf,h2.f.h.f.lt,hp,h2.f.h.on,h2.f.h.ve,D 0 r0 E,(h2.f.rm 0 r0 E).1,fun s y Z=>zlx Value.bool R s y Z,fun s y Z=>zlx zA hb s y Z⟩,hj.yk Q yd (fun _=>by decide),I,?_,x48,hk.yk Q,h2.rl,?_,h2.bl,fun i rb hi=>⟨D i rb hi,(h2.f.rm i rb hi).1⟩,S,fun s k R=>?_⟩
 ·obtain⟨_,_,_,hm⟩:=I.m;exact hm.s.cell 4
 ·have:=ztc G;rw[h2.rl]at this;exact this
 ·obtain⟨gb,h1,h3⟩:=L s k R;exact⟨gb,h1,h3 W h2.f.h.ve⟩
theorem JgOn.yk {J:JV}{N E:Nat}{wj:World}(h:∀ W,Yk N E wj W->zi5 J W)(hy:Yk N E wj W):JgOn J W:=fun _ hb=>h _ (hy.trans (Yk.qz hb))
end
end Go.Proofs.YtkmcihhndgdhpaaGreat
