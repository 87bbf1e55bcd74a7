/- Parts of the walk. -/
import Derived.Test.YtkmcihhndgdhpaaGreatWC0
set_option maxRecDepth 100000
set_option maxHeartbeats 4000000
set_option linter.unusedSimpArgs false
set_option linter.unusedVariables false
open Go.Maps Go.RowKit Go.Shelf Go.Proofs.Tryz
namespace Go.Proofs.YtkmcihhndgdhpaaGreat
variable {P:Pr}{k:Nat}
theorem mWa {p:Prop}(h:p:=by
  go_wp2;go_roundg (C.P.code.length-(k+1))
  case measure=>have:=HG.o;omega
  case rel=>rw[show((k:Int)+1)=((k+1:Nat):Int) by omega];exact REL.o):p:=h
theorem mCc {p:Prop}(h:p:=by
  clear HP9 hX;go_wp2;go_roundg (C.P.qg.length-(j+1))
  case measure=>have:=HG2.o;omega
  case rel =>
   rw[show((j:Int)+1)=((j+1:Nat):Int) by omega];have hR:=REL.o;rw[yah]at hR;exact hR):p:=h
section
theorem onB_iff (P:Pr)(k:Nat):onB P k=true↔∃ f,P.fs[P.main]?=some f/\xq (zb6 P) [f.from_] k:=by unfold onB;simp
theorem zrk (P:Pr)(k:Nat):loB P k=true↔k<P.code.length/\xq (zS P) (zS P k) k:=by unfold loB;simp
theorem maB_iff (P:Pr)(g:Nat):maB P g=true↔zfs P (onB P) (loB P) g:=by unfold maB;simp
noncomputable def loTo (P:Pr)(n k:Nat):Bool:=decide (k<n)&&loB P k
theorem loTo_end (P:Pr):loTo P P.code.length=loB P:=by
 funext k
 unfold loTo;cases h:loB P k
 ·rw[ycc]
 ·rw[decide_eq_true ((zrk P k).1 h).1];rfl
theorem zx3 {n:Nat}(h:loB P n=false):loTo P (n+1)=loTo P n:=by
 funext k
 unfold loTo;by_cases e:k=n
 ·subst e;rw[h,ycc,ycc]
 ·rw[show decide (k<n+1)=decide (k<n) by rw[decide_eq_decide];omega]
theorem zx4 {n:Nat}(h:loB P n=true):(fun j=>decide (j=n)||loTo P n j)=loTo P (n+1):=by
 funext k
 unfold loTo;by_cases e:k=n
 ·subst e;rw[h];simp
 ·rw[show decide (k<n+1)=decide (k<n) by rw[decide_eq_decide];omega];simp[e]
theorem zx5 (P:Pr):loTo P 0=fun _=>false:=by funext k;simp[loTo]
structure OfP (C:AX)(w:World)(vp vf:Nat)(V:FV)(on lo ma:Nat->Bool)(Ms:List Bool)(W:World):Prop where
 f:FlM C W V on lo ma Ms [] (rsB C.P) []
 vp:Blk W vp 158 #[.p C.pb]
 vf:Blk W vf 296 #[.p V.fb]
 fb:w.heap.size<=V.fb/\w.heap.size<=V.vz/\w.heap.size<=V.vu
 sw:∀ k,V.sv.ownBlock=some k->w.heap.size<=k
 n:V.rv=.z/\V.bv=.z
 c:Below w.heap.size w W
section
variable {C:AX} {w W W':World} {vp vf:Nat} {V:FV} {on lo ma:Nat->Bool} {Ms:List Bool}
theorem OfP.below (h:OfP C w vp vf V on lo ma Ms W){N:Nat}(hb:Below N W W')(hN:W.heap.size<=N):OfP C w vp vf V on lo ma Ms W' :=
 ⟨h.f.below hb hN,h.vp.below hb (yi h.vp.lt hN),h.vf.below hb (yi h.vf.lt hN),h.fb,h.sw,h.n,h.c.trans (hb.mono (ya h.c.size hN))⟩
theorem OfP.many {x:Bool}{g cap:Nat}(h:OfP C w vp vf V on lo ma Ms W)(hrow:W'.ownsRow C.w0.heap.size 4 1 (.s g (Ms.length+1) cap) (Ms.length+1) (zhb Ms++[.bool x]))(hg:W.grownBy W' V.sv.ownBlock)(A:V.sv.ownBlock=some g\/g=W.heap.size) :
  OfP C w vp vf { V with sv:=.s g (Ms.length+1) cap } on lo ma (Ms++[x]) (W'.setCell (.a V.fb 2) (.s g (Ms.length+1) cap)):=by
 refine⟨h.f.many hrow hg,?_,?_,h.fb,fun k e=>?_,h.n,(h.c.grown hg h.c.size h.sw).setCell h.fb.1 _⟩
 ·exact(h.vp.append h.f.s hg yd).qi (p:=(.a V.fb 2)) (h.vp.qs h.f.h.f yd) _
 ·exact(h.vf.append h.f.s hg yd).qi (p:=(.a V.fb 2)) (h.vf.qs h.f.h.f yd) _
 ·injection e with e;subst e;rcases A with A | A
  ·exact h.sw _ A
  ·rw[A];exact h.c.size
theorem OfP.mark (h:OfP C w vp vf V on lo ma Ms W)(hm:MkE W' V.vz (fun j=>decide (j=k)||lo j))(hg:W.grownBy W' (some V.vz)):OfP C w vp vf V on (fun j=>decide (j=k)||lo j) ma Ms W' :=
 ⟨h.f.markLo hm hg,h.vp.grown hg (fun e=>h.f.h.lo.qf h.vp (by injection e with e;exact e.symm)),h.vf.grown hg (fun e=>h.f.h.lo.qf h.vf (by injection e with e;exact e.symm)),h.fb,h.sw,h.n,h.c.grown hg h.c.size (fun k e=>by cases e;exact h.fb.2.1)⟩
theorem OfP.loop (h:OfP C w vp vf V on lo (fun _=>false) [] W)(hs:V.sv=.z){ma':Nat->Bool}(hf:FlH C W' V on lo ma')(hg:W.grownBy W' (some V.vu)):OfP C w vp vf V on lo ma' [] W':=by
 have A:∀ {g t cs},Blk W g t cs->Blk W' g t cs:=fun hb=>hb.grown hg (fun e=>h.f.h.ma.qf hb (by injection e with e;exact e.symm));refine⟨⟨hf,h.f.lB,h.f.lon,by rw[hs];exact yA _ _ _ _,by rw[h.n.1];exact yA _ _ _ _,by rw[h.n.2];exact yA _ _ _ _,by simp⟩,A h.vp,A h.vf,h.fb,h.sw,h.n,h.c.grown hg h.c.size (fun k e=>by cases e;exact h.fb.2.2)⟩
end
theorem OfP.held {C:AX}{w W W':World}{vp vf:Nat}{V:FV}{on lo ma:Nat->Bool}{Ms:List Bool}{i:In}(h:OfP C w vp vf V on lo ma Ms W)(hg:W.grownBy W' V.sv.ownBlock)(hi:C.P.code[k]?=some i) :
  W'.cell? (.a vf 0)=some (.p V.fb)/\W'.cell? (.a vp 0)=some (.p C.pb)/\W'.cell? (.n C.cg k 2)=some (.i i.fn)/\(∀ i,W'.cell? (.a V.fb i)=#[.p C.pb,.m V.jf,V.sv,V.rv,V.bv,.m V.vz,.m V.vu][i]?)/\(∀ i,W'.cell? (.a C.pb i)=(.c C:Array Value)[i]?):=by
 obtain⟨a,_⟩:=h.f.grown h.f.s hg yd;obtain⟨h1,h2⟩:=a.cells;obtain⟨_,_,A,_,_⟩:=h.f.h.c.ql a.ve hi;exact⟨(h.vf.append h.f.s hg yd).cell 0,(h.vp.append h.f.s hg yd).cell 0,A 2 yo,h1,h2⟩
theorem manyL_at {j:Nat}{i:In}(hk:P.qg[j]?=some k)(hi:P.code[k]?=some i):(zW P)[j]?=some (loB P k||maB P i.fn):=by
 unfold zW;rw[yV,hk];simp only[ybv,hi]
def LoRel (C:AX)(w:World)(vp vf:Nat)(V:FV)(gk:Nat)(kv:Value)(W:World):Prop :=
 ∃ k:Nat,kv=.i k/\gk=C.P.code.length-k/\k<=C.P.code.length/\OfP C w vp vf V (onB C.P) (loTo C.P k) (fun _=>false) [] W
def MnRel (C:AX)(w:World)(vp vf:Nat)(V:FV)(gk:Nat)(kv:Value)(W:World):Prop :=
 ∃ (j:Nat) (sv:Value),kv=.i j/\gk=C.P.qg.length-j/\j<=C.P.qg.length/\OfP C w vp vf { V with sv:=sv } (onB C.P) (loB C.P) (maB C.P) ((zW C.P).take j) W
theorem zxh (C:AX)(HC:AXok C)(w:World)(hon:C.on w) :
  Calls prog 151 #[.p C.pb] w fun e W=>∃ V Rs Bs,e=.r (.p V.fb)/\zcs C W V Rs Bs/\Below w.heap.size w W/\w.heap.size<=V.fb:=by
 have cx:∀ (fn:Fn) (first cap:Array Value) (w:World),(Instr.makeFunc fn first cap).run prog w=.ok (.func fn first cap) w:=fun _ _ _ _=>rfl;have cm:=@run_makeMap prog;have be:=HC.wf.main;have cq:=HC.wf.fl;have cp:=HC.wf.cl;go_enter func151,ntmps151;go_wp2_with fail;have an:Below w.heap.size w (((((w.alloc (.k #[.p C.pb] 158)).alloc (.map #[] 0)).alloc (.map #[] 0)).alloc (.k #[.p C.pb,.map none,.z,.z,.z,.m (w.heap.size+1),.m (w.heap.size+1+1)] 314)).alloc (.k #[.p (w.heap.size+1+1+1)] 296)) :=
  ((((yB.alloc yL _).alloc yy _).alloc (by simp;omega) _).alloc (by simp;omega) _).alloc (by simp;omega) _
 have N:Blk (((((w.alloc (.k #[.p C.pb] 158)).alloc (.map #[] 0)).alloc (.map #[] 0)).alloc (.k #[.p C.pb,.map none,.z,.z,.z,.m (w.heap.size+1),.m (w.heap.size+1+1)] 314)).alloc (.k #[.p (w.heap.size+1+1+1)] 296)) w.heap.size 158 #[.p C.pb]:=((((Blk.newAt rfl).alloc _).alloc _).alloc _).alloc _;have a6:MkE (((((w.alloc (.k #[.p C.pb] 158)).alloc (.map #[] 0)).alloc (.map #[] 0)).alloc (.k #[.p C.pb,.map none,.z,.z,.z,.m (w.heap.size+1),.m (w.heap.size+1+1)] 314)).alloc (.k #[.p (w.heap.size+1+1+1)] 296)) (w.heap.size+1) (fun _=>false):=MkE.alloc (MkE.alloc (MkE.alloc ⟨_,by have:=zlm (w.alloc (.k #[.p C.pb] 158));rwa [ybq]at this⟩ _) _) _;have a7:MkE (((((w.alloc (.k #[.p C.pb] 158)).alloc (.map #[] 0)).alloc (.map #[] 0)).alloc (.k #[.p C.pb,.map none,.z,.z,.z,.m (w.heap.size+1),.m (w.heap.size+1+1)] 314)).alloc (.k #[.p (w.heap.size+1+1+1)] 296)) (w.heap.size+1+1) (fun _=>false):=MkE.alloc (MkE.alloc ⟨_,by have:=zlm ((w.alloc (.k #[.p C.pb] 158)).alloc (.map #[] 0));rwa [ybq,ybq]at this⟩ _) _;have Z:Blk (((((w.alloc (.k #[.p C.pb] 158)).alloc (.map #[] 0)).alloc (.map #[] 0)).alloc (.k #[.p C.pb,.map none,.z,.z,.z,.m (w.heap.size+1),.m (w.heap.size+1+1)] 314)).alloc (.k #[.p (w.heap.size+1+1+1)] 296)) (w.heap.size+1+1+1) 314 #[.p C.pb,.map none,.z,.z,.z,.m (w.heap.size+1),.m (w.heap.size+1+1)]:=(Blk.newAt yy).alloc _;have L:Blk (((((w.alloc (.k #[.p C.pb] 158)).alloc (.map #[] 0)).alloc (.map #[] 0)).alloc (.k #[.p C.pb,.map none,.z,.z,.z,.m (w.heap.size+1),.m (w.heap.size+1+1)] 314)).alloc (.k #[.p (w.heap.size+1+1+1)] 296)) (w.heap.size+1+1+1+1) 296 #[.p (w.heap.size+1+1+1)]:=Blk.newAt yy;generalize cf:(((((w.alloc (.k #[.p C.pb] 158)).alloc (.map #[] 0)).alloc (.map #[] 0)).alloc (.k #[.p C.pb,.map none,.z,.z,.z,.m (w.heap.size+1),.m (w.heap.size+1+1)] 314)).alloc (.k #[.p (w.heap.size+1+1+1)] 296))=w1 at an N a6 a7 Z L |-;obtain⟨vp,ax⟩:∃ x,x=w.heap.size:=⟨_,rfl⟩;obtain⟨lob,aa⟩:∃ x,x=w.heap.size+1:=⟨_,rfl⟩;obtain⟨mab,ab⟩:∃ x,x=w.heap.size+1+1:=⟨_,rfl⟩;obtain⟨fb,ah⟩:∃ x,x=w.heap.size+1+1+1:=⟨_,rfl⟩;obtain⟨vf,au⟩:∃ x,x=w.heap.size+1+1+1+1:=⟨_,rfl⟩;rw[<- ax]at N;rw[<- au,<- ah]at L;rw[<- ah,<- ab,<- aa]at Z;rw[<- ab]at a7;rw[<- aa]at a6;rw[<- au,<- ah,<- ab,<- aa,<- ax];have HE:=zH (show w.heap.size<=fb/\w.heap.size<=lob/\w.heap.size<=mab/\lob≠mab/\fb≠vf by omega);have U:C.on w1:=hon.trans (an.mono hon.size);clear ax aa ab ah au cf cm;obtain⟨f,hf⟩:∃ f,C.P.fs[C.P.main]?=some f:=⟨_,yc be⟩;have HF:=zH hf;have HS:=zH (show ∀ Y,Below w1.heap.size w1 Y->(Y.cell? (.a vf 0)=some (.p fb)/\Y.cell? (.a vp 0)=some (.p C.pb)/\Y.cell? (.a C.fg (C.P.main*5+3))=some (.i f.from_)/\(∀ i,Y.cell? (.a C.pb i)=(.c C:Array Value)[i]?))from fun Y hb =>
  ⟨(L.below hb L.lt).cell 0,(N.below hb N.lt).cell 0,HC.jd (U.trans (hb.mono U.size)) hf 3 yo,HC.vt (U.trans (hb.mono U.size))⟩)
 refine rgl 17 (fun Y=>Y.cell? (.a vf 0)=some (.p fb)/\Y.cell? (.a vp 0)=some (.p C.pb)/\Y.cell? (.a C.fg (C.P.main*5+3))=some (.i f.from_)/\(∀ i,Y.cell? (.a C.pb i)=(.c C:Array Value)[i]?)) ?_;have A:=HS.o _ (yn _ w1).drew
 iterate 13(refine tK 0 rfl A ?_)
 refine rdy 13 rfl fun K G=>?_;go_simp;have E:=zH (((yn _ w1).drew).alloc yL (.k #[.i f.from_] 3));have c8:Blk (w1.drew.alloc (.k #[.i f.from_] 3)) w1.heap.size 3 #[.i f.from_]:=Blk.newAt rfl;refine G.o _ _ (HS.o _ E.o) (fun A=>?_);clear G K;refine rdy 14 rfl fun K G=>?_;go_simp;refine(from_on HC _ fb vf vp w1.heap.size C.P.main f HF.o (U.trans (E.o.mono U.size)) ((Z.below E.o Z.lt).cell 0) ((L.below E.o L.lt).cell 0) ((N.below E.o N.lt).cell 0) ⟨yi Z.lt E.o.size,yi L.lt E.o.size,yi N.lt E.o.size⟩ c8).mono ?_;rintro e w3 a3;obtain⟨onb,S,rfl,c5,c4,am,bj⟩:=a3.mk;have Q:Below w1.heap.size w1 w3:=E.o.trans (bj.mono yy);refine G.o _ _ (HS.o _ Q) (fun A=>?_);clear G K
 iterate 2(refine tK 15 rfl A ?_)
 have J:=Z.below Q Z.lt;have a0:=J.cell;have a1:=J.frozen;have D:=J.lt;refine lst rfl fun K G=>?_;go_simp;refine G _ _ ?_;clear G K A a0 a1 D HS;have b4:C.on w3:=U.trans (Q.mono U.size);have ap:=L.below Q L.lt;have aw:=N.below Q N.lt;have b1:=a6.below Q a6.lt;have b2:=a7.below Q a7.lt;have c3:MkE w3 onb (onB C.P):=c4.cast fun k=>by
  rw[am,onB_iff];refine⟨fun h=>⟨f,HF.o,h⟩,?_⟩;rintro⟨f',h1,h2⟩;rw[HF.o]at h1;injection h1 with h1;subst h1;exact h2
 have ca:w.heap.size<=w1.heap.size:=an.size;have c6:w1.heap.size<=onb:=ya yy c5;have aj:=zH (show OfP C w vp vf ⟨fb,onb,lob,mab,.z,.z,.z⟩ (onB C.P) (loTo C.P 0) (fun _=>false) [] (w3.setCell (.a fb 1) (.m onb))from by
  have hH:FlH C (w3.setCell (.a fb 1) (.m onb)) ⟨fb,onb,lob,mab,.z,.z,.z⟩ (onB C.P) (loTo C.P 0) (fun _=>false) :=
   ⟨HC,b4.setCell (p:=(.a fb 1)) (ya hon.size HE.o.1) _,ya hon.size HE.o.1,(J.qe 1 _).cast rfl,c3.farB J _ _,by rw[zx5];exact b1.farB J _ _,b2.farB J _ _,ya hon.size HE.o.2.2.1,
    fun e=>by have:=a7.lt;simp only at e;omega,fun e=>HE.o.2.2.2.1 e.symm⟩
  exact⟨⟨hH,ya hon.size HE.o.2.1,fun e=>by have:=a6.lt;simp only at e;omega,yA _ _ _ _,yA _ _ _ _,yA _ _ _ _,by simp⟩,
   aw.qi (p:=(.a fb 1)) (aw.qs J yd) _,ap.qi (p:=(.a fb 1)) (ap.qs J yd) _,⟨HE.o.1,HE.o.2.1,HE.o.2.2.1⟩,fun k e=>(by cases e),⟨rfl,rfl⟩,(an.trans (Q.mono ca)).setCell (p:=(.a fb 1)) HE.o.1 _⟩)
 generalize ch:w3.setCell (.a fb 1) (.m onb)=w4 at aj |-;clear ch J ap aw b1 b2 c3 c4 am bj c5 E c8 b4 Q N a6 a7 Z L an c6 ca a3 hf U;have ST:=zH (show LoRel C w vp vf ⟨fb,onb,lob,mab,.z,.z,.z⟩ C.P.code.length (.i 0) w4 from⟨0,rfl,rfl,yD _,aj.o⟩);have a5:=aj.o.vp.cell;have hp:=(aj.o.f.h.cells).2;have c7:C.pb<w4.heap.size:=yi HC.prog.p.lt aj.o.f.h.ve.size;clear aj;go_wp2_with fail;clear a5 hp c7;go_loopg [34] C.P.code.length (fun gk v34 wr=>LoRel C w vp vf ⟨fb,onb,lob,mab,.z,.z,.z⟩ gk v34 wr)
 case atStart=>exact ST.o
 case round =>
  obtain⟨k,rfl,hg,hk,hP⟩:=hrel;have HG:=zH hg;have HP:=zH hP;have a5:=hP.vp.cell;have I:=hP.vf.cell;have ay:=hP.vp.lt;have ai:=hP.vf.lt;have D:=hP.f.h.f.lt;obtain⟨a2,hp⟩:=hP.f.h.cells
  dsimp only at a2 I D
  clear hg hP;by_cases af:k<C.P.code.length
  ·obtain⟨i,hi⟩:∃ i,C.P.code[k]?=some i:=⟨_,yc af⟩;have HI:=zH hi;clear hi;go_wp2_with fail;refine rgl 7 (fun Y=>Y.cell? (.a vf 0)=some (.p fb)) ?_;have ad:=zH (HP.o.below (yn wr.heap.size wr).drew yL);have A:wr.drew.cell? (.a vf 0)=some (.p fb):=I 0
   iterate 4(refine tK 0 rfl A ?_)
   refine tK 6 rfl A ?_;refine rdy 4 rfl fun K G=>?_;go_simp;refine(zjq C HC wr.drew fb k i ad.o.f.h.ve (a2 0) HI.o).mono ?_;rintro e w5 ⟨v,rfl,ao,b3,bk⟩;have O:=zH (ad.o.below bk yL);obtain⟨va,vc,rfl⟩:=zZ ao;refine G.o _ _ ((O.o.vf).cell 0) (fun A=>?_);clear G K;refine rdy 5 rfl fun K G=>?_;go_simp;refine(zxj HC w5 fb k va vc _ O.o.f.h.ve (O.o.f.h.cells.1 0) O.o.f.h.f.lt ao (fun h=>by have:=b3 h;rw[h]at this;injection this with h1 _ h2;exact⟨h1,h2⟩)).mono ?_;rintro e w6 a3;obtain⟨mb,S,rfl,hmb,bz,am,bm⟩:=a3.mk;have ac:=zH (O.o.below bm yL);have bi:S k=loB C.P k:=by
    rw[yS,am,zrk];exact⟨fun h=>⟨af,h⟩,fun h=>h.2⟩
   refine G.o _ _ ((ac.o.vf).cell 0) (fun A=>?_);clear G K ao b3 bk am a3 bm O ad a5 I ay ai D a2 hp HP;refine lst rfl fun K G=>?_;go_simp;refine(hasE w6 mb k S bz yo).mono ?_;rintro e w7 ⟨rfl,rfl⟩;rw[bi];refine G _ _ ?_;clear G K A bz bi;have I:=ac.o.vf.cell;have ai:=ac.o.vf.lt;have D:=ac.o.f.h.f.lt;obtain⟨a2,hp⟩:=ac.o.f.h.cells
   dsimp only at a2 I D
   cases hlo:loB C.P k
   ·have REL:=zH (show LoRel C w vp vf ⟨fb,onb,lob,mab,.z,.z,.z⟩ (C.P.code.length-(k+1)) (.i ((k+1:Nat):Int)) w6 from⟨k+1,rfl,rfl,af,by rw[zx3 hlo];exact ac.o⟩);clear hlo;exact mWa
   ·obtain⟨w8,c9,bu,bp⟩:=ac.o.f.h.lo.put (k:=k) yo;have b5:=ac.o.mark bu bp;rw[zx4 hlo]at b5;have REL:=zH (show LoRel C w vp vf ⟨fb,onb,lob,mab,.z,.z,.z⟩ (C.P.code.length-(k+1)) (.i ((k+1:Nat):Int)) w8 from⟨k+1,rfl,rfl,af,b5⟩)
    dsimp only at c9
    clear hlo bu bp b5;exact mWa
  ·obtain rfl:k=C.P.code.length:=yo;have b8:=HP.o;rw[loTo_end]at b8;have bg:=zH b8;clear b8 HP;go_wp2_with fail;have E:=(yn wr.heap.size wr).alloc yL (.k #[.func (.func 222) #[.p fb] #[]] 37);have H:=zH (bg.o.below E yL);refine(zxg (rb:=wr.heap.size) H.o.f.h (Blk.newAt rfl)).mono ?_;rintro e w5 ⟨rfl,ma,bh,c0,bo⟩;have c2:ma=maB C.P:=by
    funext g
    rw[yS,c0 g,maB_iff]
   subst c2;have O:=zH (H.o.loop rfl bh bo);clear E bh c0 bo H bg a5 I ay ai D a2 hp;have a5:=O.o.vp.cell;have I:=O.o.vf.cell;have D:=O.o.f.h.f.lt;obtain⟨a2,hp⟩:=O.o.f.h.cells;obtain⟨ga,gc,bd,br⟩:=znk O.o.f.h;have cd:=zH br;have co:=zH bd;have cu:=HC.wf.gl;simp only[bd]at hp
   dsimp only at a2 I D
   have ce:=zH (show MnRel C w vp vf ⟨fb,onb,lob,mab,.z,.z,.z⟩ C.P.qg.length (.i 0) w5 from⟨0,.z,rfl,rfl,yD _,by rw[yY];exact O.o⟩);clear br bd O;go_wp2_with fail;clear a5 I a2 hp D;go_loopg [60] C.P.qg.length (fun gk v60 wr=>MnRel C w vp vf ⟨fb,onb,lob,mab,.z,.z,.z⟩ gk v60 wr)
   case atStart=>exact ce.o
   case round =>
    obtain⟨j,sv,rfl,hg,hj,hP⟩:=hrel;have HG2:=zH hg;have HP:=zH hP;have a5:=hP.vp.cell;have I:=hP.vf.cell;have ay:=hP.vp.lt;have ai:=hP.vf.lt;have D:=hP.f.h.f.lt;obtain⟨a2,hp⟩:=hP.f.h.cells
    dsimp only at a2 I D
    clear hg hP;by_cases af:j<C.P.qg.length
    ·obtain⟨k,hk⟩:∃ k,C.P.qg[j]?=some k:=⟨_,yc af⟩;obtain⟨gb,cj,bq⟩:=cd.o j k hk;subst cj;have ct:wr.cell? (.a gb j)=some (.i k):=bq wr HP.o.f.h.ve;obtain⟨i,hi,h7,cw,ci,cs⟩:=zld HC.wf hk;have HI:=zH hi;have ag:=manyL_at hk hi;have bf:=zH (show((zW C.P).take j).length<=5 by rw[yah];omega);clear hi h7 hk bq;go_wp2_with fail;refine rgl 30 (fun Y=>Y.cell? (.a vf 0)=some (.p fb)/\Y.cell? (.a vp 0)=some (.p C.pb)/\Y.cell? (.n C.cg k 2)=some (.i i.fn)/\(∀ i,Y.cell? (.a fb i)=#[.p C.pb,.m onb,sv,.z,.z,.m lob,.m mab][i]?)/\(∀ i,Y.cell? (.a C.pb i)=(.c C:Array Value)[i]?)) ?_;have az:=(yn wr.heap.size wr).drew;have ad:=zH (HP.o.below az yL);have b7:=zH (show ∀ Y,Below wr.heap.size wr Y->Y.cell? (.a vf 0)=some (.p fb)/\Y.cell? (.a vp 0)=some (.p C.pb)/\Y.cell? (.n C.cg k 2)=some (.i i.fn)/\(∀ i,Y.cell? (.a fb i)=#[.p C.pb,.m onb,sv,.z,.z,.m lob,.m mab][i]?)/\(∀ i,Y.cell? (.a C.pb i)=(.c C:Array Value)[i]?)from fun Y hb=>by
      have h:=HP.o.below hb yL;obtain⟨h1,h2⟩:=h.f.h.cells;obtain⟨_,_,ck,_,_⟩:=HC.ql h.f.h.ve HI.o;exact⟨h.vf.cell 0,h.vp.cell 0,ck 2 yo,h1,h2⟩)
     have A:=b7.o _ az
     iterate 10(refine tK 0 rfl A ?_)
     refine rdy 10 rfl fun K G=>?_;go_simp;refine(hasE _ lob k (loB C.P) ad.o.f.h.lo yo).mono ?_;rintro e w7 ⟨rfl,rfl⟩;refine G.o _ _ A (fun A=>?_);clear G K;cases hlo:loB C.P k
     ·have a8:=ag;rw[hlo]at a8;simp only[yc5]at a8;clear ag hlo
      iterate 13(refine tK 11 rfl A ?_)
      refine rdy 24 rfl fun K G=>?_;go_simp;refine(hasE _ mab i.fn (maB C.P) ad.o.f.h.ma yo).mono ?_;rintro e w7 ⟨rfl,rfl⟩;refine G.o _ _ A (fun A=>?_);clear G K;refine tK 25 rfl A ?_;refine rdy 26 rfl fun K G=>?_;go_simp;have hX:(zW C.P)[j]?=some (maB C.P i.fn):=by first | exact a8 | (rw[a8];simp)
      have E:=(yn wr.drew.heap.size wr.drew).alloc yL (.k #[.bool (maB C.P i.fn)] 4);have H:=zH (ad.o.below E yL);refine G.o _ _ (b7.o _ (az.trans (E.mono yL))) (fun A=>?_);clear G K E;refine rdy 27 rfl fun K G=>?_;refine zan zt4 rfl _ _ rfl C.w0.heap.size _ ((zW C.P).take j).length (zhb ((zW C.P).take j)) wr.heap.size _ _ H.o.f.s (Blk.newAt rfl) rfl rfl rfl yE (yq bf.o) (by have:=H.o.f.h.ve.size;exact this) ?_;intro g9 ak w9 a4 a9 ae;have HP9:=zH (H.o.many a4 a9 ae);have R:=(H.o.f.grown H.o.f.s a9 yd).1;have a0:=R.cells.1;have a1:=R.f.frozen;have D:=R.f.lt;have b6:=zH (OfP.held H.o a9 HI.o);clear R a4 a9 ae H
      dsimp only at a0 a1 D
      refine G.o _ _ b6.o (fun A=>?_);clear G K
      iterate 2(refine tK 28 rfl A ?_)
      refine lst rfl fun K G=>?_;go_simp;refine G _ _ ?_;clear G K A a0 a1 D;have REL:=zH (show MnRel C w vp vf ⟨fb,onb,lob,mab,.z,.z,.z⟩ (C.P.qg.length-(j+1)) (.i ((j+1:Nat):Int)) (w9.setCell (.a fb 2) (.s g9 (((zW C.P).take j).length+1) ak))from
       ⟨j+1,_,rfl,rfl,af,by
        have h9:=HP9.o;rw[show(zW C.P).take j++[(maB C.P i.fn)]=(zW C.P).take (j+1) by rw[yam,hX];rfl]at h9;exact h9⟩)
      exact mCc
     ·have a8:=ag;rw[hlo]at a8;simp only[ybc]at a8;clear ag hlo;refine tK 11 rfl A ?_
      iterate 13(refine sK 12 rfl A ?_)
      refine tK 25 rfl A ?_;refine rdy 26 rfl fun K G=>?_;go_simp;have hX:(zW C.P)[j]?=some (true):=by first | exact a8 | (rw[a8];simp)
      have E:=(yn wr.drew.heap.size wr.drew).alloc yL (.k #[.bool (true)] 4);have H:=zH (ad.o.below E yL);refine G.o _ _ (b7.o _ (az.trans (E.mono yL))) (fun A=>?_);clear G K E;refine rdy 27 rfl fun K G=>?_;refine zan zt4 rfl _ _ rfl C.w0.heap.size _ ((zW C.P).take j).length (zhb ((zW C.P).take j)) wr.heap.size _ _ H.o.f.s (Blk.newAt rfl) rfl rfl rfl yE (yq bf.o) (by have:=H.o.f.h.ve.size;exact this) ?_;intro g9 ak w9 a4 a9 ae;have HP9:=zH (H.o.many a4 a9 ae);have R:=(H.o.f.grown H.o.f.s a9 yd).1;have a0:=R.cells.1;have a1:=R.f.frozen;have D:=R.f.lt;have b6:=zH (OfP.held H.o a9 HI.o);clear R a4 a9 ae H
      dsimp only at a0 a1 D
      refine G.o _ _ b6.o (fun A=>?_);clear G K
      iterate 2(refine tK 28 rfl A ?_)
      refine lst rfl fun K G=>?_;go_simp;refine G _ _ ?_;clear G K A a0 a1 D;have REL:=zH (show MnRel C w vp vf ⟨fb,onb,lob,mab,.z,.z,.z⟩ (C.P.qg.length-(j+1)) (.i ((j+1:Nat):Int)) (w9.setCell (.a fb 2) (.s g9 (((zW C.P).take j).length+1) ak))from
       ⟨j+1,_,rfl,rfl,af,by
        have h9:=HP9.o;rw[show(zW C.P).take j++[(true)]=(zW C.P).take (j+1) by rw[yam,hX];rfl]at h9;exact h9⟩)
      exact mCc
    ·obtain rfl:j=C.P.qg.length:=yo;have b9:=HP.o.f;rw[show(zW C.P).take C.P.qg.length=zW C.P by rw[show C.P.qg.length=(zW C.P).length by simp[zW],yaz]]at b9;have HR:=zH (zzx C w wr _ vf HP.o.vf b9 HP.o.fb HP.o.n HP.o.c);clear b9;go_wp2_with fail;refine HR.o.mono ?_;rintro e w9 ⟨rfl,V',Rs,Bs,bb,hF,bn,aq⟩;have cn:w9.cell? (.a vf 0)=some (.p fb):=aq.cell 0;have cc:=zH (show ∃ V Rs Bs,Ending.returned (.p fb)=.r (.p V.fb)/\zcs C w9 V Rs Bs/\Below w.heap.size w w9/\w.heap.size<=V.fb from
      ⟨V',Rs,Bs,by rw[bb],hF,bn,by rw[bb];exact HE.o.1⟩)
     clear hF bn bb aq;go_wp2;go_ret;exact cc.o
end
end Go.Proofs.YtkmcihhndgdhpaaGreat
