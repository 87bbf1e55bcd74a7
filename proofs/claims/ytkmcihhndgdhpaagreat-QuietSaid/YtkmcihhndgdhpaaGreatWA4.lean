/- Parts of the walk. -/
import Derived.Test.YtkmcihhndgdhpaaGreatWA3
set_option maxRecDepth 100000
set_option maxHeartbeats 4000000
set_option linter.unusedSimpArgs false
set_option linter.unusedVariables false
open Go.RowKit Go.Proofs.Tryz
namespace Go.Proofs.YtkmcihhndgdhpaaGreat
theorem mKa {p:Prop}(h:p:=by
  intro w4 hD4;have D4:=zH hD4;obtain⟨hp4,hd4,hf4,hl4,hm4,hn4,ha4,hb4⟩:=hD4.cells;clear hD4;refine(zbc D4.o.e 59).mono ?_;rintro e w5 (⟨p5,v,hr,rfl,⟨rfl,hE⟩,hch⟩ | ⟨f,b,hr,rfl,hfb,hle,hch⟩);rotate_left
  ·exact⟨rfl,zb9.fault (D4.o.c.trans (hch.mono yy yy)) yy yy (by have md:=MD2.o;rw[hr]at md;exact md) hfb (ya D4.o.c.size hle)⟩
  have R5:=zH hr;have mdd:=MD2.o;rw[hr,zF]at mdd;have MD3:=zH mdd;have D5:=zH (D4.o.scan hE hch yy);obtain⟨hp5,hd5,hf5,hl5,hm5,hn5,ha5,hb5⟩:=D5.o.cells;clear hr hE hch mdd;have D6:=zH (D5.o.read HT.o HD.o HE.o);have dr:=D6.o;obtain⟨sv,hT,hTR⟩:=dr.tr;obtain⟨ps,hDR,hDD⟩:=dr.dv;obtain⟨da,dc,hdv⟩:=zX hDR;subst hdv;have hpp:=dr.e.p.cell;have htt:=hT.cell;have hftt:=hT.frozen;have hpl9:=dr.e.p.lt;have htl9:=hT.lt;have hbl9:=dr.blk.lt;have HT9:=zH hT;have HTR:=zH hTR;have HDR:=zH hDR;have HDD:=zH hDD;have HBS:=zH (ya HE.o.bs (yaw hsl));clear hT hTR hDR hDD dr;go_upto_region 16 with fail
  go_region_law (refine zan zoo rfl _ _ rfl C.B _ ds.length (zdo ps ds) w5.heap.size _ _ ((zi HDR.o).alloc _) (Blk.newAt yy) rfl rfl rfl yE yo (by simp;have:=HBS.o;have:=D5.o.c.size;omega) ?_;intro g cap w9 hrow9 hg9 hat9;(have hT9:=(Blk.append ((HT9.o.drew).alloc _) ((zi HDR.o).alloc _) hg9 yd));(have hE9:=Env.append ((D5.o.e.drew).alloc _) ((zi HDR.o).alloc _) hg9 yd yd);(have hpp9:=hE9.p.cell);(have htt9:=hT9.cell);(have hftt9:=hT9.frozen);(have HN:=zH (zm2 D6.o HT9.o HTR.o HDR.o HDD.o hrow9 hg9));clear hT9 hE9 hrow9 hg9 hat9)
  all_goals go_wp2_with fail
  all_goals (refine ym (yp rfl _ _ _) rfl ?_)
  all_goals exact .inl ⟨_,_,MD3.o,rfl,⟨rfl,HN.o.1⟩,HN.o.2⟩):p:=h
theorem mRb {p:Prop}(h:p:=by exact⟨rfl,zb9.fault (D2.o.c.trans (hch.mono yy yy)) yy yy (by have md:=MD1.o;rw[hr]at md;exact md) hfb (ya D2.o.c.size hle)⟩):p:=h
attribute [local go_sem] zT
theorem zwq (C:PC)(w:World)(s:Sc)(ptrs:List Nat)(R:Ending->World->Prop)(E:Env C w s)(h1:zk s wVar=false)(h2:zk s ze1=false)(h3:zk s zfl=false)
  (hR:∀ w',Post C.B [398,223] [C.sb,C.tb] w (zcv C.t s ptrs.length) (fun _ _ _=>False) (.panicked (zd6 w.heap.size)) w'->R (.panicked (zd6 w.heap.size)) w') :
  Calls prog 159 #[.p C.pb] w R:=by
 have N:=E.p.cell;have O:=Blk.cell E.sc;have K:=E.p.lt;have L:=Blk.lt E.sc;have D:=zH E;have A:=zcv.eq_1 C.t s ptrs.length;simp only[h1,h2,h3,ybu,yI,if_false]at A;have J:=zH A;have G:=zH h1;have H:=zH h2;have I:=zH h3;clear h1 h2 h3 A E;go_enter func159,ntmps159;go_wp2_with fail;refine(zbl D.o wVar).mono ?_;rw[G.o];rintro e w' ⟨rfl,rfl⟩;go_wp2_with fail;refine(zbl D.o ze1).mono ?_;rw[H.o];rintro e w' ⟨rfl,rfl⟩;go_wp2_with fail;refine(zbl D.o zfl).mono ?_;rw[I.o];rintro e w' ⟨rfl,rfl⟩;go_wp2_with fail;refine(zd5 _ _ _).mono ?_;rintro e Q ⟨rfl,rfl⟩;exact⟨rfl,hR _ (.inr ⟨_,_,J.o,rfl,zf.new yy,yr _,(Chg.refl _ _ _ _).alloc _⟩)⟩
def zb9 (C:PC)(w:World)(ds:List Dcl)(ptrs:List Nat)(M:Except Flt ((Dcl×List Stm)×Sc)):Ending->World->Prop :=
 Post C.B [398,223] [C.sb,C.tb] w M (fun p v w'=>v=.tuple #[]/\DDone C w ds ptrs p.1.2 p.1.1 p.2 w')
theorem zb9.fault {C:PC}{w w1:World}{ts:List TypeId}{bs:List Nat}{ds:List Dcl}{ptrs:List Nat}{M:Except Flt ((Dcl×List Stm)×Sc)}{f:Flt}{b:Nat}(hc:Chg C.B ts bs w w1)(h1:∀ t ∈ ts,t ∈ [398,223])(h2:∀ g ∈ bs,g ∈ [C.sb,C.tb])(hM:M=.error f)(hf:zf w1 b f)(hle:w.heap.size<=b) :
  zb9 C w ds ptrs M (.panicked (zd6 b)) w1:=.inr ⟨f,b,hM,rfl,hf,hle,hc.mono h1 h2⟩
theorem decl_var (C:PC)(w:World)(s:Sc)(dv:Value)(ds:List Dcl)(ptrs:List Nat)(E:Env C w s)(T:TrAt C w dv ptrs)(D:DvAt C w dv ds)(hd:ds.length<=701)(h1:zk s wVar=true)(h2:zk s ze1=false)(h3:zk s zfl=false) :
  Calls prog 159 #[.p C.pb] w (zb9 C w ds ptrs (zcv C.t s ptrs.length)):=by
 have hp:=E.p.cell;have hs:=Blk.cell E.sc;have ae:=E.p.lt;have hsl:=Blk.lt E.sc;have HE:=zH E;have HT:=zH T;have HD:=zH D;have mdd:=zcv.eq_1 C.t s ptrs.length;rw[h1,h2,yj (by rfl)]at mdd;have H:=zH mdd;have Q:=zH h1;have R:=zH h2;have S:=zH h3;clear h1 h2 h3 mdd E T D;go_enter func159,ntmps159;go_wp2_with fail;refine(zbl HE.o wVar).mono ?_;rw[Q.o];rintro e w' ⟨rfl,rfl⟩;go_wp2_with fail;refine(zbl HE.o ze1).mono ?_;rw[R.o];rintro e w' ⟨rfl,rfl⟩;go_wp2_with fail;refine(zbl HE.o zfl).mono ?_;rw[S.o];rintro e w' ⟨rfl,rfl⟩;go_wp2_with fail;refine(zau HE.o).mono ?_;rintro e O (⟨p1,v,hr,rfl,⟨rfl,hE⟩,hch⟩ | ⟨f,b,hr,rfl,hfb,hle,hch⟩);rotate_left
 ·exact⟨rfl,zb9.fault hch yy yy (by have md:=H.o;rw[hr]at md;exact md) hfb hle⟩
 have mdd:=H.o;rw[hr,zF]at mdd;have MD1:=zH mdd;have R1:=zH hr;have I:=zH hE;have G:=zH hch;have ab:=hE.p.cell;have L:=hE.p.lt;have N:=Blk.lt hE.sc;clear hr hE hch mdd;go_wp2_with fail;refine zK (fun W=>DEnv C [] [C.sb] w W p1 O.heap.size { kind:=118,name:={} } (.z) (.z)) ((⟨I.o.alloc _,Blk.newAt rfl,G.o.size,G.o.alloc _⟩)) ?_;intro w2 A;have D2:=zH A;obtain⟨ac,a1,a3,a5,a7,a9,U,Z⟩:=A.cells;clear A;refine(zfb D2.o.e).mono ?_;rintro e w3 (⟨J,v,hr,rfl,⟨rfl,hE⟩,hch⟩ | ⟨f,b,hr,rfl,hfb,hle,hch⟩);rotate_left
 ·exact mRb
 have R3:=zH hr;have mdd:=MD1.o;rw[hr,zF]at mdd;have MD2:=zH mdd;have K:=zH (D2.o.scan hE hch yy);obtain⟨ad,a2,a4,a6,a8,aa,Y,a0⟩:=K.o.cells;clear hr hE hch mdd;go_wp2_with fail;refine zK (fun W=>DEnv C [] [C.sb] w W J.2 O.heap.size { kind:=118,name:=J.1 } (.z) (.z)) (K.o.setName J.1) ?_;exact mKa
theorem zwp (C:PC)(w:World)(s:Sc)(dv:Value)(ds:List Dcl)(ptrs:List Nat)(E:Env C w s)(T:TrAt C w dv ptrs)(D:DvAt C w dv ds)(hd:ds.length<=701)(h1:zk s wVar=false)(h2:zk s ze1=true)(h3:zk s zfl=false) :
  Calls prog 159 #[.p C.pb] w (zb9 C w ds ptrs (zcv C.t s ptrs.length)):=by
 have hp:=E.p.cell;have hs:=Blk.cell E.sc;have ae:=E.p.lt;have hsl:=Blk.lt E.sc;have HE:=zH E;have HT:=zH T;have HD:=zH D;have mdd:=zcv.eq_1 C.t s ptrs.length;rw[h1,h2,yj (by rfl)]at mdd;have H:=zH mdd;have Q:=zH h1;have R:=zH h2;have S:=zH h3;clear h1 h2 h3 mdd E T D;go_enter func159,ntmps159;go_wp2_with fail;refine(zbl HE.o wVar).mono ?_;rw[Q.o];rintro e w' ⟨rfl,rfl⟩;go_wp2_with fail;refine(zbl HE.o ze1).mono ?_;rw[R.o];rintro e w' ⟨rfl,rfl⟩;go_wp2_with fail;refine(zbl HE.o zfl).mono ?_;rw[S.o];rintro e w' ⟨rfl,rfl⟩;go_wp2_with fail;refine(zau HE.o).mono ?_;rintro e O (⟨p1,v,hr,rfl,⟨rfl,hE⟩,hch⟩ | ⟨f,b,hr,rfl,hfb,hle,hch⟩);rotate_left
 ·exact⟨rfl,zb9.fault hch yy yy (by have md:=H.o;rw[hr]at md;exact md) hfb hle⟩
 have mdd:=H.o;rw[hr,zF]at mdd;have MD1:=zH mdd;have R1:=zH hr;have I:=zH hE;have G:=zH hch;have ab:=hE.p.cell;have L:=hE.p.lt;have N:=Blk.lt hE.sc;clear hr hE hch mdd;go_wp2_with fail;refine zK (fun W=>DEnv C [] [C.sb] w W p1 O.heap.size { kind:=118,name:={} } (.z) (.z)) ((⟨I.o.alloc _,Blk.newAt rfl,G.o.size,G.o.alloc _⟩)) ?_;intro w2 A;have D2:=zH A;obtain⟨ac,a1,a3,a5,a7,a9,U,Z⟩:=A.cells;clear A;refine(zfb D2.o.e).mono ?_;rintro e w3 (⟨J,v,hr,rfl,⟨rfl,hE⟩,hch⟩ | ⟨f,b,hr,rfl,hfb,hle,hch⟩);rotate_left
 ·exact mRb
 have R3:=zH hr;have mdd:=MD1.o;rw[hr,zF]at mdd;have MD2:=zH mdd;have K:=zH (D2.o.scan hE hch yy);obtain⟨ad,a2,a4,a6,a8,aa,Y,a0⟩:=K.o.cells;clear hr hE hch mdd;go_wp2_with fail;refine zK (fun W=>DEnv C [] [C.sb] w W J.2 O.heap.size { kind:=109,name:=J.1 } (.z) (.z)) ((K.o.setName J.1).setKind 109) ?_;exact mKa
end Go.Proofs.YtkmcihhndgdhpaaGreat
