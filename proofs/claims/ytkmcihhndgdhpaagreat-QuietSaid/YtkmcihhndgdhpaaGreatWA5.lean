/- Parts of the walk. -/
import Derived.Test.YtkmcihhndgdhpaaGreatWA4
set_option maxRecDepth 100000
set_option maxHeartbeats 4000000
set_option linter.unusedSimpArgs false
set_option linter.unusedVariables false
open Go.RowKit Go.Proofs.Tryz
namespace Go.Proofs.YtkmcihhndgdhpaaGreat
attribute [local go_sem] zT
theorem zw1 {C:PC}{w W w8:World}{s0 s7 s8:Sc}{db:Nat}{d:Dcl}{pv v dv:Value}{ds:List Dcl}{ptrs ids:List Nat}{xs:List Stm}(D:DEnv C [] [C.sb] w W s7 db d pv (.z))(hN:xp W C.B pv d.params)
  (E:Env C w s0) (T:TrAt C w dv ptrs) (V:DvAt C w dv ds) (hB:C.B<=w.heap.size) (hI:zz w8 W.heap.size v ids) (hK:StK C W dv ptrs xs s8 w8) (hch:Chg C.B [398] [C.sb,C.tb] W w8) :
  ∃ news,DRead C w (w8.setCell (.a db 6) v) s8 dv ds ptrs news xs db { d with body:=ids } pv v:=by
 obtain⟨news,O,R,Q⟩:=hK;obtain⟨tv,H,_⟩:=T;have G:∃ tv,Blk W C.tb 218 tv:=⟨_,H.vh D.c yy (by simpa using (H.qs E.sc yd))⟩;obtain⟨U,G⟩:=G;have A:=D.blk.vh hch yd (by
  intro hm;rcases(by simpa using hm)with h | h
  ·exact D.blk.qs D.e.sc yd h
  ·exact D.blk.qs G yd h)
 have K:C.B<=W.heap.size:=ya hB D.c.size;have J:Chg C.B [398] [C.sb,C.tb] w (w8.setCell (.a db 6) v):=((D.c.mono yy yy).trans hch).vi D.db _;obtain⟨sv,I,L⟩:=R;refine⟨news,O.farT A yd yd _ _,⟨sv,I.qi (I.qs A yd) _,zL L A yd _ _⟩,V.vh J yy yy yy ?_,?_,?_,D.db,?_,?_,J.mono yy yy⟩
 ·intro g S;rcases(by simpa using S)with rfl | rfl
  ·exact⟨_,_,E.sc,by decide,by decide,by decide⟩
  ·exact⟨_,_,H,by decide,by decide,by decide⟩
 ·exact Q.map D.c.size fun b y _ _ h=>(h.low D.c.size).farT A yd yd yd _ _
 ·exact(A.qe 6 _).cast (by simp[zU])
 ·refine zL (za9 hN hch yy ?_) A yd _ _;intro k N hm;rcases(by simpa using hm)with h | h
  ·exact xy hN D.e.sc yd k N h
  ·exact xy hN G yd k N h
 ·exact zL (zm hI K) A yd _ _
theorem func_at {t:ByteArray}{s p1 p5:Sc}{p3:Nm×Sc}{p6:List Nm×Sc}{n:Nat}(h1:zO t s=.ok p1)(h2:zb5 t p1=.ok p3)(h3:zt t p3.2 40=.ok p5)(h4:zcd false t p5=.ok p6)(hs:s.at_<=t.size)(hn:n<=s.at_):n<=p6.2.at_:=by
 have A:=za8 h1 hs;have D:=zgu h2 A.1;have E:=zcr h3 D.1;have G:=zj6 h4 E.1;omega
theorem zwo (C:PC)(w:World)(s:Sc)(dv:Value)(ds:List Dcl)(ptrs:List Nat)(E:Env C w s)(T:TrAt C w dv ptrs)(D:DvAt C w dv ds)(hd:ds.length<=701)(hat:ptrs.length<=s.at_)(h1:zk s wVar=false)(h2:zk s ze1=false)(h3:zk s zfl=true) :
  Calls prog 159 #[.p C.pb] w (zb9 C w ds ptrs (zcv C.t s ptrs.length)):=by
 have hp:=E.p.cell;have hs:=Blk.cell E.sc;have df:=E.p.lt;have ap:=Blk.lt E.sc;have U:=zH E;have HT:=zH T;have HD:=zH D;have G:=zcv.eq_1 C.t s ptrs.length;rw[h1,h2,yg yy,yj h3]at G;have ab:=zH G;have H1:=zH h1;have H2:=zH h2;have H3:=zH h3;clear h1 h2 h3 G E T D;go_enter func159,ntmps159;go_wp2_with fail;refine(zbl U.o wVar).mono ?_;rw[H1.o];rintro e w' ⟨rfl,rfl⟩;go_wp2_with fail;refine(zbl U.o ze1).mono ?_;rw[H2.o];rintro e w' ⟨rfl,rfl⟩;go_wp2_with fail;refine(zbl U.o zfl).mono ?_;rw[H3.o];rintro e w' ⟨rfl,rfl⟩;go_wp2_with fail;refine(zau U.o).mono ?_;rintro e w1 (⟨p1,v,H,rfl,⟨rfl,L⟩,A⟩ | ⟨f,b,H,rfl,J,K,A⟩);rotate_left
 ·exact⟨rfl,zb9.fault A yy yy (by have N:=ab.o;rw[H]at N;exact N) J K⟩
 have G:=ab.o;rw[H,zF]at G;have ac:=zH G;have R1:=zH H;have ax:=zH L;have a9:=zH A;have d7:=L.p.cell;have bj:=L.p.lt;have bn:=Blk.lt L.sc;clear H L A G;go_wp2_with fail;refine zK (fun W=>DEnv C [] [C.sb] w W p1 w1.heap.size { kind:=118,name:={} } (.z) (.z)) ((⟨ax.o.alloc _,Blk.newAt rfl,a9.o.size,a9.o.alloc _⟩)) ?_;intro w2 a1;have D2:=zH a1;obtain⟨d8,cc,ci,cn,cu,d1,bq,c3⟩:=a1.cells;clear a1;refine(zfb D2.o.e).mono ?_;rintro e w3 (⟨O,v,H,rfl,⟨rfl,L⟩,A⟩ | ⟨f,b,H,rfl,J,K,A⟩);rotate_left
 ·exact⟨rfl,zb9.fault (D2.o.c.trans (A.mono yy yy)) yy yy (by have N:=ac.o;rw[H]at N;exact N) J (ya D2.o.c.size K)⟩
 have R3:=zH H;have G:=ac.o;rw[H,zF]at G;have ad:=zH G;have D3:=zH (D2.o.scan L A yy);obtain⟨d9,cd,cj,co,cw,d2,br,c4⟩:=D3.o.cells;clear H L A G;go_wp2_with fail;refine zK (fun W=>DEnv C [] [C.sb] w W O.2 w1.heap.size { kind:=102,name:=O.1 } (.z) (.z)) ((D3.o.setName O.1).setKind 102) ?_;intro w4 a2;have D4:=zH a2;obtain⟨dd,ce,ck,cp,cx,d3,bu,c5⟩:=a2.cells;clear a2;refine(zbc D4.o.e 40).mono ?_;rintro e w5 (⟨p5,v,H,rfl,⟨rfl,L⟩,A⟩ | ⟨f,b,H,rfl,J,K,A⟩);rotate_left
 ·exact⟨rfl,zb9.fault (D4.o.c.trans (A.mono yy yy)) yy yy (by have N:=ad.o;rw[H]at N;exact N) J (ya D4.o.c.size K)⟩
 have R5:=zH H;have G:=ad.o;rw[H,zF]at G;have ae:=zH G;have D5:=zH (D4.o.scan L A yy);obtain⟨de,cf,cm,cq,cy,d4,bz,c7⟩:=D5.o.cells;clear H L A G;go_wp2_with fail;refine(zj7 C _ _ false D5.o.e).mono ?_;rintro e w6 (⟨R,v6,H,rfl,⟨hN,L⟩,A⟩ | ⟨f,b,H,rfl,J,K,A⟩);rotate_left
 ·exact⟨rfl,zb9.fault (D5.o.c.trans (A.mono yy yy)) yy yy (by have N:=ae.o;rw[H]at N;exact N) J (ya D5.o.c.size K)⟩
 have ag:=zH (ya U.o.bs (yaw ap));have G:=ae.o;rw[H,zF]at G;have af:=zH G;have D6:=zH (D5.o.scan L A yy);have a7:=zH (func_at R1.o R3.o R5.o H U.o.at_ hat);obtain⟨a6,c6,hv⟩:=zX hN;subst hv;have N6:=zH (show xp w6 C.B _ R.1 from zm hN (ya ag.o D5.o.c.size));obtain⟨be,b1,b5,cs,cz,d5,c0,c9⟩:=D6.o.cells;clear H L A G hN;go_wp2_with fail;refine zK (fun W=>DEnv C [] [C.sb] w W R.2 w1.heap.size { kind:=102,name:=O.1,params:=R.1 } (.slice a6 R.1.length c6) (.z)/\xp W C.B (.slice a6 R.1.length c6) R.1) ⟨D6.o.setParams _ _,zL N6.o D6.o.blk yd 5 _⟩ ?_;rintro w7 ⟨Y,ak⟩;have D7:=zH Y;have N7:=zH ak;have T7:=zH (HT.o.vh Y.c yy yy (by
  intro g hg;rw[yG.1 hg];exact⟨_,_,U.o.sc,by decide,by decide⟩))
 obtain⟨bf,b2,b6,ct,d0,d6,c2,ca⟩:=Y.cells;clear Y ak;have bb:=T7.o;refine(zvv 1 C w7 R.2 dv ptrs D7.o.e T7.o (yq a7.o) (yq a7.o)).mono ?_;rintro e w8 (⟨p8,v8,H,rfl,⟨hI,hK⟩,A⟩ | ⟨f,b,H,rfl,J,K,A⟩);rotate_left
 ·exact⟨rfl,zb9.fault ((D7.o.c.mono yy yy).trans A) yy yy (by have N:=af.o;rw[H]at N;exact N) J (ya D7.o.c.size K)⟩
 have G:=af.o;rw[H,zF]at G;have az:=zH G;obtain⟨a8,c8,hv⟩:=zX hI;subst hv;obtain⟨news,ah⟩:=zw1 D7.o N7.o U.o HT.o HD.o ag.o hI hK A;have D8:=zH ah;have Z:=hK.choose_spec.1;obtain⟨tv,aq,_⟩:=T7.o;have I:=D7.o.blk.vh A yd (by
  intro hm;rcases(by simpa using hm)with h | h
  ·exact D7.o.blk.qs D7.o.e.sc yd h
  ·exact D7.o.blk.qs aq yd h)
 have bg:=Z.p.cell;have b9:=Z.p.lt;have b3:∀ i,w8.cell? (.a w1.heap.size i)=#[.u 102,.string O.1.text,.i O.1.at_,.bool O.1.num,.i O.1.n,.slice a6 R.1.length c6,.z][i]? := I.cell;have b7:=I.frozen;have bd:=I.lt;have ao:=Z.p.qs I yd;clear H hI hK A G ah Z aq I be b1 b5 bf b2 b6;go_upto_region 16 with fail
 refine xh (fun W=>DRead C w W p8.2 dv ds ptrs news p8.1.2 w1.heap.size { kind:=102,name:=O.1,params:=R.1,body:=p8.1.1 } (.slice a6 R.1.length c6) (.slice a8 p8.1.1.length c8)) D8.o ?_;intro wA a3;have D9:=zH a3;have ch:∀ i,wA.cell? (.a w1.heap.size i)=#[.u 102,.string O.1.text,.i O.1.at_,.bool O.1.num,.i O.1.n,.slice a6 R.1.length c6,.slice a8 p8.1.1.length c8][i]? := a3.blk.cell;clear a3 b3 b7 bg b9 bd ao;have dr:=D9.o;obtain⟨sv,hT,am⟩:=dr.tr;obtain⟨ps,a4,ai⟩:=dr.dv;obtain⟨da,dc,b4⟩:=zX a4;subst b4;have dg:=dr.e.p.cell;have dh:=hT.cell;have bi:=hT.frozen;have bk:=dr.e.p.lt;have bo:=hT.lt;have bh:=dr.blk.lt;have aa:=zH hT;have ay:=zH am;have S:=zH a4;have aw:=zH ai;have au:=zH (ya U.o.bs (yaw ap));clear hT am a4 ai dr
 skip
 go_region_law (refine zan zoo rfl _ _ rfl C.B _ ds.length (zdo ps ds) wA.heap.size _ _ ((zi S.o).alloc _) (Blk.newAt yy) rfl rfl rfl yE yo (by simp;have:=au.o;have:=D9.o.c.size;omega) ?_;intro g cap w9 Q a0 an;(have a5:=(Blk.append ((aa.o.drew).alloc _) ((zi S.o).alloc _) a0 yd));(have aj:=Env.append ((D9.o.e.drew).alloc _) ((zi S.o).alloc _) a0 yd yd);(have bm:=aj.p.cell);(have bp:=a5.cell);(have b8:=a5.frozen);(have HN:=zH (zm2 D9.o aa.o ay.o S.o aw.o Q a0));clear a5 aj Q a0 an)
 all_goals go_wp2_with fail
 all_goals (refine ym (yp rfl _ _ _) rfl ?_)
 all_goals exact .inl ⟨_,_,az.o,rfl,⟨rfl,HN.o.1⟩,HN.o.2⟩
end Go.Proofs.YtkmcihhndgdhpaaGreat
