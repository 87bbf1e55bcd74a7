/- Decl: parts of the walk. -/
import Derived.Test.YtkmcihhndgdhpaaGreatWA3
set_option maxRecDepth 100000
set_option maxHeartbeats 4000000
set_option linter.unusedSimpArgs false
set_option linter.unusedVariables false
namespace Go.Proofs.YtkmcihhndgdhpaaGreat
section
open Go.RowKit
attribute [local go_sem] zaq
theorem zw6 (C:PC)(w:World)(s:Sc)(ptrs:List Nat)(R:Ending→World→Prop)(E:Env C w s)(h1:za5 s wVar=false)(h2:za5 s zf1=false)(h3:za5 s zga=false)
  (hR:∀ w',Post C.B [398,223] [C.sb,C.tb] w (zd9 C.t s ptrs.length) (fun _ _ _=>False) (.panicked (zfm w.heap.size)) w'→R (.panicked (zfm w.heap.size)) w') :
  Calls Tryz.prog 159 #[.pointer (some ⟨C.pb,0,none⟩)] w R:=by
 have hp:=E.p.cell
 have hs:=Blk.cell E.sc
 have hpl:=E.p.lt
 have hsl:=Blk.lt E.sc
 have HE:=zH E
 have mdd:=zd9.eq_1 C.t s ptrs.length
 simp only[h1,h2,h3,Bool.or_self,Bool.false_eq_true,if_false]at mdd
 have MD:=zH mdd
 have H1:=zH h1
 have H2:=zH h2
 have H3:=zH h3
 clear h1 h2 h3 mdd E
 go_enter Tryz.func159,Tryz.ntmps159
 go_wp2_with fail
 refine(zc4 HE.out wVar).mono ?_
 rw[H1.out]
 rintro e w' ⟨rfl,rfl⟩
 go_wp2_with fail
 refine(zc4 HE.out zf1).mono ?_
 rw[H2.out]
 rintro e w' ⟨rfl,rfl⟩
 go_wp2_with fail
 refine(zc4 HE.out zga).mono ?_
 rw[H3.out]
 rintro e w' ⟨rfl,rfl⟩
 go_wp2_with fail
 refine(zfb _ _ _).mono ?_
 rintro e w4 ⟨rfl,rfl⟩
 exact⟨rfl,hR _ (.inr ⟨_,_,MD.out,rfl,za1.new (by simp),Nat.le_refl _,(Chg.refl _ _ _ _).alloc _⟩)⟩
def zdp (C:PC)(w:World)(ds:List Dcl)(ptrs:List Nat)(M:Except Flt ((Dcl×List Stm)×Sc)):Ending→World→Prop :=
 Post C.B [398,223] [C.sb,C.tb] w M (fun p v w'=>v=.tuple #[]∧DDone C w ds ptrs p.1.2 p.1.1 p.2 w')
theorem zdp.fault {C:PC}{w w1:World}{ts:List TypeId}{bs:List Nat}{ds:List Dcl}{ptrs:List Nat}{M:Except Flt ((Dcl×List Stm)×Sc)}{f:Flt}{b:Nat}(hc:Chg C.B ts bs w w1)(h1:∀ t ∈ ts,t ∈ [398,223])(h2:∀ g ∈ bs,g ∈ [C.sb,C.tb])(hM:M=.error f)(hf:za1 w1 b f)(hle:w.heap.size≤b) :
  zdp C w ds ptrs M (.panicked (zfm b)) w1:=.inr ⟨f,b,hM,rfl,hf,hle,hc.mono h1 h2⟩
theorem decl_var (C:PC)(w:World)(s:Sc)(dv:Value)(ds:List Dcl)(ptrs:List Nat)(E:Env C w s)(T:TrAt C w dv ptrs)(D:DvAt C w dv ds)(hd:ds.length≤701)(h1:za5 s wVar=true)(h2:za5 s zf1=false)(h3:za5 s zga=false) :
  Calls Tryz.prog 159 #[.pointer (some ⟨C.pb,0,none⟩)] w (zdp C w ds ptrs (zd9 C.t s ptrs.length)):=by
 have hp:=E.p.cell
 have hs:=Blk.cell E.sc
 have hpl:=E.p.lt
 have hsl:=Blk.lt E.sc
 have HE:=zH E
 have HT:=zH T
 have HD:=zH D
 have mdd:=zd9.eq_1 C.t s ptrs.length
 rw[h1,h2,if_pos (by rfl)]at mdd
 have MD0:=zH mdd
 have H1:=zH h1
 have H2:=zH h2
 have H3:=zH h3
 clear h1 h2 h3 mdd E T D
 go_enter Tryz.func159,Tryz.ntmps159
 go_wp2_with fail
 refine(zc4 HE.out wVar).mono ?_
 rw[H1.out]
 rintro e w' ⟨rfl,rfl⟩
 go_wp2_with fail
 refine(zc4 HE.out zf1).mono ?_
 rw[H2.out]
 rintro e w' ⟨rfl,rfl⟩
 go_wp2_with fail
 refine(zc4 HE.out zga).mono ?_
 rw[H3.out]
 rintro e w' ⟨rfl,rfl⟩
 go_wp2_with fail
 refine(zck HE.out).mono ?_
 rintro e w1 (⟨p1,v,hr,rfl,⟨rfl,hE⟩,hch⟩ | ⟨f,b,hr,rfl,hfb,hle,hch⟩)
 rotate_left
 ·exact⟨rfl,zdp.fault hch (by simp) (by simp) (by have md:=MD0.out;rw[hr]at md;exact md) hfb hle⟩
 have mdd:=MD0.out
 rw[hr,zae]at mdd
 have MD1:=zH mdd
 have R1:=zH hr
 have HE1:=zH hE
 have HC1:=zH hch
 have hp1:=hE.p.cell
 have hpl1:=hE.p.lt
 have hsl1:=Blk.lt hE.sc
 clear hr hE hch mdd
 go_wp2_with fail
 refine zag (fun W=>DEnv C [] [C.sb] w W p1 w1.heap.size { kind:=118,name:={} } (.slice none 0 0) (.slice none 0 0)) ((⟨HE1.out.alloc _,Blk.newAt rfl,HC1.out.size,HC1.out.alloc _⟩)) ?_
 intro w2 hD2
 have D2:=zH hD2
 obtain⟨hp2,hd2,hf2,hl2,hm2,hn2,ha2,hb2⟩:=hD2.cells
 clear hD2
 refine(zf8 D2.out.e).mono ?_
 rintro e w3 (⟨p3,v,hr,rfl,⟨rfl,hE⟩,hch⟩ | ⟨f,b,hr,rfl,hfb,hle,hch⟩)
 rotate_left
 ·exact⟨rfl,zdp.fault (D2.out.c.trans (hch.mono (by simp) (by simp))) (by simp) (by simp) (by have md:=MD1.out;rw[hr]at md;exact md) hfb (Nat.le_trans D2.out.c.size hle)⟩
 have R3:=zH hr
 have mdd:=MD1.out
 rw[hr,zae]at mdd
 have MD2:=zH mdd
 have D3:=zH (D2.out.scan hE hch (by simp))
 obtain⟨hp3,hd3,hf3,hl3,hm3,hn3,ha3,hb3⟩:=D3.out.cells
 clear hr hE hch mdd
 go_wp2_with fail
 refine zag (fun W=>DEnv C [] [C.sb] w W p3.2 w1.heap.size { kind:=118,name:=p3.1 } (.slice none 0 0) (.slice none 0 0)) (D3.out.setName p3.1) ?_
 intro w4 hD4
 have D4:=zH hD4
 obtain⟨hp4,hd4,hf4,hl4,hm4,hn4,ha4,hb4⟩:=hD4.cells
 clear hD4
 refine(zcu D4.out.e 59).mono ?_
 rintro e w5 (⟨p5,v,hr,rfl,⟨rfl,hE⟩,hch⟩ | ⟨f,b,hr,rfl,hfb,hle,hch⟩)
 rotate_left
 ·exact⟨rfl,zdp.fault (D4.out.c.trans (hch.mono (by simp) (by simp))) (by simp) (by simp) (by have md:=MD2.out;rw[hr]at md;exact md) hfb (Nat.le_trans D4.out.c.size hle)⟩
 have R5:=zH hr
 have mdd:=MD2.out
 rw[hr,zae]at mdd
 have MD3:=zH mdd
 have D5:=zH (D4.out.scan hE hch (by simp))
 obtain⟨hp5,hd5,hf5,hl5,hm5,hn5,ha5,hb5⟩:=D5.out.cells
 clear hr hE hch mdd
 have D6:=zH (D5.out.read HT.out HD.out HE.out)
 have dr:=D6.out
 obtain⟨sv,hT,hTR⟩:=dr.tr
 obtain⟨ps,hDR,hDD⟩:=dr.dv
 obtain⟨da,dc,hdv⟩:=zat hDR
 subst hdv
 have hpp:=dr.e.p.cell
 have htt:=hT.cell
 have hftt:=hT.frozen
 have hpl9:=dr.e.p.lt
 have htl9:=hT.lt
 have hbl9:=dr.blk.lt
 have HT9:=zH hT
 have HTR:=zH hTR
 have HDR:=zH hDR
 have HDD:=zH hDD
 have HBS:=zH (Nat.le_trans HE.out.bs (Nat.le_of_lt hsl))
 clear hT hTR hDR hDD dr
 go_upto_region 16 with fail
 go_region_law (refine zc5 znj rfl _ _ rfl C.B _ ds.length (ze1 ps ds) w5.heap.size _ _ ((za2 HDR.out).alloc _) (Blk.newAt (by simp)) rfl rfl rfl (by simp[Value.oneCell']) (by omega) (by simp;have:=HBS.out;have:=D5.out.c.size;omega) ?_;intro g cap w9 hrow9 hg9 hat9;(have hT9:=(Blk.append ((HT9.out.drew).alloc _) ((za2 HDR.out).alloc _) hg9 (by decide)));(have hE9:=Env.append ((D5.out.e.drew).alloc _) ((za2 HDR.out).alloc _) hg9 (by decide) (by decide));(have hpp9:=hE9.p.cell);(have htt9:=hT9.cell);(have hftt9:=hT9.frozen);(have HN:=zH (zm4 D6.out HT9.out HTR.out HDR.out HDD.out hrow9 hg9));clear hT9 hE9 hrow9 hg9 hat9)
 all_goals go_wp2_with fail
 all_goals (refine bodyPost_ret (results_none rfl _ _ _) rfl ?_)
 all_goals exact .inl ⟨_,_,MD3.out,rfl,⟨rfl,HN.out.1⟩,HN.out.2⟩
theorem zuf (C:PC)(w:World)(s:Sc)(dv:Value)(ds:List Dcl)(ptrs:List Nat)(E:Env C w s)(T:TrAt C w dv ptrs)(D:DvAt C w dv ds)(hd:ds.length≤701)(h1:za5 s wVar=false)(h2:za5 s zf1=true)(h3:za5 s zga=false) :
  Calls Tryz.prog 159 #[.pointer (some ⟨C.pb,0,none⟩)] w (zdp C w ds ptrs (zd9 C.t s ptrs.length)):=by
 have hp:=E.p.cell
 have hs:=Blk.cell E.sc
 have hpl:=E.p.lt
 have hsl:=Blk.lt E.sc
 have HE:=zH E
 have HT:=zH T
 have HD:=zH D
 have mdd:=zd9.eq_1 C.t s ptrs.length
 rw[h1,h2,if_pos (by rfl)]at mdd
 have MD0:=zH mdd
 have H1:=zH h1
 have H2:=zH h2
 have H3:=zH h3
 clear h1 h2 h3 mdd E T D
 go_enter Tryz.func159,Tryz.ntmps159
 go_wp2_with fail
 refine(zc4 HE.out wVar).mono ?_
 rw[H1.out]
 rintro e w' ⟨rfl,rfl⟩
 go_wp2_with fail
 refine(zc4 HE.out zf1).mono ?_
 rw[H2.out]
 rintro e w' ⟨rfl,rfl⟩
 go_wp2_with fail
 refine(zc4 HE.out zga).mono ?_
 rw[H3.out]
 rintro e w' ⟨rfl,rfl⟩
 go_wp2_with fail
 refine(zck HE.out).mono ?_
 rintro e w1 (⟨p1,v,hr,rfl,⟨rfl,hE⟩,hch⟩ | ⟨f,b,hr,rfl,hfb,hle,hch⟩)
 rotate_left
 ·exact⟨rfl,zdp.fault hch (by simp) (by simp) (by have md:=MD0.out;rw[hr]at md;exact md) hfb hle⟩
 have mdd:=MD0.out
 rw[hr,zae]at mdd
 have MD1:=zH mdd
 have R1:=zH hr
 have HE1:=zH hE
 have HC1:=zH hch
 have hp1:=hE.p.cell
 have hpl1:=hE.p.lt
 have hsl1:=Blk.lt hE.sc
 clear hr hE hch mdd
 go_wp2_with fail
 refine zag (fun W=>DEnv C [] [C.sb] w W p1 w1.heap.size { kind:=118,name:={} } (.slice none 0 0) (.slice none 0 0)) ((⟨HE1.out.alloc _,Blk.newAt rfl,HC1.out.size,HC1.out.alloc _⟩)) ?_
 intro w2 hD2
 have D2:=zH hD2
 obtain⟨hp2,hd2,hf2,hl2,hm2,hn2,ha2,hb2⟩:=hD2.cells
 clear hD2
 refine(zf8 D2.out.e).mono ?_
 rintro e w3 (⟨p3,v,hr,rfl,⟨rfl,hE⟩,hch⟩ | ⟨f,b,hr,rfl,hfb,hle,hch⟩)
 rotate_left
 ·exact⟨rfl,zdp.fault (D2.out.c.trans (hch.mono (by simp) (by simp))) (by simp) (by simp) (by have md:=MD1.out;rw[hr]at md;exact md) hfb (Nat.le_trans D2.out.c.size hle)⟩
 have R3:=zH hr
 have mdd:=MD1.out
 rw[hr,zae]at mdd
 have MD2:=zH mdd
 have D3:=zH (D2.out.scan hE hch (by simp))
 obtain⟨hp3,hd3,hf3,hl3,hm3,hn3,ha3,hb3⟩:=D3.out.cells
 clear hr hE hch mdd
 go_wp2_with fail
 refine zag (fun W=>DEnv C [] [C.sb] w W p3.2 w1.heap.size { kind:=109,name:=p3.1 } (.slice none 0 0) (.slice none 0 0)) ((D3.out.setName p3.1).setKind 109) ?_
 intro w4 hD4
 have D4:=zH hD4
 obtain⟨hp4,hd4,hf4,hl4,hm4,hn4,ha4,hb4⟩:=hD4.cells
 clear hD4
 refine(zcu D4.out.e 59).mono ?_
 rintro e w5 (⟨p5,v,hr,rfl,⟨rfl,hE⟩,hch⟩ | ⟨f,b,hr,rfl,hfb,hle,hch⟩)
 rotate_left
 ·exact⟨rfl,zdp.fault (D4.out.c.trans (hch.mono (by simp) (by simp))) (by simp) (by simp) (by have md:=MD2.out;rw[hr]at md;exact md) hfb (Nat.le_trans D4.out.c.size hle)⟩
 have R5:=zH hr
 have mdd:=MD2.out
 rw[hr,zae]at mdd
 have MD3:=zH mdd
 have D5:=zH (D4.out.scan hE hch (by simp))
 obtain⟨hp5,hd5,hf5,hl5,hm5,hn5,ha5,hb5⟩:=D5.out.cells
 clear hr hE hch mdd
 have D6:=zH (D5.out.read HT.out HD.out HE.out)
 have dr:=D6.out
 obtain⟨sv,hT,hTR⟩:=dr.tr
 obtain⟨ps,hDR,hDD⟩:=dr.dv
 obtain⟨da,dc,hdv⟩:=zat hDR
 subst hdv
 have hpp:=dr.e.p.cell
 have htt:=hT.cell
 have hftt:=hT.frozen
 have hpl9:=dr.e.p.lt
 have htl9:=hT.lt
 have hbl9:=dr.blk.lt
 have HT9:=zH hT
 have HTR:=zH hTR
 have HDR:=zH hDR
 have HDD:=zH hDD
 have HBS:=zH (Nat.le_trans HE.out.bs (Nat.le_of_lt hsl))
 clear hT hTR hDR hDD dr
 go_upto_region 16 with fail
 go_region_law (refine zc5 znj rfl _ _ rfl C.B _ ds.length (ze1 ps ds) w5.heap.size _ _ ((za2 HDR.out).alloc _) (Blk.newAt (by simp)) rfl rfl rfl (by simp[Value.oneCell']) (by omega) (by simp;have:=HBS.out;have:=D5.out.c.size;omega) ?_;intro g cap w9 hrow9 hg9 hat9;(have hT9:=(Blk.append ((HT9.out.drew).alloc _) ((za2 HDR.out).alloc _) hg9 (by decide)));(have hE9:=Env.append ((D5.out.e.drew).alloc _) ((za2 HDR.out).alloc _) hg9 (by decide) (by decide));(have hpp9:=hE9.p.cell);(have htt9:=hT9.cell);(have hftt9:=hT9.frozen);(have HN:=zH (zm4 D6.out HT9.out HTR.out HDR.out HDD.out hrow9 hg9));clear hT9 hE9 hrow9 hg9 hat9)
 all_goals go_wp2_with fail
 all_goals (refine bodyPost_ret (results_none rfl _ _ _) rfl ?_)
 all_goals exact .inl ⟨_,_,MD3.out,rfl,⟨rfl,HN.out.1⟩,HN.out.2⟩
end
end Go.Proofs.YtkmcihhndgdhpaaGreat
