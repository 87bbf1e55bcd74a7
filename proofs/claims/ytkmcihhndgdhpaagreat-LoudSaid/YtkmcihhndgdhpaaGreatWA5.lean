/- Decl2: parts of the walk. -/
import Derived.Test.YtkmcihhndgdhpaaGreatWA4
set_option maxRecDepth 100000
set_option maxHeartbeats 4000000
set_option linter.unusedSimpArgs false
set_option linter.unusedVariables false
namespace Go.Proofs.YtkmcihhndgdhpaaGreat
section
open Go.RowKit
attribute [local go_sem] zaq
theorem zwg {C:PC}{w W w8:World}{s0 s7 s8:Sc}{db:Nat}{d:Dcl}{pv v dv:Value}{ds:List Dcl}{ptrs ids:List Nat}{xs:List Stm}(D:DEnv C [] [C.sb] w W s7 db d pv (.slice none 0 0))(hN:zbs W C.B pv d.params)
  (E:Env C w s0) (T:TrAt C w dv ptrs) (V:DvAt C w dv ds) (hB:C.B≤w.heap.size) (hI:zbe w8 W.heap.size v ids) (hK:StK C W dv ptrs xs s8 w8) (hch:Chg C.B [398] [C.sb,C.tb] W w8) :
  ∃ news,DRead C w (w8.setCell ⟨db,6,none⟩ v) s8 dv ds ptrs news xs db { d with body:=ids } pv v:=by
 obtain⟨news,hE,hT,hS⟩:=hK
 obtain⟨tv,htb,_⟩:=T
 have htbW:∃ tv,Blk W C.tb 218 tv:=⟨_,htb.chg D.c (by simp) (by simpa using (htb.ne_ E.sc (by decide)))⟩
 obtain⟨tw,htbW⟩:=htbW
 have hb8:=D.blk.chg hch (by decide) (by
  intro hm
  rcases(by simpa using hm)with h | h
  ·exact D.blk.ne_ D.e.sc (by decide) h
  ·exact D.blk.ne_ htbW (by decide) h)
 have hle:C.B≤W.heap.size:=Nat.le_trans hB D.c.size
 have hcc:Chg C.B [398] [C.sb,C.tb] w (w8.setCell ⟨db,6,none⟩ v):=((D.c.mono (by simp) (by simp)).trans hch).setNew D.db _
 obtain⟨sv,hb1,hr1⟩:=hT
 refine⟨news,hE.farT hb8 (by decide) (by decide) _ _,⟨sv,hb1.far (hb1.ne_ hb8 (by decide)) _,zaj hr1 hb8 (by decide) _ _⟩,V.chg hcc (by simp) (by simp) (by simp) ?_,?_,?_,D.db,?_,?_,hcc.mono (by simp) (by simp)⟩
 ·intro g hg
  rcases(by simpa using hg)with rfl | rfl
  ·exact⟨_,_,E.sc,by decide,by decide,by decide⟩
  ·exact⟨_,_,htb,by decide,by decide,by decide⟩
 ·exact hS.map D.c.size fun b y _ _ h=>(h.low D.c.size).farT hb8 (by decide) (by decide) (by decide) _ _
 ·exact(hb8.set_ 6 _).cast (by simp[zar])
 ·refine zaj (zcs hN hch (by simp) ?_) hb8 (by decide) _ _
  intro k hk hm
  rcases(by simpa using hm)with h | h
  ·exact zc3 hN D.e.sc (by decide) k hk h
  ·exact zc3 hN htbW (by decide) k hk h
 ·exact zaj (zbn hI hle) hb8 (by decide) _ _
theorem func_at {t:ByteArray}{s p1 p5:Sc}{p3:Nm×Sc}{p6:List Nm×Sc}{n:Nat}(h1:zam t s=.ok p1)(h2:zdh t p1=.ok p3)(h3:za9 t p3.2 40=.ok p5)(h4:zdv false t p5=.ok p6)(hs:s.at_≤t.size)(hn:n≤s.at_):n≤p6.2.at_:=by
 have b1:=zcv h1 hs
 have b2:=zhb h2 b1.1
 have b3:=zd0 h3 b2.1
 have b4:=zkl h4 b3.1
 omega
theorem zxx (C:PC)(w:World)(s:Sc)(dv:Value)(ds:List Dcl)(ptrs:List Nat)(E:Env C w s)(T:TrAt C w dv ptrs)(D:DvAt C w dv ds)(hd:ds.length≤701)(hat:ptrs.length≤s.at_)(h1:za5 s wVar=false)(h2:za5 s zf1=false)(h3:za5 s zga=true) :
  Calls Tryz.prog 159 #[.pointer (some ⟨C.pb,0,none⟩)] w (zdp C w ds ptrs (zd9 C.t s ptrs.length)):=by
 have hp:=E.p.cell
 have hs:=Blk.cell E.sc
 have hpl:=E.p.lt
 have hsl:=Blk.lt E.sc
 have HE:=zH E
 have HT:=zH T
 have HD:=zH D
 have mdd:=zd9.eq_1 C.t s ptrs.length
 rw[h1,h2,if_neg (by simp),if_pos h3]at mdd
 have MD0:=zH mdd
 have H1:=zH h1
 have H2:=zH h2
 have H3:=zH h3
 clear h1 h2 h3 mdd E T D
 go_enter Tryz.func159,Tryz.ntmps159
 go_wp2_with fail
 refine(zc4 HE.out wVar).mono ?_
 rw[H1.out]
 rintro e w' ⟨rfl,rfl⟩
 go_wp2_with fail
 refine(zc4 HE.out zf1).mono ?_
 rw[H2.out]
 rintro e w' ⟨rfl,rfl⟩
 go_wp2_with fail
 refine(zc4 HE.out zga).mono ?_
 rw[H3.out]
 rintro e w' ⟨rfl,rfl⟩
 go_wp2_with fail
 refine(zck HE.out).mono ?_
 rintro e w1 (⟨p1,v,hr,rfl,⟨rfl,hE⟩,hch⟩ | ⟨f,b,hr,rfl,hfb,hle,hch⟩)
 rotate_left
 ·exact⟨rfl,zdp.fault hch (by simp) (by simp) (by have md:=MD0.out;rw[hr]at md;exact md) hfb hle⟩
 have mdd:=MD0.out
 rw[hr,zae]at mdd
 have MD1:=zH mdd
 have R1:=zH hr
 have HE1:=zH hE
 have HC1:=zH hch
 have hp1:=hE.p.cell
 have hpl1:=hE.p.lt
 have hsl1:=Blk.lt hE.sc
 clear hr hE hch mdd
 go_wp2_with fail
 refine zag (fun W=>DEnv C [] [C.sb] w W p1 w1.heap.size { kind:=118,name:={} } (.slice none 0 0) (.slice none 0 0)) ((⟨HE1.out.alloc _,Blk.newAt rfl,HC1.out.size,HC1.out.alloc _⟩)) ?_
 intro w2 hD2
 have D2:=zH hD2
 obtain⟨hp2,hd2,hf2,hl2,hm2,hn2,ha2,hb2⟩:=hD2.cells
 clear hD2
 refine(zf8 D2.out.e).mono ?_
 rintro e w3 (⟨p3,v,hr,rfl,⟨rfl,hE⟩,hch⟩ | ⟨f,b,hr,rfl,hfb,hle,hch⟩)
 rotate_left
 ·exact⟨rfl,zdp.fault (D2.out.c.trans (hch.mono (by simp) (by simp))) (by simp) (by simp) (by have md:=MD1.out;rw[hr]at md;exact md) hfb (Nat.le_trans D2.out.c.size hle)⟩
 have R3:=zH hr
 have mdd:=MD1.out
 rw[hr,zae]at mdd
 have MD2:=zH mdd
 have D3:=zH (D2.out.scan hE hch (by simp))
 obtain⟨hp3,hd3,hf3,hl3,hm3,hn3,ha3,hb3⟩:=D3.out.cells
 clear hr hE hch mdd
 go_wp2_with fail
 refine zag (fun W=>DEnv C [] [C.sb] w W p3.2 w1.heap.size { kind:=102,name:=p3.1 } (.slice none 0 0) (.slice none 0 0)) ((D3.out.setName p3.1).setKind 102) ?_
 intro w4 hD4
 have D4:=zH hD4
 obtain⟨hp4,hd4,hf4,hl4,hm4,hn4,ha4,hb4⟩:=hD4.cells
 clear hD4
 refine(zcu D4.out.e 40).mono ?_
 rintro e w5 (⟨p5,v,hr,rfl,⟨rfl,hE⟩,hch⟩ | ⟨f,b,hr,rfl,hfb,hle,hch⟩)
 rotate_left
 ·exact⟨rfl,zdp.fault (D4.out.c.trans (hch.mono (by simp) (by simp))) (by simp) (by simp) (by have md:=MD2.out;rw[hr]at md;exact md) hfb (Nat.le_trans D4.out.c.size hle)⟩
 have R5:=zH hr
 have mdd:=MD2.out
 rw[hr,zae]at mdd
 have MD3:=zH mdd
 have D5:=zH (D4.out.scan hE hch (by simp))
 obtain⟨hp5,hd5,hf5,hl5,hm5,hn5,ha5,hb5⟩:=D5.out.cells
 clear hr hE hch mdd
 go_wp2_with fail
 refine(zjn C _ _ false D5.out.e).mono ?_
 rintro e w6 (⟨p6,v6,hr,rfl,⟨hN,hE⟩,hch⟩ | ⟨f,b,hr,rfl,hfb,hle,hch⟩)
 rotate_left
 ·exact⟨rfl,zdp.fault (D5.out.c.trans (hch.mono (by simp) (by simp))) (by simp) (by simp) (by have md:=MD3.out;rw[hr]at md;exact md) hfb (Nat.le_trans D5.out.c.size hle)⟩
 have hBw:=zH (Nat.le_trans HE.out.bs (Nat.le_of_lt hsl))
 have mdd:=MD3.out
 rw[hr,zae]at mdd
 have MD4:=zH mdd
 have D6:=zH (D5.out.scan hE hch (by simp))
 have AT6:=zH (func_at R1.out R3.out R5.out hr HE.out.at_ hat)
 obtain⟨a6,c6,hv⟩:=zat hN
 subst hv
 have N6:=zH (show zbs w6 C.B _ p6.1 from zbn hN (Nat.le_trans hBw.out D5.out.c.size))
 obtain⟨hp6,hd6,hf6,hl6,hm6,hn6,ha6,hb6⟩:=D6.out.cells
 clear hr hE hch mdd hN
 go_wp2_with fail
 refine zag (fun W=>DEnv C [] [C.sb] w W p6.2 w1.heap.size { kind:=102,name:=p3.1,params:=p6.1 } (.slice a6 p6.1.length c6) (.slice none 0 0)∧zbs W C.B (.slice a6 p6.1.length c6) p6.1) ⟨D6.out.setParams _ _,zaj N6.out D6.out.blk (by decide) 5 _⟩ ?_
 rintro w7 ⟨hD7,hN7⟩
 have D7:=zH hD7
 have N7:=zH hN7
 have T7:=zH (HT.out.chg hD7.c (by simp) (by simp) (by
  intro g hg
  rw[List.mem_singleton.1 hg]
  exact⟨_,_,HE.out.sc,by decide,by decide⟩))
 obtain⟨hp7,hd7,hf7,hl7,hm7,hn7,ha7,hb7⟩:=hD7.cells
 clear hD7 hN7
 have hlen7:=T7.out
 refine(zx4 1 C w7 p6.2 dv ptrs D7.out.e T7.out (by have:=AT6.out;omega) (by have:=AT6.out;omega)).mono ?_
 rintro e w8 (⟨p8,v8,hr,rfl,⟨hI,hK⟩,hch⟩ | ⟨f,b,hr,rfl,hfb,hle,hch⟩)
 rotate_left
 ·exact⟨rfl,zdp.fault ((D7.out.c.mono (by simp) (by simp)).trans hch) (by simp) (by simp) (by have md:=MD4.out;rw[hr]at md;exact md) hfb (Nat.le_trans D7.out.c.size hle)⟩
 have mdd:=MD4.out
 rw[hr,zae]at mdd
 have MD5:=zH mdd
 obtain⟨a8,c8,hv⟩:=zat hI
 subst hv
 obtain⟨news,hD8⟩:=zwg D7.out N7.out HE.out HT.out HD.out hBw.out hI hK hch
 have D8:=zH hD8
 have hE8:=hK.choose_spec.1
 obtain⟨tv,htb,_⟩:=T7.out
 have hblk8:=D7.out.blk.chg hch (by decide) (by
  intro hm
  rcases(by simpa using hm)with h | h
  ·exact D7.out.blk.ne_ D7.out.e.sc (by decide) h
  ·exact D7.out.blk.ne_ htb (by decide) h)
 have hp8:=hE8.p.cell
 have hl8:=hE8.p.lt
 have hd8:∀ i,w8.cell? ⟨w1.heap.size,i,none⟩=#[.int .u8 102,.string p3.1.text,.int .i64 p3.1.at_,.bool p3.1.num,.int .i64 p3.1.n,.slice a6 p6.1.length c6,.slice none 0 0][i]? := hblk8.cell
 have hf8:=hblk8.frozen
 have hn8:=hblk8.lt
 have hne8:=hE8.p.ne_ hblk8 (by decide)
 clear hr hI hK hch mdd hD8 hE8 htb hblk8 hp6 hd6 hf6 hp7 hd7 hf7
 go_upto_region 16 with fail
 refine zbi (fun W=>DRead C w W p8.2 dv ds ptrs news p8.1.2 w1.heap.size { kind:=102,name:=p3.1,params:=p6.1,body:=p8.1.1 } (.slice a6 p6.1.length c6) (.slice a8 p8.1.1.length c8)) D8.out ?_
 intro wA hD9
 have D9:=zH hD9
 have hd9:∀ i,wA.cell? ⟨w1.heap.size,i,none⟩=#[.int .u8 102,.string p3.1.text,.int .i64 p3.1.at_,.bool p3.1.num,.int .i64 p3.1.n,.slice a6 p6.1.length c6,.slice a8 p8.1.1.length c8][i]? := hD9.blk.cell
 clear hD9 hd8 hf8 hp8 hl8 hn8 hne8
 have dr:=D9.out
 obtain⟨sv,hT,hTR⟩:=dr.tr
 obtain⟨ps,hDR,hDD⟩:=dr.dv
 obtain⟨da,dc,hdv⟩:=zat hDR
 subst hdv
 have hpp:=dr.e.p.cell
 have htt:=hT.cell
 have hftt:=hT.frozen
 have hpl9:=dr.e.p.lt
 have htl9:=hT.lt
 have hbl9:=dr.blk.lt
 have HT9:=zH hT
 have HTR:=zH hTR
 have HDR:=zH hDR
 have HDD:=zH hDD
 have HBS:=zH (Nat.le_trans HE.out.bs (Nat.le_of_lt hsl))
 clear hT hTR hDR hDD dr
 skip
 go_region_law (refine zc5 znj rfl _ _ rfl C.B _ ds.length (ze1 ps ds) wA.heap.size _ _ ((za2 HDR.out).alloc _) (Blk.newAt (by simp)) rfl rfl rfl (by simp[Value.oneCell']) (by omega) (by simp;have:=HBS.out;have:=D9.out.c.size;omega) ?_;intro g cap w9 hrow9 hg9 hat9;(have hT9:=(Blk.append ((HT9.out.drew).alloc _) ((za2 HDR.out).alloc _) hg9 (by decide)));(have hE9:=Env.append ((D9.out.e.drew).alloc _) ((za2 HDR.out).alloc _) hg9 (by decide) (by decide));(have hpp9:=hE9.p.cell);(have htt9:=hT9.cell);(have hftt9:=hT9.frozen);(have HN:=zH (zm4 D9.out HT9.out HTR.out HDR.out HDD.out hrow9 hg9));clear hT9 hE9 hrow9 hg9 hat9)
 all_goals go_wp2_with fail
 all_goals (refine bodyPost_ret (results_none rfl _ _ _) rfl ?_)
 all_goals exact .inl ⟨_,_,MD5.out,rfl,⟨rfl,HN.out.1⟩,HN.out.2⟩
end
end Go.Proofs.YtkmcihhndgdhpaaGreat
