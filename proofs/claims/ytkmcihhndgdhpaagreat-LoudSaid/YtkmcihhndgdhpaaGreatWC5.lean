/- LowN: parts of the walk. -/
import Derived.Test.YtkmcihhndgdhpaaGreatWC4
set_option maxRecDepth 100000
set_option maxHeartbeats 4000000
set_option linter.unusedSimpArgs false
set_option linter.unusedVariables false
namespace Go.Proofs.YtkmcihhndgdhpaaGreat
section
open Go.RowKit Go.Maps
attribute [local go_sem] zaq arV insV zas
theorem zwt (C:LC)(n:Nat)(w:World)(s:Lo)(V:LV)(sp b place m e fuel:Nat)(t:Stm)(av bv ev:Value)(HB:zfr C n)(HMO:zjc C)(hV:V.lm=some b)(h:LE C w s V)(ht:TS C sp t)(T:TC C sp t av bv ev)
  (hb1:za3 (fun j=>C.xs[j]?) t.body (place+1) m) (hb2:za3 (fun j=>C.xs[j]?) t.els m e) (hn:e-(place+1)≤n) (hf:n<fuel) (hcl:s.code.length+2+3*(e-(place+1))≤90000) (hp48:48≤place) :
  Calls Tryz.prog 248 #[.pointer (some ⟨C.lb,0,none⟩),.pointer (some ⟨sp,0,none⟩),.int .i64 (place:Int)] w (zdf C V (zdt (zax C.xs fuel) s t place)):=by
 have MD:=zH (show zdt (zax C.xs fuel) s t place=.error ⟨8,t.at_⟩ by unfold zdt;rw[if_pos hp48])
 obtain⟨M0,hM0⟩:∃ M,M=zdt (zax C.xs fuel) s t place:=⟨_,rfl⟩
 have HM0:=zH hM0
 rw[← hM0]
 have HT:=zH ht
 have T0:=zH T
 have H:=zH h
 have HB1:=zH hb1
 have HB2:=zH hb2
 obtain⟨aa,ac,hav⟩:=zat T.n
 subst hav
 clear hM0 h ht T hb1 hb2
 obtain⟨hl0,hp0,hfl0,hfp0,hll0,hlp0,_⟩:=H.out.cells
 have hs0:=H.out.tc T0.out
 have hsl0:=Nat.lt_of_lt_of_le HT.out.lt H.out.bel.size
 go_enter Tryz.func248,Tryz.ntmps248
 go_wp2_with fail
 refine(zdj _ _ _).mono ?_
 rintro e w4 ⟨rfl,rfl⟩
 exact⟨rfl,(zci.fault (HM0.out.trans MD.out) (za1.new rfl) (Nat.le_refl _) ((Below.refl _ _).alloc H.out.bel.size _)).abs H.out⟩
theorem stmt_go (C:LC)(n:Nat)(w:World)(s:Lo)(V:LV)(sp b place m e fuel:Nat)(t:Stm)(av bv ev:Value)(HB:zfr C n)(HMO:zjc C)(hV:V.lm=some b)(h:LE C w s V)(ht:TS C sp t)(T:TC C sp t av bv ev)
  (hb1:za3 (fun j=>C.xs[j]?) t.body (place+1) m) (hb2:za3 (fun j=>C.xs[j]?) t.els m e) (hn:e-(place+1)≤n) (hf:n<fuel) (hcl:s.code.length+2+3*(e-(place+1))≤90000) (hp48:place<48) :
  Calls Tryz.prog 248 #[.pointer (some ⟨C.lb,0,none⟩),.pointer (some ⟨sp,0,none⟩),.int .i64 (place:Int)] w (zdf C V (zdt (zax C.xs fuel) s t place)):=by
 have MD:=zH (show zdt (zax C.xs fuel) s t place=if t.op=1 then setM (s.note place t.at_) t (zb0 t place)else if t.op=13∨t.op=14 then zdm (zax C.xs fuel) (s.note place t.at_) t (zb0 t place)else zhz (s.note place t.at_) t (zb0 t place) by
  unfold zdt;rw[if_neg (by omega)])
 have h48:s.at_.length+(place+1-s.at_.length)≤48:=by have:=h.i.al;omega
 obtain⟨M0,hM0⟩:∃ M,M=zdt (zax C.xs fuel) s t place:=⟨_,rfl⟩
 have HM0:=zH hM0
 rw[← hM0]
 have HT:=zH ht
 have T0:=zH T
 have H:=zH h
 have HB1:=zH hb1
 have HB2:=zH hb2
 obtain⟨aa,ac,hav⟩:=zat T.n
 subst hav
 clear hM0 h ht T hb1 hb2
 obtain⟨hl0,hp0,hfl0,hfp0,hll0,hlp0,_⟩:=H.out.cells
 have hs0:=H.out.tc T0.out
 have hsl0:=Nat.lt_of_lt_of_le HT.out.lt H.out.bel.size
 have START:=zH (show AtRel C s V (place+1-s.at_.length) (place+1-s.at_.length) w from⟨0,V,by omega,by omega,h48,by simpa using H.out,rfl⟩)
 go_enter Tryz.func248,Tryz.ntmps248
 go_wp2_with fail
 clear hl0 hp0 hfl0 hfp0 hll0 hlp0 hs0 hsl0
 go_loopg [] (place+1-s.at_.length) (fun n wr=>AtRel C s V (place+1-s.at_.length) n wr)
 case atStart=>exact START.out
 case round =>
  obtain⟨j,V1,hn1,hj,_,hL,hv⟩:=hrel
  obtain⟨l,hl⟩:∃ l,l=s.at_++List.replicate j 0:=⟨_,rfl⟩
  have hll:l.length=s.at_.length+j:=by rw[hl,at_len]
  rw[← hl]at hL
  have HLl:=zH hl
  have HLL:=zH hll
  have HN1:=zH hn1
  obtain⟨na,nc,hnv⟩:=zat hL.atr
  have L1:=zH hL
  have v1:=zH hv
  have HNV:=zH hnv
  clear hL hv hl hll hnv hn1
  obtain⟨hl1,hp1,hfl1,hfp1,hll1,hlp1,_⟩:=L1.out.cells
  have hs1:=L1.out.tc T0.out
  have hsl1:=Nat.lt_of_lt_of_le HT.out.lt L1.out.bel.size
  rw[HNV.out]at hp1
  by_cases hjm:j<place+1-s.at_.length
  ·have hle:l.length≤place:=by have:=HLL.out;omega
   have hl48:l.length<48:=by omega
   have HR:=zH (show wr.ownsRow C.B 3 1 (.slice na l.length nc) l.length (zb5 l) by have:=L1.out.atr;rw[HNV.out]at this;exact this)
   have HBW:=zH L1.out.bel.size
   go_wp2_with fail
   go_region_law (refine zc5 tyInt rfl _ _ rfl C.B _ l.length (zb5 l) wr.heap.size _ _ ((za2 HR.out).alloc _) (Blk.newAt (by simp)) rfl rfl rfl (by simp[Value.oneCell']) (by omega) (Nat.le_trans HBW.out (by simp)) ?_;intro g cap w2 hrow2 hg2 hat2;(have hp2:=(Blk.append ((L1.out.drew.alloc _).p) ((za2 HR.out).alloc _) hg2 (by decide)));(have hpp2:=hp2.cell);(have hfp2:=hp2.frozen);(rw[HNV.out]at hpp2);(have hl2:=(Blk.append ((L1.out.drew.alloc _).l) ((za2 HR.out).alloc _) hg2 (by decide)));(have hll2:=hl2.cell);(have HN:=zH (at_step (v:=0) L1.out hl48 hrow2 (by rw[HNV.out];exact hg2) (by rw[HNV.out];exact hat2)));clear hp2 hl2 hrow2 hg2 hat2)
   all_goals go_wp2_with fail
   all_goals (go_roundg (place+1-s.at_.length-(j+1)))
   all_goals first | (case measure=>have:=HN1.out;omega) | skip
   all_goals (case rel=>exact at_next HLl.out hjm h48 HN.out.1 (HN.out.2.1.trans v1.out))
  ·have hlt:place<l.length:=by have:=HLL.out;omega
   have hjj:j=place+1-s.at_.length:=by omega
   obtain⟨g,cap,hnv2,hBg,hgl⟩:=L1.out.atr.form (show 0<l.length by omega)
   rw[HNV.out]at hnv2
   injection hnv2 with hna _ hnc
   subst hna hnc
   have HNV2:=zH (show V1.av=.slice (some ⟨g,0,none⟩) l.length nc from HNV.out)
   have har:=L1.out.atr
   rw[HNV.out]at har
   have hcc:wr.cell? ⟨g,place,none⟩=some (.int .i64 (l[place]:Nat)):=by
    rw[har.cellAt place (by rw[Nat.mul_one];exact hlt)]
    simp[zb5,hlt]
   have hcf:wr.frozen? ⟨g,place,none⟩=false:=har.frozenAt place
   obtain⟨cs,hgb⟩:=zba har (k:=g) rfl
   have hnl:C.lb≠g:=L1.out.l.ne_ hgb (by decide)
   have hnp:C.pb≠g:=L1.out.p.ne_ hgb (by decide)
   have hns:sp≠g:=fun e=>absurd HT.out.lt (by rw[e];exact Nat.not_lt.2 hBg)
   have HS:=zH (show LE C (wr.setCell ⟨g,place,none⟩ (.int .i64 (t.at_:Int))) (s.note place t.at_) V1 by
    have:=L1.out.setAt HNV2.out (k:=place) t.at_
    rw[HLl.out,hjj]at this
    exact this)
   clear har hgb
   go_wp2_with fail
   go_region
   go_wp2_with fail
   refine zbi (fun W=>LE C W (s.note place t.at_) V1) HS.out.drew ?_
   intro W4 hL4
   have L4:=zH hL4
   clear hL4 hcc hcf hnl hnp hns
   clear hl1 hp1 hfl1 hfp1 hll1 hlp1 hs1 hsl1
   obtain⟨hl4,hp4,hfl4,hfp4,hll4,hlp4,_⟩:=L4.out.cells
   have hs4:=L4.out.tc T0.out
   have hsl4:=Nat.lt_of_lt_of_le HT.out.lt L4.out.bel.size
   go_region
   have hG5:=Gs.drew (Gs.start (x:=zb0 t place) L4.out rfl rfl)
   change Exit.then _ _ _ _ (World.drew (W4.alloc (.cells (zas (zb0 t place) (.slice none 0 0)).toArray 309)))
   generalize (World.drew (W4.alloc (.cells (zas (zb0 t place) (.slice none 0 0)).toArray 309)))=w5 at hG5 ⊢
   have G5:=zH hG5
   clear hG5
   clear hl4 hp4 hfl4 hfp4 hll4 hlp4 hs4 hsl4
   obtain⟨hl5,hp5,hfl5,hfp5,hll5,hlp5,_⟩:=G5.out.le.cells
   have hs5:=G5.out.le.tc T0.out
   have hsl5:=Nat.lt_of_lt_of_le HT.out.lt G5.out.le.bel.size
   have hx5:=G5.out.cells
   have hxf5:=G5.out.xe.b.frozen
   have hxl5:=G5.out.xe.b.lt
   have HCL:=zH (show(s.note place t.at_).code.length<100000 by rw[ztg];omega)
   have MDs:=zH (HM0.out.trans MD.out)
   clear START
   by_cases o1:t.op=1
   ·have q1:((t.op:Int)==1)=true:=by rw[beq_iff_eq];omega
    have MD1:=zH (MDs.out.trans (if_pos o1))
    clear o1
    go_wp2_with fail
    refine(set_any C w5 _ V1 sp b t (zb0 t place) (v1.out.trans hV) G5.out.le HT.out rfl HCL.out).mono ?_
    rintro e w9 (⟨s9,v,hr,rfl,rfl,V9,hL9,hv9⟩ | ⟨f,g,hr,rfl,hfb,hle,hch⟩)
    rotate_left
    ·exact⟨rfl,(zci.fault (MD1.out.trans hr) hfb hle hch).abs G5.out.le⟩
    have FIN:=zH (show zdf C V M0 (.returned (.tuple #[])) w9 from .inl ⟨_,_,MD1.out.trans hr,rfl,rfl,V9,hL9,hv9.trans v1.out⟩)
    clear hr hL9 hv9
    go_wp2_with fail
    first | go_end0 | refine bodyPost_ret (results_none rfl _ _ _) rfl ?_
    exact FIN.out
   have q1:((t.op:Int)==1)=false:=zai (by omega)
   have MD2:=zH (MDs.out.trans (if_neg o1))
   by_cases ob:t.op=13∨t.op=14
   ·have MD3:=zH (MD2.out.trans (if_pos ob))
    have HBR:=zH (zuq C n w5 (s.note place t.at_) V1 sp b (place+1) m e fuel t (zb0 t place) _ bv ev HB (v1.out.trans hV) G5.out.le HT.out T0.out rfl HB1.out HB2.out hn hf hcl)
    have q2:(t.op:Int)=13∨(((t.op:Int)==13)=false∧(t.op:Int)=14):=by
     rcases ob with h | h
     ·left;omega
     ·right;exact⟨zai (by omega),by omega⟩
    clear ob o1
    rcases q2 with q2 | ⟨q2,q3⟩
    all_goals
     go_wp2_with fail
     refine HBR.out.mono ?_
     rintro e w9 (⟨s9,v,hr,rfl,rfl,V9,hL9,hv9⟩ | ⟨f,g,hr,rfl,hfb,hle,hch⟩)
     rotate_left
     ·exact⟨rfl,.inr ⟨f,g,MD3.out.trans hr,rfl,hfb,hle,hch⟩⟩
     have FIN:=zH (show zdf C V M0 (.returned (.tuple #[])) w9 from .inl ⟨_,_,MD3.out.trans hr,rfl,rfl,V9,hL9,hv9.trans v1.out⟩)
     clear hr hL9 hv9
     go_wp2_with fail
     first | go_end0 | refine bodyPost_ret (results_none rfl _ _ _) rfl ?_
     exact FIN.out
   have q13:((t.op:Int)==13)=false:=zai (by omega)
   have q14:((t.op:Int)==14)=false:=zai (by omega)
   have MD3:=zH (MD2.out.trans (if_neg ob))
   have MDp:=zH (MD3.out.trans (zhz.eq_1 (s.note place t.at_) t (zb0 t place)))
   clear o1 ob
   by_cases ol:t.op=9∨t.op=10
   ·have MD4:=zH (MDp.out.trans (if_pos ol))
    have q2:(t.op:Int)=9∨(((t.op:Int)==9)=false∧(t.op:Int)=10):=by
     rcases ol with h | h
     ·left;omega
     ·right;exact⟨zai (by omega),by omega⟩
    have HMM:=zH (show NM w5.drew C.mb s.muts from G5.out.drew.le.mm)
    clear ol
    cases hm:mget s.muts t.y.text with
    | none =>
     have KE:=zH (zim hm)
     have MD5:=zH (MD4.out.trans (by rw[show mget (s.note place t.at_).muts t.y.text=none from hm]))
     clear hm
     rcases q2 with q2 | ⟨q2,q3⟩
     all_goals
      go_wp2_with fail
      go_region_with (go_at_call 114;refine(zbo _ _ s.muts _ HMM.out (zal HT.out.ok.y)).mono ?_;rintro e w' ⟨rfl,rfl⟩;rw[KE.out])
      all_goals go_wp2_with fail
      all_goals (refine(zdj _ _ _).mono ?_;rintro e w9 ⟨rfl,rfl⟩)
      all_goals exact⟨rfl,(zci.fault (w:=w5) MD5.out (za1.new (by simp)) (by simp) (((Below.refl C.B w5).setCell (Nat.le_of_not_lt fun hlt=>G5.out.xe.u (.inl hlt)) _).drew.alloc (by simp;exact G5.out.le.bel.size) _)).abs G5.out.le⟩
    | some v =>
     have KE:=zH (zk1 hm)
     have MD5:=zH (MD4.out.trans (by rw[show mget (s.note place t.at_).muts t.y.text=some v from hm]))
     clear hm
     rcases q2 with q2 | ⟨q2,q3⟩
     all_goals
      go_wp2_with fail
      go_region_with (go_at_call 114;refine(zbo _ _ s.muts _ HMM.out (zal HT.out.ok.y)).mono ?_;rintro e w' ⟨rfl,rfl⟩;rw[KE.out])
      all_goals go_wp2_with fail
      all_goals refine zag (fun W=>Gs C W4 V1 W4.heap.size W (s.note place t.at_) { zb0 t place with var:=v }) (G5.out.setVar v).drew ?_
      all_goals intro wz hGz
      all_goals have HGZ:=zH hGz
      all_goals clear hGz
      all_goals refine(zde C wz _ V1 { zb0 t place with var:=v } (.slice none 0 0) HGZ.out.le HCL.out HGZ.out.xe.a).mono ?_
      all_goals rintro e w9 ⟨rfl,V',hL9,hv9⟩
      all_goals have FIN:=zH (show zdf C V M0 (.returned (.tuple #[])) w9 from .inl ⟨_,_,MD5.out,rfl,rfl,V',hL9,hv9.trans v1.out⟩)
      all_goals clear hL9 hv9
      all_goals go_wp2_with fail
      all_goals first | go_end0 | refine bodyPost_ret (results_none rfl _ _ _) rfl ?_
      all_goals exact FIN.out
   have q9:((t.op:Int)==9)=false:=zai (by omega)
   have q10:((t.op:Int)==10)=false:=zai (by omega)
   have MD4:=zH (MDp.out.trans (if_neg ol))
   clear ol
   by_cases o8:t.op=8
   ·have q8:((t.op:Int)==8)=true:=by rw[beq_iff_eq];omega
    have MD5:=zH (MD4.out.trans (if_pos o8))
    clear o8
    go_wp2_with fail
    refine(zea C _ _ V1 t.y b (v1.out.trans hV) G5.out.le (zal HT.out.ok.y)).mono ?_
    rintro e w6 (⟨p6,v,hr,rfl,rfl,hL,hch⟩ | ⟨f,g,hr,rfl,hfb,hle,hch⟩)
    rotate_left
    ·exact⟨rfl,(zci.fault (MD5.out.trans (by rw[hr,zc1])) hfb hle hch).abs G5.out.le⟩
    have MD6:=zH (MD5.out.trans (by rw[hr,zae]))
    have G6:=zH (G5.out.arg (v1.out.trans hV) hL hch)
    have Q6:=zH (zfk hr)
    clear hr hL hch
    obtain⟨hl6,hp6,hfl6,hfp6,hll6,hlp6,_⟩:=G6.out.le.cells
    have hs6:=G6.out.le.tc T0.out
    have hsl6:=Nat.lt_of_lt_of_le HT.out.lt G6.out.le.bel.size
    have hx6:=G6.out.cells
    have hxf6:=G6.out.xe.b.frozen
    have hxl6:=G6.out.xe.b.lt
    clear hl5 hp5 hfl5 hfp5 hll5 hlp5 hs5 hsl5 hx5 hxf5 hxl5
    go_wp2_with fail
    refine zag (fun W=>Gs C W4 V1 W4.heap.size W p6.2 { zb0 t place with y:=p6.1 }) (G6.out.setY p6.1) ?_
    intro wz hGz
    have HGZ:=zH hGz
    clear hGz
    refine(zde C wz _ V1 { zb0 t place with y:=p6.1 } (.slice none 0 0) HGZ.out.le (zdq Q6.out HCL.out) HGZ.out.xe.a).mono ?_
    rintro e w9 ⟨rfl,V',hL9,hv9⟩
    have FIN:=zH (show zdf C V M0 (.returned (.tuple #[])) w9 from .inl ⟨_,_,MD6.out,rfl,rfl,V',hL9,hv9.trans v1.out⟩)
    clear hL9 hv9
    go_wp2_with fail
    first | go_end0 | refine bodyPost_ret (results_none rfl _ _ _) rfl ?_
    exact FIN.out
   have q8:((t.op:Int)==8)=false:=zai (by omega)
   have MD5:=zH (MD4.out.trans (if_neg o8))
   clear o8
   by_cases o12:t.op=12
   ·have q12:((t.op:Int)==12)=true:=by rw[beq_iff_eq];omega
    have MD6:=zH (MD5.out.trans (if_pos o12))
    clear o12
    cases hh:t.has
    ·have MD7:=zH (MD6.out.trans (if_neg (fun h=>Bool.noConfusion (hh.symm.trans h))))
     go_wp2_with fail
     refine zag (fun W=>Gs C W4 V1 W4.heap.size W (s.note place t.at_) { zb0 t place with y:={ c:=true } }) (G5.out.setY { c:=true }) ?_
     intro wz hGz
     have HGZ:=zH hGz
     clear hGz
     refine(zde C wz _ V1 { zb0 t place with y:={ c:=true } } (.slice none 0 0) HGZ.out.le (HCL.out) HGZ.out.xe.a).mono ?_
     rintro e w9 ⟨rfl,V',hL9,hv9⟩
     have FIN:=zH (show zdf C V M0 (.returned (.tuple #[])) w9 from .inl ⟨_,_,MD7.out,rfl,rfl,V',hL9,hv9.trans v1.out⟩)
     clear hL9 hv9
     go_wp2_with fail
     first | go_end0 | refine bodyPost_ret (results_none rfl _ _ _) rfl ?_
     exact FIN.out
    ·have MD7:=zH (MD6.out.trans (if_pos hh))
     go_wp2_with fail
     refine zag (fun W=>Gs C W4 V1 W4.heap.size W (s.note place t.at_) { zb0 t place with y:={ c:=true } }) (G5.out.setY { c:=true }) ?_
     intro w6 hG
     have G6:=zH hG
     clear hG
     obtain⟨hl6,hp6,hfl6,hfp6,hll6,hlp6,_⟩:=G6.out.le.cells
     have hs6:=G6.out.le.tc T0.out
     have hsl6:=Nat.lt_of_lt_of_le HT.out.lt G6.out.le.bel.size
     have hx6:=G6.out.cells
     have hxf6:=G6.out.xe.b.frozen
     have hxl6:=G6.out.xe.b.lt
     clear hl5 hp5 hfl5 hfp5 hll5 hlp5 hs5 hsl5 hx5 hxf5 hxl5
     refine(zea C _ _ V1 t.y b (v1.out.trans hV) G6.out.le (zal HT.out.ok.y)).mono ?_
     rintro e w7 (⟨p7,v,hr,rfl,rfl,hL,hch⟩ | ⟨f,g,hr,rfl,hfb,hle,hch⟩)
     rotate_left
     ·exact⟨rfl,(zci.fault (MD7.out.trans (by rw[hr,zc1])) hfb hle hch).abs G6.out.le⟩
     have MD8:=zH (MD7.out.trans (by rw[hr,zae]))
     have G7:=zH (G6.out.arg (v1.out.trans hV) hL hch)
     have Q7:=zH (zfk hr)
     clear hr hL hch
     obtain⟨hl7,hp7,hfl7,hfp7,hll7,hlp7,_⟩:=G7.out.le.cells
     have hs7:=G7.out.le.tc T0.out
     have hsl7:=Nat.lt_of_lt_of_le HT.out.lt G7.out.le.bel.size
     have hx7:=G7.out.cells
     have hxf7:=G7.out.xe.b.frozen
     have hxl7:=G7.out.xe.b.lt
     clear hl6 hp6 hfl6 hfp6 hll6 hlp6 hs6 hsl6 hx6 hxf6 hxl6
     go_wp2_with fail
     refine zag (fun W=>Gs C W4 V1 W4.heap.size W p7.2 { zb0 t place with y:=p7.1 }) (G7.out.setY p7.1) ?_
     intro wz hGz
     have HGZ:=zH hGz
     clear hGz
     refine(zde C wz _ V1 { zb0 t place with y:=p7.1 } (.slice none 0 0) HGZ.out.le (zdq Q7.out HCL.out) HGZ.out.xe.a).mono ?_
     rintro e w9 ⟨rfl,V',hL9,hv9⟩
     have FIN:=zH (show zdf C V M0 (.returned (.tuple #[])) w9 from .inl ⟨_,_,MD8.out,rfl,rfl,V',hL9,hv9.trans v1.out⟩)
     clear hL9 hv9
     go_wp2_with fail
     first | go_end0 | refine bodyPost_ret (results_none rfl _ _ _) rfl ?_
     exact FIN.out
   have q12:((t.op:Int)==12)=false:=zai (by omega)
   have MD6:=zH (MD5.out.trans (if_neg o12))
   clear o12
   by_cases o5:t.op=5
   ·have q5:((t.op:Int)==5)=true:=by rw[beq_iff_eq];omega
    have MD7:=zH (MD6.out.trans (if_pos o5))
    clear o5
    go_wp2_with fail
    refine(zhr C _ _ V1 t.x b (v1.out.trans hV) G5.out.le (zal HT.out.ok.x)).mono ?_
    rintro e w6 (⟨p6,v,hr,rfl,rfl,hL,hch⟩ | ⟨f,g,hr,rfl,hfb,hle,hch⟩)
    rotate_left
    ·exact⟨rfl,(zci.fault (MD7.out.trans (by rw[hr,zc1])) hfb hle hch).abs G5.out.le⟩
    have MD8:=zH (MD7.out.trans (by rw[hr,zae]))
    have G6:=zH (G5.out.arg (v1.out.trans hV) hL hch)
    have Q6:=zH (zgl hr)
    clear hr hL hch
    obtain⟨hl6,hp6,hfl6,hfp6,hll6,hlp6,_⟩:=G6.out.le.cells
    have hs6:=G6.out.le.tc T0.out
    have hsl6:=Nat.lt_of_lt_of_le HT.out.lt G6.out.le.bel.size
    have hx6:=G6.out.cells
    have hxf6:=G6.out.xe.b.frozen
    have hxl6:=G6.out.xe.b.lt
    clear hl5 hp5 hfl5 hfp5 hll5 hlp5 hs5 hsl5 hx5 hxf5 hxl5
    go_wp2_with fail
    refine zag (fun W=>Gs C W4 V1 W4.heap.size W p6.2 { zb0 t place with x:=p6.1 }) (G6.out.setX p6.1) ?_
    intro w7 hG
    have G7:=zH hG
    clear hG
    obtain⟨hl7,hp7,hfl7,hfp7,hll7,hlp7,_⟩:=G7.out.le.cells
    have hs7:=G7.out.le.tc T0.out
    have hsl7:=Nat.lt_of_lt_of_le HT.out.lt G7.out.le.bel.size
    have hx7:=G7.out.cells
    have hxf7:=G7.out.xe.b.frozen
    have hxl7:=G7.out.xe.b.lt
    clear hl6 hp6 hfl6 hfp6 hll6 hlp6 hs6 hsl6 hx6 hxf6 hxl6
    refine(zea C _ _ V1 t.y b (v1.out.trans hV) G7.out.le (zal HT.out.ok.y)).mono ?_
    rintro e w8 (⟨p8,v,hr,rfl,rfl,hL,hch⟩ | ⟨f,g,hr,rfl,hfb,hle,hch⟩)
    rotate_left
    ·exact⟨rfl,(zci.fault (MD8.out.trans (by rw[hr,zc1])) hfb hle hch).abs G7.out.le⟩
    have MD9:=zH (MD8.out.trans (by rw[hr,zae]))
    have G8:=zH (G7.out.arg (v1.out.trans hV) hL hch)
    have Q8:=zH (zfk hr)
    clear hr hL hch
    obtain⟨hl8,hp8,hfl8,hfp8,hll8,hlp8,_⟩:=G8.out.le.cells
    have hs8:=G8.out.le.tc T0.out
    have hsl8:=Nat.lt_of_lt_of_le HT.out.lt G8.out.le.bel.size
    have hx8:=G8.out.cells
    have hxf8:=G8.out.xe.b.frozen
    have hxl8:=G8.out.xe.b.lt
    clear hl7 hp7 hfl7 hfp7 hll7 hlp7 hs7 hsl7 hx7 hxf7 hxl7
    go_wp2_with fail
    refine zag (fun W=>Gs C W4 V1 W4.heap.size W p8.2 { zb0 t place with x:=p6.1,y:=p8.1 }) (G8.out.setY p8.1) ?_
    intro wz hGz
    have HGZ:=zH hGz
    clear hGz
    refine(zde C wz _ V1 { zb0 t place with x:=p6.1,y:=p8.1 } (.slice none 0 0) HGZ.out.le (zdq Q8.out (zdq Q6.out HCL.out)) HGZ.out.xe.a).mono ?_
    rintro e w9 ⟨rfl,V',hL9,hv9⟩
    have FIN:=zH (show zdf C V M0 (.returned (.tuple #[])) w9 from .inl ⟨_,_,MD9.out,rfl,rfl,V',hL9,hv9.trans v1.out⟩)
    clear hL9 hv9
    go_wp2_with fail
    first | go_end0 | refine bodyPost_ret (results_none rfl _ _ _) rfl ?_
    exact FIN.out
   have q5:((t.op:Int)==5)=false:=zai (by omega)
   have MD7:=zH (MD6.out.trans (if_neg o5))
   clear o5
   by_cases ox:t.x.text.size=0
   ·have MD8a:=zH (MD7.out.trans (if_pos ox))
    have x1:=text_no ox
    have x2:(!t.x.text.toList.isEmpty)=false:=by rw[x1];rfl
    clear ox
    go_wp2_with fail
    refine(HMO _ _ V1 sp _ b t (zb0 t place) (v1.out.trans hV) G5.out.le HT.out G5.out.xe rfl).mono ?_
    rintro e w8 (⟨p8,v,hr,rfl,rfl,V8,av8,hL8,hv8,hX8⟩ | ⟨f,g,hr,rfl,hfb,hle,hch⟩)
    rotate_left
    ·exact⟨rfl,(zci.fault (MD8a.out.trans (by rw[hr,zc1])) hfb hle hch).abs G5.out.le⟩
    have MD8:=zH (MD8a.out.trans (by rw[hr,zae]))
    have HC8:=zH (zk7 hr)
    have hx8:∀ j,w8.cell? ⟨W4.heap.size,j,none⟩=#[.int .i64 p8.1.op,.int .i64 p8.1.place,.int .i64 p8.1.fn,.int .i64 p8.1.x,.bool p8.1.y.c,.int .i64 p8.1.y.n,.bool p8.1.z.c,.int .i64 p8.1.z.n,.int .i64 p8.1.bin,.int .i64 p8.1.var,.int .i64 p8.1.site,.int .i64 p8.1.call,av8,.int .i64 p8.1.to][j]? := hX8.b.cell
    have L8:=zH hL8
    have X8:=zH hX8
    have v8:=zH hv8
    clear hr hL8 hX8 hv8
    go_wp2_with fail
    refine(zde C w8 _ V8 p8.1 av8 L8.out (HC8.out ▸ HCL.out) X8.out.a).mono ?_
    rintro e w9 ⟨rfl,V',hL9,hv9⟩
    have FIN:=zH (show zdf C V M0 (.returned (.tuple #[])) w9 from .inl ⟨_,_,MD8.out,rfl,rfl,V',hL9,hv9.trans (v8.out.trans v1.out)⟩)
    clear hL9 hv9
    go_wp2_with fail
    first | go_end0 | refine bodyPost_ret (results_none rfl _ _ _) rfl ?_
    exact FIN.out
   ·have MD8a:=zH (MD7.out.trans (if_neg ox))
    have x1:=text_yes ox
    have x2:(!t.x.text.toList.isEmpty)=true:=by cases h:t.x.text.toList <;> simp_all
    clear ox
    go_wp2_with fail
    refine(zhr C _ _ V1 t.x b (v1.out.trans hV) G5.out.le (zal HT.out.ok.x)).mono ?_
    rintro e w6 (⟨p6,v,hr,rfl,rfl,hL,hch⟩ | ⟨f,g,hr,rfl,hfb,hle,hch⟩)
    rotate_left
    ·exact⟨rfl,(zci.fault (MD8a.out.trans (by rw[hr,zc1])) hfb hle hch).abs G5.out.le⟩
    have MD9:=zH (MD8a.out.trans (by rw[hr,zae]))
    have G6:=zH (G5.out.arg (v1.out.trans hV) hL hch)
    have Q6:=zH (zgl hr)
    clear hr hL hch
    obtain⟨hl6,hp6,hfl6,hfp6,hll6,hlp6,_⟩:=G6.out.le.cells
    have hs6:=G6.out.le.tc T0.out
    have hsl6:=Nat.lt_of_lt_of_le HT.out.lt G6.out.le.bel.size
    have hx6:=G6.out.cells
    have hxf6:=G6.out.xe.b.frozen
    have hxl6:=G6.out.xe.b.lt
    clear hl5 hp5 hfl5 hfp5 hll5 hlp5 hs5 hsl5 hx5 hxf5 hxl5
    go_wp2_with fail
    refine zag (fun W=>Gs C W4 V1 W4.heap.size W p6.2 { zb0 t place with x:=p6.1 }) (G6.out.setX p6.1) ?_
    intro w7 hG
    have G7:=zH hG
    clear hG
    obtain⟨hl7,hp7,hfl7,hfp7,hll7,hlp7,_⟩:=G7.out.le.cells
    have hs7:=G7.out.le.tc T0.out
    have hsl7:=Nat.lt_of_lt_of_le HT.out.lt G7.out.le.bel.size
    have hx7:=G7.out.cells
    have hxf7:=G7.out.xe.b.frozen
    have hxl7:=G7.out.xe.b.lt
    clear hl6 hp6 hfl6 hfp6 hll6 hlp6 hs6 hsl6 hx6 hxf6 hxl6
    refine(HMO _ _ V1 sp _ b t { zb0 t place with x:=p6.1 } (v1.out.trans hV) G7.out.le HT.out G7.out.xe rfl).mono ?_
    rintro e w8 (⟨p8,v,hr,rfl,rfl,V8,av8,hL8,hv8,hX8⟩ | ⟨f,g,hr,rfl,hfb,hle,hch⟩)
    rotate_left
    ·exact⟨rfl,(zci.fault (MD9.out.trans (by rw[hr,zc1])) hfb hle hch).abs G7.out.le⟩
    have MD8:=zH (MD9.out.trans (by rw[hr,zae]))
    have HC8:=zH (zk7 hr)
    have hx8:∀ j,w8.cell? ⟨W4.heap.size,j,none⟩=#[.int .i64 p8.1.op,.int .i64 p8.1.place,.int .i64 p8.1.fn,.int .i64 p8.1.x,.bool p8.1.y.c,.int .i64 p8.1.y.n,.bool p8.1.z.c,.int .i64 p8.1.z.n,.int .i64 p8.1.bin,.int .i64 p8.1.var,.int .i64 p8.1.site,.int .i64 p8.1.call,av8,.int .i64 p8.1.to][j]? := hX8.b.cell
    have L8:=zH hL8
    have X8:=zH hX8
    have v8:=zH hv8
    clear hr hL8 hX8 hv8
    go_wp2_with fail
    refine(zde C w8 _ V8 p8.1 av8 L8.out (HC8.out ▸ (zdq Q6.out HCL.out)) X8.out.a).mono ?_
    rintro e w9 ⟨rfl,V',hL9,hv9⟩
    have FIN:=zH (show zdf C V M0 (.returned (.tuple #[])) w9 from .inl ⟨_,_,MD8.out,rfl,rfl,V',hL9,hv9.trans (v8.out.trans v1.out)⟩)
    clear hL9 hv9
    go_wp2_with fail
    first | go_end0 | refine bodyPost_ret (results_none rfl _ _ _) rfl ?_
    exact FIN.out
end
end Go.Proofs.YtkmcihhndgdhpaaGreat
