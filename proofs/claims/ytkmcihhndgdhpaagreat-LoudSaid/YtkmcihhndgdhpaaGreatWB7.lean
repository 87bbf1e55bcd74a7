/- LkH: parts of the walk. -/
import Derived.Test.YtkmcihhndgdhpaaGreatWB4
set_option maxRecDepth 100000
set_option maxHeartbeats 4000000
set_option linter.unusedSimpArgs false
set_option linter.unusedVariables false
namespace Go.Proofs.YtkmcihhndgdhpaaGreat
section
open Go.RowKit Go.Maps Go.ChangeMaps Go.Shelf
set_option linter.unusedSimpArgs false
def sL:Code→Code
 | .seq a _=>a
 | c=>c
def sR:Code→Code
 | .seq _ b=>b
 | c=>c
def inB:Code→Code
 | .block _ c=>c
 | .loop c=>c
 | c=>c
noncomputable def abSw:Code:=match Tryz.f232.body with
 | some c=>sR (sL (sR (sR (sR (sR (inB (sL (sR (sR (inB (inB (sR (sL (sR (sR (sR c))))))))))))))))
 | none=>.skip
theorem zvn {C:AX}{wf:World}{VF:FV}{Rs Bs:List Nat}{wp:World}{VP:PtV}{st:PS}{x:Nat}(Y:LkY C wf VF Rs Bs wp VP st x){V:LkV}{w:World}{sa:Option Addr}{sc rg rc:Nat}{ba:Option Addr}{bc r0 sb cb k ib:Nat}{i:In}{aa:Option Addr}{ac:Nat}{s3:LS}{wc:World}
  (HSEE:Hid (∀ W,Below wf.heap.size wf W→LkSee C VF sa sc rg rc ba bc r0 Bs W)) (HSB:Hid (sb=VP.sb)) (HON:Hid (∀ s W',PsW C wf VF sb V cb w s W'→Below wf.heap.size wf W'))
  (HPT:Hid (∀ W',Below wf.heap.size wf W'→PtAt wp.heap.size VF.fb wp VP st x W')) (HI:Hid (C.P.code[k]? = some i)) (hlt:k<C.P.code.length) (HPc:Hid (AbI ib #[.int .i64 (i.op:Int),.int .i64 i.place,.int .i64 (i.fn:Int),.int .i64 i.x,.bool i.y.c,.int .i64 (i.y.n:Int),.bool i.z.c,.int .i64 (i.z.n:Int),.int .i64 (i.bin:Int),.int .i64 (i.var:Int),.int .i64 (i.site:Int),.int .i64 (i.call:Int),.slice aa i.args.length ac,.int .i64 (i.to:Int)] C wf VF sb V cb w s3 wc))
  {u1 u2 u8 u9 u10 u11 u12 u13 u14 u15 u16 u17 u18 u19 u20 u21 u22 u23 u24 u25 u26 u27 u28 u29 u30 u31 u32 u33 u34 u35 u36 u37 u38 u39 u40 u41 u42 u43 u44 u45 u46 u47 u48 u49 u50 u51 u52 u53 u54 u55 u56 u57 u58 u59 u60 u61 u62 u63 u64 u65 u66 u67 u68 u69 u70 u71 u72 u73 u74 u75 u76 u77 u78 u79 u80 u81 u82 u83 u84 u85 u86 u87 u88 u89 u90 u91 u92 u93 u94 u95 u97 u98 u99 u100 u101 u102 u103 u104 u105 u106 u107 u108 u109 u110 u111 u112 u113 u114 u115 u116 u117 u118 u119 u120 u121 u122 u123 u124 u125 u126 u127 u128 u129 u130 u131 u132 u133 u134 u135 u136 u137 u138 u139 u140 u141 u142 u143 u144 u145 u146 u147 u148 u149 u150 u151 u152 u153 u154 u155 u156 u157 u158 u159 u160 u161 u162 u163 u164 u165 u166 u167 u168 u169 u170 u171 u172 u173 u174 u175 u176 u177 u178 u179 u180 u181 u182 u183 u184 u185 u186 u187 u188 u189 u190 u191 u192 u193 u194 u195 u196 u197 u198 u199 u200 u201 u202 u203 u204 u205 u206 u207 u208 u209:Value} {K K1 K2 K3:Act→World→Prop} {M:LS}
  (hK:∀ {v8 v9 v10 v97 v98 v99 v100 v101 v102 v103 v104 v105 v106 v107 v108 v109 v110 v111 v112 v113 v114 v115 v116 v117 v118 v119 v120 v121 v122 v123 v124 v125 v126 v127 v128 v129 v130 v131 v132 v133 v134 v135 v136 v137 v138 v139 v140 v141 v142 v143 v144 v145 v146 v147 v148 v149 v150 v151 v152 v153 v154 v155 v156 v157 v158 v159 v160 v161 v162 v163 v164 v165 v166 v167 v168 v169 v170 v171 v172 v173 v174 v175 v176 v177 v178 v179 v180 v181 v182 v183 v184 v185 v186:Value} {W:World} {s4:LS} {h:Nat},h<2 ^ 48→PsW C wf VF sb V cb w s4 W→zb7 C.P st Bs s3 k i=(s4,h)→K { tmps:=#[.pointer (some ⟨V.xb,0,none⟩),u1,u2,.pointer (some ⟨cb,0,none⟩),.func (.func 285) #[] #[.pointer (some ⟨cb,0,none⟩)],.int .i64 (k:Int),.pointer (some ⟨ib,0,none⟩),zaa h,v8,v9,v10,u11,u12,u13,u14,u15,u16,u17,u18,u19,u20,u21,u22,u23,u24,u25,u26,u27,u28,u29,u30,u31,u32,u33,u34,u35,u36,u37,u38,u39,u40,u41,u42,u43,u44,u45,u46,u47,u48,u49,u50,u51,u52,u53,u54,u55,u56,u57,u58,u59,u60,u61,u62,u63,u64,u65,u66,u67,u68,u69,u70,u71,u72,u73,u74,u75,u76,u77,u78,u79,u80,u81,u82,u83,u84,u85,u86,u87,u88,u89,u90,u91,u92,u93,u94,u95,.int .i64 (i.op:Int),v97,v98,v99,v100,v101,v102,v103,v104,v105,v106,v107,v108,v109,v110,v111,v112,v113,v114,v115,v116,v117,v118,v119,v120,v121,v122,v123,v124,v125,v126,v127,v128,v129,v130,v131,v132,v133,v134,v135,v136,v137,v138,v139,v140,v141,v142,v143,v144,v145,v146,v147,v148,v149,v150,v151,v152,v153,v154,v155,v156,v157,v158,v159,v160,v161,v162,v163,v164,v165,v166,v167,v168,v169,v170,v171,v172,v173,v174,v175,v176,v177,v178,v179,v180,v181,v182,v183,v184,v185,v186,u187,u188,u189,u190,u191,u192,u193,u194,u195,u196,u197,u198,u199,u200,u201,u202,u203,u204,u205,u206,u207,u208,u209],defers:=[] } W) :
  abSw.wp Tryz.prog (Exit.then K (Exit.inBlock 1 (Exit.then K1 (Exit.then K2 (Exit.inBlock 0 (Exit.then K3 (bodyPost Tryz.prog Tryz.f232 (zi8 C wf VF sb V M w)))))))) { tmps:=#[.pointer (some ⟨V.xb,0,none⟩),u1,u2,.pointer (some ⟨cb,0,none⟩),.func (.func 285) #[] #[.pointer (some ⟨cb,0,none⟩)],.int .i64 (k:Int),.pointer (some ⟨ib,0,none⟩),zaa (s3.1 4 k),u8,u9,u10,u11,u12,u13,u14,u15,u16,u17,u18,u19,u20,u21,u22,u23,u24,u25,u26,u27,u28,u29,u30,u31,u32,u33,u34,u35,u36,u37,u38,u39,u40,u41,u42,u43,u44,u45,u46,u47,u48,u49,u50,u51,u52,u53,u54,u55,u56,u57,u58,u59,u60,u61,u62,u63,u64,u65,u66,u67,u68,u69,u70,u71,u72,u73,u74,u75,u76,u77,u78,u79,u80,u81,u82,u83,u84,u85,u86,u87,u88,u89,u90,u91,u92,u93,u94,u95,.int .i64 (i.op:Int),u97,u98,u99,u100,u101,u102,u103,u104,u105,u106,u107,u108,u109,u110,u111,u112,u113,u114,u115,u116,u117,u118,u119,u120,u121,u122,u123,u124,u125,u126,u127,u128,u129,u130,u131,u132,u133,u134,u135,u136,u137,u138,u139,u140,u141,u142,u143,u144,u145,u146,u147,u148,u149,u150,u151,u152,u153,u154,u155,u156,u157,u158,u159,u160,u161,u162,u163,u164,u165,u166,u167,u168,u169,u170,u171,u172,u173,u174,u175,u176,u177,u178,u179,u180,u181,u182,u183,u184,u185,u186,u187,u188,u189,u190,u191,u192,u193,u194,u195,u196,u197,u198,u199,u200,u201,u202,u203,u204,u205,u206,u207,u208,u209],defers:=[] } wc:=by
 have HC:=Y.l.f.f.h.c
 have hcl:=HC.wf.cl
 have hfl5:=HC.wf.fl
 have hgl5:=HC.wf.gl
 have hio:=Y.l.w.io k i HI.out
 have hfn:=HC.wf.fn k i HI.out
 have hibc:=HPc.out.i.cell
 have hibl:=HPc.out.i.lt
 have hxc:=HPc.out.p.k.m.x.cell
 unfold zcl at hxc
 have hxl:=HPc.out.p.k.m.x.lt
 have hg4:wc.cell? ⟨V.g 4,k,none⟩=some (zaa (s3.1 4 k)):=HPc.out.p.k.m.cell (r:=4) (i:=k) (by omega) (by unfold za8;simpa using hlt)
 have hh48:s3.1 4 k<2 ^ 48:=HPc.out.p.k.m.sm 4 k
 simp only[abSw,Tryz.f232,sL,sR,inB]
 by_cases h7:i.op=7
 ·have o7:((i.op:Int)==7)=true:=by rw[h7];rfl
  have hgs:=(List.getElem?_eq_some_iff.1 (Y.l.w.gs k i HI.out h7)).1
  obtain⟨xb,hxb⟩:∃ xb,Bs[i.site]? = some xb:=⟨_,List.getElem?_eq_getElem (by rw[Y.l.f.bl];exact hgs)⟩
  have hxb48:xb<2 ^ 48:=Nat.lt_of_lt_of_le (Y.l.f.small _ _ hxb) (Nat.pow_le_pow_right (by omega) (by omega))
  have hb48:2 ^ i.site<2 ^ 48:=Nat.pow_lt_pow_right (by omega) (by omega)
  have HMID:=zH (show zb7 C.P st Bs s3 k i=(s3,s3.1 4 k|||(2 ^ i.site|||xb)) by unfold zb7;rw[if_pos h7,List.getD_eq_getElem?_getD,hxb];rfl)
  have HO1:=zgn (2 ^ i.site) xb hb48 hxb48
  have HO3:bits BinOp.or IntKind.u64 ((2:Int) ^ i.site) (xb:Int)=((2 ^ i.site|||xb:Nat):Int):=by
   have h:=HO1
   rw[Int.natCast_pow]at h
   exact h
  have HO2:=zgn (s3.1 4 k) (2 ^ i.site|||xb) hh48 (Nat.or_lt_two_pow hb48 hxb48)
  have hr48:s3.1 4 k|||(2 ^ i.site|||xb)<2 ^ 48:=Nat.or_lt_two_pow hh48 (Nat.or_lt_two_pow hb48 hxb48)
  obtain⟨bb,hbb,hbx⟩:=(HSEE.out _ (HON.out _ _ HPc.out.p)).bel i.site xb hxb
  subst hbb
  clear hbx
  have HSS:=zH (show ∀ W',Below wc.heap.size wc W'→(∀ j,W'.cell? ⟨V.xb,j,none⟩=#[.pointer (some ⟨VF.fb,0,none⟩),.pointer (some ⟨sb,0,none⟩),.slice (some ⟨V.g 0,0,none⟩) C.P.code.length C.P.code.length,.slice (some ⟨V.g 1,0,none⟩) C.P.fs.length C.P.fs.length,.slice (some ⟨V.g 2,0,none⟩) C.P.fs.length C.P.fs.length,.slice (some ⟨V.g 3,0,none⟩) C.P.fs.length C.P.fs.length,.slice (some ⟨V.g 4,0,none⟩) C.P.code.length C.P.code.length,.slice (some ⟨V.g 5,0,none⟩) C.P.fs.length C.P.fs.length,.slice (some ⟨V.g 6,0,none⟩) C.P.fs.length C.P.fs.length][j]?)∧(∀ i,W'.cell? ⟨VF.fb,i,none⟩=#[.pointer (some ⟨C.pb,0,none⟩),.map (some VF.onb),.slice sa C.P.gos.length sc,.slice (some ⟨rg,0,none⟩) (C.P.gos.length+1) rc,.slice (some ⟨bb,0,none⟩) C.P.gos.length bc,.map (some VF.lob),.map (some VF.mab)][i]?)∧W'.cell? ⟨bb,i.site,none⟩=some (zaa xb)∧W'.cell? ⟨ib,10,none⟩=some (.int .i64 (i.site:Int))from fun W' hb=>by
   have hq:=HPc.out.below hb
   have hs:=HSEE.out _ (HON.out _ _ hq.p)
   obtain⟨b2,hb2,hc2⟩:=hs.bel i.site xb hxb
   injection hb2 with hb2
   injection hb2 with hb2
   subst hb2
   exact⟨hq.p.k.m.x.cell,hs.f,hc2,hq.i.cell 10⟩)
  clear h7 hxb
  go_wp2_with fail
  have hHeld:=HSS.out _ (Below.refl _ wc).drew
  refine zah 18 (fun(W':World)=>(∀ j,W'.cell? ⟨V.xb,j,none⟩=#[.pointer (some ⟨VF.fb,0,none⟩),.pointer (some ⟨sb,0,none⟩),.slice (some ⟨V.g 0,0,none⟩) C.P.code.length C.P.code.length,.slice (some ⟨V.g 1,0,none⟩) C.P.fs.length C.P.fs.length,.slice (some ⟨V.g 2,0,none⟩) C.P.fs.length C.P.fs.length,.slice (some ⟨V.g 3,0,none⟩) C.P.fs.length C.P.fs.length,.slice (some ⟨V.g 4,0,none⟩) C.P.code.length C.P.code.length,.slice (some ⟨V.g 5,0,none⟩) C.P.fs.length C.P.fs.length,.slice (some ⟨V.g 6,0,none⟩) C.P.fs.length C.P.fs.length][j]?)∧(∀ i,W'.cell? ⟨VF.fb,i,none⟩=#[.pointer (some ⟨C.pb,0,none⟩),.map (some VF.onb),.slice sa C.P.gos.length sc,.slice (some ⟨rg,0,none⟩) (C.P.gos.length+1) rc,.slice (some ⟨bb,0,none⟩) C.P.gos.length bc,.map (some VF.lob),.map (some VF.mab)][i]?)∧W'.cell? ⟨bb,i.site,none⟩=some (zaa xb)∧W'.cell? ⟨ib,10,none⟩=some (.int .i64 (i.site:Int))) (by kernel_rfl) rfl rfl (by kernel_rfl) ?_
  simp only[List.take_succ_cons,List.take_zero]
  iterate 3(refine tk 0 rfl (by kernel_rfl) (fun _ _ _ h=>h) hHeld (fun w hSw=>by go_simp;try with_reducible rfl) (by simp only[pA,pB,pC,pD,pE,pF,pG,pH];exact rfl) ?_)
  iterate 11(refine tk 5 rfl (by kernel_rfl) (fun _ _ _ h=>h) hHeld (fun w hSw=>by go_simp;try with_reducible rfl) (by simp only[pA,pB,pC,pD,pE,pF,pG,pH];exact rfl) ?_)
  refine rdy 3 (by kernel_rfl) rfl fun K hK=>?_
  go_simp
  have hbe:Below wc.heap.size wc (wc.drew.alloc (.cells #[.int .i64 (i.site:Int)] 3)):=(Below.refl _ wc).drew.alloc (by simp) _
  have hsl:Blk (wc.drew.alloc (.cells #[.int .i64 (i.site:Int)] 3)) wc.heap.size 3 #[.int .i64 (i.site:Int)]:=Blk.newAt rfl
  refine hK.out _ _ (HSS.out _ hbe) (fun hHeld=>?_)
  clear hK K
  refine rdy 4 (by kernel_rfl) rfl fun K hK=>?_
  go_simp
  refine(zg0 i.site wc.heap.size 1 _ (by omega) (hsl.cell 0)).mono ?_
  rintro e w4 ⟨rfl,rfl⟩
  refine hK.out _ _ (HSS.out _ hbe) (fun hHeld=>?_)
  clear hK K
  iterate 2(refine tk 16 rfl (by kernel_rfl) (fun _ _ _ h=>h) hHeld (fun w hSw=>by go_simp;try with_reducible rfl) (by simp only[pA,pB,pC,pD,pE,pF,pG,pH];exact rfl) ?_)
  refine lst (by kernel_rfl) rfl fun K hK=>?_
  go_simp
  refine hK _ _ ?_
  have HP4:=zH (HPc.out.p.below (show Below wc.heap.size wc (wc.alloc (.cells #[.int .i64 (i.site:Int)] 3)).drew from((Below.refl _ wc).alloc (Nat.le_refl _) _).drew))
  clear hK K hHeld HSS hsl hbe
  generalize (wc.alloc (.cells #[.int .i64 (i.site:Int)] 3)).drew=w4 at HP4 ⊢
  go_wp2_with fail
  first | exact hK hr48 HP4.out HMID.out | (simp only[HO3,HO2];exact hK hr48 HP4.out HMID.out)
 ·have o7:((i.op:Int)==7)=false:=zai (by omega)
  by_cases h8:i.op=8
  ·have o8:((i.op:Int)==8)=true:=by rw[h8];rfl
   have hht:=zvo
   have ht48:argT st i.fn i.y<2 ^ 48:=by
    obtain⟨_,_,_,_,_,hm⟩:=Y.p
    unfold argT
    split
    ·omega
    ·exact(hm.sm _).2
   have HMID:=zH (show zb7 C.P st Bs s3 k i=(s3,zge (argT st i.fn i.y) (zau C.P) 0 (s3.1 4 k)) by unfold zb7;rw[if_neg h7,if_pos h8])
   clear h8
   go_wp2_with fail
   have hHeld:=And.intro (show ∀ j,wc.drew.cell? ⟨V.xb,j,none⟩=#[.pointer (some ⟨VF.fb,0,none⟩),.pointer (some ⟨sb,0,none⟩),.slice (some ⟨V.g 0,0,none⟩) C.P.code.length C.P.code.length,.slice (some ⟨V.g 1,0,none⟩) C.P.fs.length C.P.fs.length,.slice (some ⟨V.g 2,0,none⟩) C.P.fs.length C.P.fs.length,.slice (some ⟨V.g 3,0,none⟩) C.P.fs.length C.P.fs.length,.slice (some ⟨V.g 4,0,none⟩) C.P.code.length C.P.code.length,.slice (some ⟨V.g 5,0,none⟩) C.P.fs.length C.P.fs.length,.slice (some ⟨V.g 6,0,none⟩) C.P.fs.length C.P.fs.length][j]? from HPc.out.drew.p.k.m.x.cell) HPc.out.drew.i.cell
   refine zah 10 (fun(W':World)=>(∀ j,W'.cell? ⟨V.xb,j,none⟩=#[.pointer (some ⟨VF.fb,0,none⟩),.pointer (some ⟨sb,0,none⟩),.slice (some ⟨V.g 0,0,none⟩) C.P.code.length C.P.code.length,.slice (some ⟨V.g 1,0,none⟩) C.P.fs.length C.P.fs.length,.slice (some ⟨V.g 2,0,none⟩) C.P.fs.length C.P.fs.length,.slice (some ⟨V.g 3,0,none⟩) C.P.fs.length C.P.fs.length,.slice (some ⟨V.g 4,0,none⟩) C.P.code.length C.P.code.length,.slice (some ⟨V.g 5,0,none⟩) C.P.fs.length C.P.fs.length,.slice (some ⟨V.g 6,0,none⟩) C.P.fs.length C.P.fs.length][j]?)∧(∀ j,W'.cell? ⟨ib,j,none⟩=#[.int .i64 (i.op:Int),.int .i64 i.place,.int .i64 (i.fn:Int),.int .i64 i.x,.bool i.y.c,.int .i64 (i.y.n:Int),.bool i.z.c,.int .i64 (i.z.n:Int),.int .i64 (i.bin:Int),.int .i64 (i.var:Int),.int .i64 (i.site:Int),.int .i64 (i.call:Int),.slice aa i.args.length ac,.int .i64 (i.to:Int)][j]?)) (by kernel_rfl) rfl rfl (by kernel_rfl) ?_
   simp only[List.take_succ_cons,List.take_zero]
   iterate 8(refine tk 0 rfl (by kernel_rfl) (fun _ _ _ h=>h) hHeld (fun w hSw=>by go_simp;try with_reducible rfl) (by simp only[pA,pB,pC,pD,pE,pF,pG,pH];exact rfl) ?_)
   refine rdy 8 (by kernel_rfl) rfl fun K hK=>?_
   go_simp
   have hof:=zl0 wp.heap.size VF.fb wp VP st x i.fn i.y wc.drew (HPT.out _ (HON.out _ _ HPc.out.drew.p)) hio.fn hio.y
   rw[← HSB.out]at hof
   refine hof.mono ?_
   clear hof
   rintro e w5 ⟨rfl,hb5⟩
   have HP5:=zH (HPc.out.drew.below hb5)
   refine hK.out _ _ (And.intro HP5.out.p.k.m.x.cell HP5.out.i.cell) (fun hHeld=>?_)
   clear hK K hb5
   refine tk 9 rfl (by kernel_rfl) (fun _ _ _ h=>h) hHeld (fun w hSw=>by go_simp;try with_reducible rfl) (by simp only[pA,pB,pC,pD,pE,pF,pG,pH];exact rfl) ?_
   refine lst (by kernel_rfl) rfl fun K hK=>?_
   go_simp
   refine hK _ _ ?_
   clear hK K hHeld
   have HPp:=zH HP5.out.p
   clear HP5 hht
   generalize argT st i.fn i.y=t at ht48 HMID ⊢
   have HF5:=zH (HSEE.out _ (HON.out _ _ HPp.out))
   have hfc:=HF5.out.f
   have hfl:=HF5.out.fl
   have hxc:=HPp.out.k.m.x.cell
   unfold zcl at hxc
   have hxl:=HPp.out.k.m.x.lt
   obtain⟨MK,hMK⟩:∃ MK,MK=zge t (zau C.P) 0 (s3.1 4 k):=⟨_,rfl⟩
   have hMK48:MK<2 ^ 48:=by rw[hMK];exact znx _ _ _ hh48
   have HMIK:=zH (show zb7 C.P st Bs s3 k i=(s3,MK) by rw[hMK];exact HMID.out)
   have STK:=zH (show AbK C wf VF sb V cb w s3 t MK C.P.gos.length (zaa (s3.1 4 k)) (.int .i64 (0:Int)) w5 from⟨0,s3.1 4 k,rfl,rfl,rfl,Nat.zero_le _,hh48,HPp.out,by rw[List.drop_zero];exact hMK.symm⟩)
   clear hMK HMID HPp HF5
   go_wp2_with fail
   clear hfc hfl hxc hxl
   go_loopg [7,137] C.P.gos.length (fun gk v7 v137 wr=>AbK C wf VF sb V cb w s3 t MK gk v7 v137 wr)
   case atStart=>exact STK.out
   case round =>
    obtain⟨s,l,rfl,rfl,hg5,hs,hl48,hP,hM⟩:=hrel
    have HG5:=zH hg5
    have HP:=zH hP
    have HM:=zH hM
    clear hP hM hg5
    by_cases hlts:s<C.P.gos.length
    ·obtain⟨mx,hmx⟩:∃ mx,(zau C.P)[s]? = some mx:=⟨_,List.getElem?_eq_getElem (by simpa [zau] using hlts)⟩
     obtain⟨gb,hsa,hgm⟩:=(HSEE.out _ (HON.out _ _ HP.out)).many s mx hmx
     have HMs:=zH (show zge t ((zau C.P).drop (s+1)) (s+1) (if t=2 ^ s∧mx=false then dif l t else l)=MK from by rw[← HM.out,zcc hmx,zge])
     subst hsa
     have hsl:Blk (wr.alloc (.cells #[.int .i64 (s:Int)] 3)) wr.heap.size 3 #[.int .i64 (s:Int)]:=Blk.newAt rfl
     have hbe:Below wr.heap.size wr (wr.alloc (.cells #[.int .i64 (s:Int)] 3)):=(Below.refl _ _).alloc (Nat.le_refl _) _
     have HP4:=zH (HP.out.below hbe)
     clear hmx HM hbe
     go_wp2_with fail
     refine(zg0 s wr.heap.size 1 _ (by omega) (hsl.cell 0)).mono ?_
     rintro e w4 ⟨rfl,rfl⟩
     clear hsl
     generalize wr.alloc (.cells #[.int .i64 (s:Int)] 3)=w4 at HP4 ⊢
     have HD:=zno l t hl48 ht48
     by_cases et:t=2 ^ s
     ·have et1:((t:Int)==((2 ^ s:Nat):Int))=true:=by rw[et];simp
      have et2:((t:Int)==(2:Int) ^ s)=true:=by rw[et];simp
      cases hmxb:mx
      ·have hdl:dif l t<2 ^ 48:=ziv hl48
       have REL:=zH (show AbK C wf VF sb V cb w s3 t MK (C.P.gos.length-(s+1)) (zaa (dif l t)) (.int .i64 ((s+1:Nat):Int)) w4 from⟨s+1,dif l t,rfl,rfl,rfl,hlts,hdl,HP4.out,by have:=HMs.out;rw[if_pos ⟨et,hmxb⟩]at this;exact this⟩)
       clear et hgm
       go_wp2_with fail
       go_roundg (C.P.gos.length-(s+1))
       case measure=>have:=HG5.out;omega
       case rel=>rw[show((s:Int)+1)=((s+1:Nat):Int) by omega];exact REL.out
      ·have REL:=zH (show AbK C wf VF sb V cb w s3 t MK (C.P.gos.length-(s+1)) (zaa l) (.int .i64 ((s+1:Nat):Int)) w4 from⟨s+1,l,rfl,rfl,rfl,hlts,hl48,HP4.out,by have:=HMs.out;rw[if_neg (fun h=>by rw[hmxb]at h;exact absurd h.2 (by decide))]at this;exact this⟩)
       clear et hgm
       go_wp2_with fail
       go_roundg (C.P.gos.length-(s+1))
       case measure=>have:=HG5.out;omega
       case rel=>rw[show((s:Int)+1)=((s+1:Nat):Int) by omega];exact REL.out
     ·have et1:((t:Int)==((2 ^ s:Nat):Int))=false:=zai (by omega)
      have et2:((t:Int)==(2:Int) ^ s)=false:=by rw[Int.natCast_pow]at et1;exact et1
      have REL:=zH (show AbK C wf VF sb V cb w s3 t MK (C.P.gos.length-(s+1)) (zaa l) (.int .i64 ((s+1:Nat):Int)) w4 from⟨s+1,l,rfl,rfl,rfl,hlts,hl48,HP4.out,by have:=HMs.out;rw[if_neg (fun h=>et h.1)]at this;exact this⟩)
      clear et hgm
      go_wp2_with fail
      go_roundg (C.P.gos.length-(s+1))
      case measure=>have:=HG5.out;omega
      case rel=>rw[show((s:Int)+1)=((s+1:Nat):Int) by omega];exact REL.out
    ·obtain rfl:s=C.P.gos.length:=by omega
     have hs:l=MK:=by rw[← HM.out,List.drop_of_length_le (by simp[zau]),zge]
     subst hs
     go_wp2_with fail
     exact hK hMK48 HP.out HMIK.out
  ·have o8:((i.op:Int)==8)=false:=zai (by omega)
   by_cases h11:i.op=11
   ·have o11:((i.op:Int)==11)=true:=by rw[h11];rfl
    obtain⟨fu2,hfu2,_⟩:=HC.wf.call k i HI.out (.inl h11)
    have hca:i.call<C.P.fs.length:=(List.getElem?_eq_some_iff.1 hfu2).1
    have HMID:=zH (show zb7 C.P st Bs s3 k i=(za7 s3 5 i.call (s3.1 4 k),(za7 s3 5 i.call (s3.1 4 k)).1 6 i.call) by unfold zb7;rw[if_neg h7,if_neg h8,if_pos h11])
    clear hfu2 h11
    go_wp2_with fail
    have hHeld:=And.intro (show ∀ j,wc.drew.cell? ⟨V.xb,j,none⟩=#[.pointer (some ⟨VF.fb,0,none⟩),.pointer (some ⟨sb,0,none⟩),.slice (some ⟨V.g 0,0,none⟩) C.P.code.length C.P.code.length,.slice (some ⟨V.g 1,0,none⟩) C.P.fs.length C.P.fs.length,.slice (some ⟨V.g 2,0,none⟩) C.P.fs.length C.P.fs.length,.slice (some ⟨V.g 3,0,none⟩) C.P.fs.length C.P.fs.length,.slice (some ⟨V.g 4,0,none⟩) C.P.code.length C.P.code.length,.slice (some ⟨V.g 5,0,none⟩) C.P.fs.length C.P.fs.length,.slice (some ⟨V.g 6,0,none⟩) C.P.fs.length C.P.fs.length][j]? from HPc.out.drew.p.k.m.x.cell) (HPc.out.drew.i.cell 11)
    refine zah 9 (fun(W':World)=>(∀ j,W'.cell? ⟨V.xb,j,none⟩=#[.pointer (some ⟨VF.fb,0,none⟩),.pointer (some ⟨sb,0,none⟩),.slice (some ⟨V.g 0,0,none⟩) C.P.code.length C.P.code.length,.slice (some ⟨V.g 1,0,none⟩) C.P.fs.length C.P.fs.length,.slice (some ⟨V.g 2,0,none⟩) C.P.fs.length C.P.fs.length,.slice (some ⟨V.g 3,0,none⟩) C.P.fs.length C.P.fs.length,.slice (some ⟨V.g 4,0,none⟩) C.P.code.length C.P.code.length,.slice (some ⟨V.g 5,0,none⟩) C.P.fs.length C.P.fs.length,.slice (some ⟨V.g 6,0,none⟩) C.P.fs.length C.P.fs.length][j]?)∧W'.cell? ⟨ib,11,none⟩=some (.int .i64 (i.call:Int))) (by kernel_rfl) rfl rfl (by kernel_rfl) ?_
    simp only[List.take_succ_cons,List.take_zero]
    iterate 9(refine tk 0 rfl (by kernel_rfl) (fun _ _ _ h=>h) hHeld (fun w hSw=>by go_simp;try with_reducible rfl) (by simp only[pA,pB,pC,pD,pE,pF,pG,pH];exact rfl) ?_)
    refine lst (by kernel_rfl) rfl fun K hK=>?_
    go_simp
    have HPd:=HPc.out.drew
    refine(zlx _ _ _ _ _ cb s3 wc.drew 5 i.call (s3.1 4 k) HPd.p.k (by omega) (by unfold za8;simpa using hca) hh48).mono ?_
    intro e w5 hst
    obtain⟨rfl,hP5⟩:=HPd.step hst
    refine hK _ _ ?_
    clear hK K hHeld hst HPd
    have HP5:=zH hP5
    clear hP5
    generalize za7 s3 5 i.call (s3.1 4 k)=s4 at HP5 HMID
    have hr48:s4.1 6 i.call<2 ^ 48:=HP5.out.p.k.m.sm 6 i.call
    go_wp2_with fail
    have hHeld:=And.intro (show ∀ j,w5.drew.cell? ⟨V.xb,j,none⟩=#[.pointer (some ⟨VF.fb,0,none⟩),.pointer (some ⟨sb,0,none⟩),.slice (some ⟨V.g 0,0,none⟩) C.P.code.length C.P.code.length,.slice (some ⟨V.g 1,0,none⟩) C.P.fs.length C.P.fs.length,.slice (some ⟨V.g 2,0,none⟩) C.P.fs.length C.P.fs.length,.slice (some ⟨V.g 3,0,none⟩) C.P.fs.length C.P.fs.length,.slice (some ⟨V.g 4,0,none⟩) C.P.code.length C.P.code.length,.slice (some ⟨V.g 5,0,none⟩) C.P.fs.length C.P.fs.length,.slice (some ⟨V.g 6,0,none⟩) C.P.fs.length C.P.fs.length][j]? from HP5.out.drew.p.k.m.x.cell) (And.intro (HP5.out.drew.i.cell 11) (HP5.out.drew.p.k.m.cell (r:=6) (i:=i.call) (by omega) (by unfold za8;simpa using hca)))
    refine zah 8 (fun(W':World)=>(∀ j,W'.cell? ⟨V.xb,j,none⟩=#[.pointer (some ⟨VF.fb,0,none⟩),.pointer (some ⟨sb,0,none⟩),.slice (some ⟨V.g 0,0,none⟩) C.P.code.length C.P.code.length,.slice (some ⟨V.g 1,0,none⟩) C.P.fs.length C.P.fs.length,.slice (some ⟨V.g 2,0,none⟩) C.P.fs.length C.P.fs.length,.slice (some ⟨V.g 3,0,none⟩) C.P.fs.length C.P.fs.length,.slice (some ⟨V.g 4,0,none⟩) C.P.code.length C.P.code.length,.slice (some ⟨V.g 5,0,none⟩) C.P.fs.length C.P.fs.length,.slice (some ⟨V.g 6,0,none⟩) C.P.fs.length C.P.fs.length][j]?)∧W'.cell? ⟨ib,11,none⟩=some (.int .i64 (i.call:Int))∧W'.cell? ⟨V.g 6,i.call,none⟩=some (zaa (s4.1 6 i.call))) (by kernel_rfl) rfl rfl (by kernel_rfl) ?_
    simp only[List.take_succ_cons,List.take_zero]
    iterate 8(refine tk 0 rfl (by kernel_rfl) (fun _ _ _ h=>h) hHeld (fun w hSw=>by go_simp;try with_reducible rfl) (by simp only[pA,pB,pC,pD,pE,pF,pG,pH];exact rfl) ?_)
    refine lst (by kernel_rfl) rfl fun K hK=>?_
    go_simp
    refine hK _ _ ?_
    clear hK K hHeld
    have HP6:=zH HP5.out.drew.p
    clear HP5
    generalize w5.drew=w6 at HP6 ⊢
    go_wp2_with fail
    exact hK hr48 HP6.out HMID.out
   ·have o11:((i.op:Int)==11)=false:=zai (by omega)
    by_cases h12:i.op=12
    ·have o12:((i.op:Int)==12)=true:=by rw[h12];rfl
     have HMID:=zH (show zb7 C.P st Bs s3 k i=(za7 s3 6 i.fn (s3.1 4 k),s3.1 4 k) by unfold zb7;rw[if_neg h7,if_neg h8,if_neg h11,if_pos h12])
     clear h12
     go_wp2_with fail
     have hHeld:=And.intro (show ∀ j,wc.drew.cell? ⟨V.xb,j,none⟩=#[.pointer (some ⟨VF.fb,0,none⟩),.pointer (some ⟨sb,0,none⟩),.slice (some ⟨V.g 0,0,none⟩) C.P.code.length C.P.code.length,.slice (some ⟨V.g 1,0,none⟩) C.P.fs.length C.P.fs.length,.slice (some ⟨V.g 2,0,none⟩) C.P.fs.length C.P.fs.length,.slice (some ⟨V.g 3,0,none⟩) C.P.fs.length C.P.fs.length,.slice (some ⟨V.g 4,0,none⟩) C.P.code.length C.P.code.length,.slice (some ⟨V.g 5,0,none⟩) C.P.fs.length C.P.fs.length,.slice (some ⟨V.g 6,0,none⟩) C.P.fs.length C.P.fs.length][j]? from HPc.out.drew.p.k.m.x.cell) (HPc.out.drew.i.cell 2)
     refine zah 9 (fun(W':World)=>(∀ j,W'.cell? ⟨V.xb,j,none⟩=#[.pointer (some ⟨VF.fb,0,none⟩),.pointer (some ⟨sb,0,none⟩),.slice (some ⟨V.g 0,0,none⟩) C.P.code.length C.P.code.length,.slice (some ⟨V.g 1,0,none⟩) C.P.fs.length C.P.fs.length,.slice (some ⟨V.g 2,0,none⟩) C.P.fs.length C.P.fs.length,.slice (some ⟨V.g 3,0,none⟩) C.P.fs.length C.P.fs.length,.slice (some ⟨V.g 4,0,none⟩) C.P.code.length C.P.code.length,.slice (some ⟨V.g 5,0,none⟩) C.P.fs.length C.P.fs.length,.slice (some ⟨V.g 6,0,none⟩) C.P.fs.length C.P.fs.length][j]?)∧W'.cell? ⟨ib,2,none⟩=some (.int .i64 (i.fn:Int))) (by kernel_rfl) rfl rfl (by kernel_rfl) ?_
     simp only[List.take_succ_cons,List.take_zero]
     iterate 9(refine tk 0 rfl (by kernel_rfl) (fun _ _ _ h=>h) hHeld (fun w hSw=>by go_simp;try with_reducible rfl) (by simp only[pA,pB,pC,pD,pE,pF,pG,pH];exact rfl) ?_)
     refine lst (by kernel_rfl) rfl fun K hK=>?_
     go_simp
     have HPd:=HPc.out.drew
     refine(zlx _ _ _ _ _ cb s3 wc.drew 6 i.fn (s3.1 4 k) HPd.p.k (by omega) (by unfold za8;simpa using hfn) hh48).mono ?_
     intro e w5 hst
     obtain⟨rfl,hP5⟩:=HPd.step hst
     refine hK _ _ ?_
     clear hK K hHeld hst HPd
     have HP5:=zH hP5.p
     clear hP5
     go_wp2_with fail
     exact hK hh48 HP5.out HMID.out
    ·have o12:((i.op:Int)==12)=false:=zai (by omega)
     have HMID:=zH (show zb7 C.P st Bs s3 k i=(s3,s3.1 4 k) by unfold zb7;rw[if_neg h7,if_neg h8,if_neg h11,if_neg h12])
     go_wp2_with fail
     exact hK hh48 HPc.out.p HMID.out
end
end Go.Proofs.YtkmcihhndgdhpaaGreat
