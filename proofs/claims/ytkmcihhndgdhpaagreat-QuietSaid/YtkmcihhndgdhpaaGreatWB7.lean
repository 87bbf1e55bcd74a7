/- Parts of the walk. -/
import Derived.Test.YtkmcihhndgdhpaaGreatWB4
set_option maxRecDepth 100000
set_option maxHeartbeats 4000000
set_option linter.unusedSimpArgs false
set_option linter.unusedVariables false
open Go.ChangeMaps Go.Maps Go.RowKit Go.Shelf Go.Proofs.Tryz
namespace Go.Proofs.YtkmcihhndgdhpaaGreat
theorem mLb {p:Prop}(h:p:=by
  clear et hgm;go_wp2;go_roundg (C.P.qg.length-(s+1))
  case measure=>have:=HG5.o;omega
  case rel=>rw[show((s:Int)+1)=((s+1:Nat):Int) by omega];exact REL.o):p:=h
def sL:Code->Code
 | .seq a _=>a
 | c=>c
def sR:Code->Code
 | .seq _ b=>b
 | c=>c
def inB:Code->Code
 | .block _ c=>c
 | .loop c=>c
 | c=>c
noncomputable def abSw:Code:=match Tryz.f232.body with
 | some c=>sR (sL (sR (sR (sR (sR (inB (sL (sR (sR (inB (inB (sR (sL (sR (sR (sR c))))))))))))))))
 | none=>.skip
theorem zux {C:AX}{wf:World}{VF:FV}{Rs Bs:List Nat}{wp:World}{VP:PtV}{st:PS}{x:Nat}(Y:LkY C wf VF Rs Bs wp VP st x){V:LkV}{w:World}{sa:Option Addr}{sc rg rc:Nat}{ba:Option Addr}{bc r0 sb cb k ib:Nat}{i:In}{aa:Option Addr}{ac:Nat}{s3:LS}{wc:World}
  (HSEE:Hid (∀ W,Below wf.heap.size wf W->LkSee C VF sa sc rg rc ba bc r0 Bs W)) (HSB:Hid (sb=VP.sb)) (HON:Hid (∀ s E,PsW C wf VF sb V cb w s E->Below wf.heap.size wf E))
  (HPT:Hid (∀ E,Below wf.heap.size wf E->PtAt wp.heap.size VF.fb wp VP st x E)) (HI:Hid (C.P.code[k]?=some i)) (hlt:k<C.P.code.length) (HPc:Hid (AbI ib (.j i (.slice aa i.args.length ac)) C wf VF sb V cb w s3 wc))
  {u1 u2 u8 u9 u10 u11 u12 u13 u14 u15 u16 u17 u18 u19 u20 u21 u22 u23 u24 u25 u26 u27 u28 u29 u30 u31 u32 u33 u34 u35 u36 u37 u38 u39 u40 u41 u42 u43 u44 u45 u46 u47 u48 u49 u50 u51 u52 u53 u54 u55 u56 u57 u58 u59 u60 u61 u62 u63 u64 u65 u66 u67 u68 u69 u70 u71 u72 u73 u74 u75 u76 u77 u78 u79 u80 u81 u82 u83 u84 u85 u86 u87 u88 u89 u90 u91 u92 u93 u94 u95 u97 u98 u99 u100 u101 u102 u103 u104 u105 u106 u107 u108 u109 u110 u111 u112 u113 u114 u115 u116 u117 u118 u119 u120 u121 u122 u123 u124 u125 u126 u127 u128 u129 u130 u131 u132 u133 u134 u135 u136 u137 u138 u139 u140 u141 u142 u143 u144 u145 u146 u147 u148 u149 u150 u151 u152 u153 u154 u155 u156 u157 u158 u159 u160 u161 u162 u163 u164 u165 u166 u167 u168 u169 u170 u171 u172 u173 u174 u175 u176 u177 u178 u179 u180 u181 u182 u183 u184 u185 u186 u187 u188 u189 u190 u191 u192 u193 u194 u195 u196 u197 u198 u199 u200 u201 u202 u203 u204 u205 u206 u207 u208 u209:Value} {K K1 K2 K3:Act->World->Prop} {M:LS}
  (G:∀ {v8 v9 v10 v97 v98 v99 v100 v101 v102 v103 v104 v105 v106 v107 v108 v109 v110 v111 v112 v113 v114 v115 v116 v117 v118 v119 v120 v121 v122 v123 v124 v125 v126 v127 v128 v129 v130 v131 v132 v133 v134 v135 v136 v137 v138 v139 v140 v141 v142 v143 v144 v145 v146 v147 v148 v149 v150 v151 v152 v153 v154 v155 v156 v157 v158 v159 v160 v161 v162 v163 v164 v165 v166 v167 v168 v169 v170 v171 v172 v173 v174 v175 v176 v177 v178 v179 v180 v181 v182 v183 v184 v185 v186:Value} {W:World} {s4:LS} {h:Nat},h<2 ^ 48->PsW C wf VF sb V cb w s4 W->zai C.P st Bs s3 k i=(s4,h)->K { tmps:=#[.p V.xb,u1,u2,.p cb,.func (.func 285) #[] #[.p cb],.i k,.p ib,zA h,v8,v9,v10,u11,u12,u13,u14,u15,u16,u17,u18,u19,u20,u21,u22,u23,u24,u25,u26,u27,u28,u29,u30,u31,u32,u33,u34,u35,u36,u37,u38,u39,u40,u41,u42,u43,u44,u45,u46,u47,u48,u49,u50,u51,u52,u53,u54,u55,u56,u57,u58,u59,u60,u61,u62,u63,u64,u65,u66,u67,u68,u69,u70,u71,u72,u73,u74,u75,u76,u77,u78,u79,u80,u81,u82,u83,u84,u85,u86,u87,u88,u89,u90,u91,u92,u93,u94,u95,.i i.op,v97,v98,v99,v100,v101,v102,v103,v104,v105,v106,v107,v108,v109,v110,v111,v112,v113,v114,v115,v116,v117,v118,v119,v120,v121,v122,v123,v124,v125,v126,v127,v128,v129,v130,v131,v132,v133,v134,v135,v136,v137,v138,v139,v140,v141,v142,v143,v144,v145,v146,v147,v148,v149,v150,v151,v152,v153,v154,v155,v156,v157,v158,v159,v160,v161,v162,v163,v164,v165,v166,v167,v168,v169,v170,v171,v172,v173,v174,v175,v176,v177,v178,v179,v180,v181,v182,v183,v184,v185,v186,u187,u188,u189,u190,u191,u192,u193,u194,u195,u196,u197,u198,u199,u200,u201,u202,u203,u204,u205,u206,u207,u208,u209],defers:=[] } W) :
  abSw.wp prog (Exit.then K (Exit.inBlock 1 (Exit.then K1 (Exit.then K2 (Exit.inBlock 0 (Exit.then K3 (bodyPost prog Tryz.f232 (zh7 C wf VF sb V M w)))))))) { tmps:=#[.p V.xb,u1,u2,.p cb,.func (.func 285) #[] #[.p cb],.i k,.p ib,zA (s3.1 4 k),u8,u9,u10,u11,u12,u13,u14,u15,u16,u17,u18,u19,u20,u21,u22,u23,u24,u25,u26,u27,u28,u29,u30,u31,u32,u33,u34,u35,u36,u37,u38,u39,u40,u41,u42,u43,u44,u45,u46,u47,u48,u49,u50,u51,u52,u53,u54,u55,u56,u57,u58,u59,u60,u61,u62,u63,u64,u65,u66,u67,u68,u69,u70,u71,u72,u73,u74,u75,u76,u77,u78,u79,u80,u81,u82,u83,u84,u85,u86,u87,u88,u89,u90,u91,u92,u93,u94,u95,.i i.op,u97,u98,u99,u100,u101,u102,u103,u104,u105,u106,u107,u108,u109,u110,u111,u112,u113,u114,u115,u116,u117,u118,u119,u120,u121,u122,u123,u124,u125,u126,u127,u128,u129,u130,u131,u132,u133,u134,u135,u136,u137,u138,u139,u140,u141,u142,u143,u144,u145,u146,u147,u148,u149,u150,u151,u152,u153,u154,u155,u156,u157,u158,u159,u160,u161,u162,u163,u164,u165,u166,u167,u168,u169,u170,u171,u172,u173,u174,u175,u176,u177,u178,u179,u180,u181,u182,u183,u184,u185,u186,u187,u188,u189,u190,u191,u192,u193,u194,u195,u196,u197,u198,u199,u200,u201,u202,u203,u204,u205,u206,u207,u208,u209],defers:=[] } wc:=by
 have HC:=Y.l.f.f.h.c;have bo:=HC.wf.cl;have bi:=HC.wf.fl;have bj:=HC.wf.gl;have aq:=Y.l.w.io k i HI.o;have b9:=HC.wf.fn k i HI.o;have bk:=HPc.o.i.cell;have bm:=HPc.o.i.lt;have a9:=HPc.o.p.k.m.x.cell;unfold za2 at a9;have au:=HPc.o.p.k.m.x.lt;have bp:wc.cell? (.a (V.g 4) k)=some (zA (s3.1 4 k)):=HPc.o.p.k.m.cell (r:=4) (i:=k) yo (by unfold zq;simpa using hlt);have I:s3.1 4 k<2 ^ 48:=HPc.o.p.k.m.sm 4 k;simp only[abSw,Tryz.f232,sL,sR,inB];by_cases h7:i.op=7
 ·have o7:((i.op:Int)==7)=true:=by rw[h7];rfl
  have bd:=(yh.1 (Y.l.w.gs k i HI.o h7)).1;obtain⟨xb,a5⟩:∃ xb,Bs[i.site]?=some xb:=⟨_,yc (by rw[Y.l.f.bl];exact bd)⟩;have N:xb<2 ^ 48:=yi (Y.l.f.small _ _ a5) (yO yo yo);have a2:2 ^ i.site<2 ^ 48:=yap yo yo;have D:=zH (show zai C.P st Bs s3 k i=(s3,s3.1 4 k|||(2 ^ i.site|||xb)) by unfold zai;rw[yj h7,yab,a5];rfl);have aw:=zfj (2 ^ i.site) xb a2 N;have ay:bits BinOp.or IntKind.u64 ((2:Int) ^ i.site) (xb:Int)=((2 ^ i.site|||xb:Nat):Int):=by
   have h:=aw;rw[Int.natCast_pow]at h;exact h
  have ax:=zfj (s3.1 4 k) (2 ^ i.site|||xb) I (yJ a2 N);have R:s3.1 4 k|||(2 ^ i.site|||xb)<2 ^ 48:=yJ I (yJ a2 N);obtain⟨bb,b3,b4⟩:=(HSEE.o _ (HON.o _ _ HPc.o.p)).qk i.site xb a5;subst b3;clear b4;have a6:=zH (show ∀ E,Below wc.heap.size wc E->(∀ j,E.cell? (.a V.xb j)=(.k VF.fb sb V.g C.P:Array Value)[j]?)/\(∀ i,E.cell? (.a VF.fb i)=#[.p C.pb,.m VF.jf,.slice sa C.P.qg.length sc,.s rg (C.P.qg.length+1) rc,.s bb C.P.qg.length bc,.m VF.vz,.m VF.vu][i]?)/\E.cell? (.a bb i.site)=some (zA xb)/\E.cell? (.a ib 10)=some (.i i.site)from fun E hb=>by
   have hq:=HPc.o.below hb;have hs:=HSEE.o _ (HON.o _ _ hq.p);obtain⟨b2,a1,b5⟩:=hs.qk i.site xb a5;injection a1 with a1;injection a1 with a1;subst a1;exact⟨hq.p.k.m.x.cell,hs.f,b5,hq.i.cell 10⟩)
  clear h7 a5;go_wp2_with fail;have A:=a6.o _ (yn _ wc).drew;refine rgl 18 (fun(E:World)=>(∀ j,E.cell? (.a V.xb j)=(.k VF.fb sb V.g C.P:Array Value)[j]?)/\(∀ i,E.cell? (.a VF.fb i)=#[.p C.pb,.m VF.jf,.slice sa C.P.qg.length sc,.s rg (C.P.qg.length+1) rc,.s bb C.P.qg.length bc,.m VF.vz,.m VF.vu][i]?)/\E.cell? (.a bb i.site)=some (zA xb)/\E.cell? (.a ib 10)=some (.i i.site)) ?_
  iterate 3(refine tK 0 rfl A ?_)
  iterate 11(refine tK 5 rfl A ?_)
  refine rdy 3 rfl fun K G=>?_;go_simp;have U:Below wc.heap.size wc (wc.drew.alloc (.k #[.i i.site] 3)):=(yn _ wc).drew.alloc yy _;have a3:Blk (wc.drew.alloc (.k #[.i i.site] 3)) wc.heap.size 3 #[.i i.site]:=Blk.newAt rfl;refine G.o _ _ (a6.o _ U) (fun A=>?_);clear G K;refine rdy 4 rfl fun K G=>?_;go_simp;refine(zf9 i.site wc.heap.size 1 _ yo (a3.cell 0)).mono ?_;rintro e w4 ⟨rfl,rfl⟩;refine G.o _ _ (a6.o _ U) (fun A=>?_);clear G K
  iterate 2(refine tK 16 rfl A ?_)
  refine lst rfl fun K G=>?_;go_simp;refine G _ _ ?_;have J:=zH (HPc.o.p.below (show Below wc.heap.size wc (wc.alloc (.k #[.i i.site] 3)).drew from((yn _ wc).alloc yL _).drew));clear G K A a6 a3 U;generalize (wc.alloc (.k #[.i i.site] 3)).drew=w4 at J |-;go_wp2_with fail
  first | exact G R J.o D.o | (simp only[ay,ax];exact G R J.o D.o)
 ·have o7:((i.op:Int)==7)=false:=zI yo;by_cases h8:i.op=8
  ·have o8:((i.op:Int)==8)=true:=by rw[h8];rfl
   have be:=z0c;have ad:argT st i.fn i.y<2 ^ 48:=by
    obtain⟨_,_,_,_,_,hm⟩:=Y.p;unfold argT;split
    ·omega
    ·exact(hm.sm _).2
   have D:=zH (show zai C.P st Bs s3 k i=(s3,ze9 (argT st i.fn i.y) (zW C.P) 0 (s3.1 4 k)) by unfold zai;rw[yg h7,yj h8]);clear h8;go_wp2_with fail;have A:=And.intro (show ∀ j,wc.drew.cell? (.a V.xb j)=(.k VF.fb sb V.g C.P:Array Value)[j]? from HPc.o.drew.p.k.m.x.cell) HPc.o.drew.i.cell;refine rgl 10 (fun(E:World)=>(∀ j,E.cell? (.a V.xb j)=(.k VF.fb sb V.g C.P:Array Value)[j]?)/\(∀ j,E.cell? (.a ib j)=(.j i (.slice aa i.args.length ac):Array Value)[j]?)) ?_
   iterate 8(refine tK 0 rfl A ?_)
   refine rdy 8 rfl fun K G=>?_;go_simp;have aj:=zlt wp.heap.size VF.fb wp VP st x i.fn i.y wc.drew (HPT.o _ (HON.o _ _ HPc.o.drew.p)) aq.fn aq.y;rw[<- HSB.o]at aj;refine aj.mono ?_;clear aj;rintro e w5 ⟨rfl,an⟩;have H:=zH (HPc.o.drew.below an);refine G.o _ _ (And.intro H.o.p.k.m.x.cell H.o.i.cell) (fun A=>?_);clear G K an;refine tK 9 rfl A ?_;refine lst rfl fun K G=>?_;go_simp;refine G _ _ ?_;clear G K A;have Z:=zH H.o.p;clear H be;generalize argT st i.fn i.y=t at ad D |-;have ae:=zH (HSEE.o _ (HON.o _ _ Z.o));have b7:=ae.o.f;have b8:=ae.o.fl;have a9:=Z.o.k.m.x.cell;unfold za2 at a9;have au:=Z.o.k.m.x.lt;obtain⟨MK,a8⟩:∃ MK,MK=ze9 t (zW C.P) 0 (s3.1 4 k):=⟨_,rfl⟩;have ah:MK<2 ^ 48:=by rw[a8];exact znr _ _ _ I
   have ak:=zH (show zai C.P st Bs s3 k i=(s3,MK) by rw[a8];exact D.o);have az:=zH (show AbK C wf VF sb V cb w s3 t MK C.P.qg.length (zA (s3.1 4 k)) (.i 0) w5 from⟨0,s3.1 4 k,rfl,rfl,rfl,yD _,I,Z.o,by rw[yal];exact a8.symm⟩);clear a8 D Z ae;go_wp2_with fail;clear b7 b8 a9 au;go_loopg [7,137] C.P.qg.length (fun gk v7 v137 wr=>AbK C wf VF sb V cb w s3 t MK gk v7 v137 wr)
   case atStart=>exact az.o
   case round =>
    obtain⟨s,l,rfl,rfl,ap,hs,O,hP,hM⟩:=hrel;have HG5:=zH ap;have HP:=zH hP;have HM:=zH hM;clear hP hM ap;by_cases Q:s<C.P.qg.length
    ·obtain⟨mx,ai⟩:∃ mx,(zW C.P)[s]?=some mx:=⟨_,yc (by simpa [zW] using Q)⟩;obtain⟨gb,bf,hgm⟩:=(HSEE.o _ (HON.o _ _ HP.o)).many s mx ai;have af:=zH (show ze9 t ((zW C.P).drop (s+1)) (s+1) (if t=2 ^ s/\mx=false then dif l t else l)=MK from by rw[<- HM.o,zae ai,ze9]);subst bf;have a3:Blk (wr.alloc (.k #[.i s] 3)) wr.heap.size 3 #[.i s]:=Blk.newAt rfl;have U:Below wr.heap.size wr (wr.alloc (.k #[.i s] 3)):=yB.alloc yL _;have J:=zH (HP.o.below U);clear ai HM U;go_wp2_with fail;refine(zf9 s wr.heap.size 1 _ yo (a3.cell 0)).mono ?_;rintro e w4 ⟨rfl,rfl⟩;clear a3;generalize wr.alloc (.k #[.i s] 3)=w4 at J |-;have HD:=zos l t O ad;by_cases et:t=2 ^ s
     ·have ag:((t:Int)==((2 ^ s:Nat):Int))=true:=by rw[et];simp
      have b1:((t:Int)==(2:Int) ^ s)=true:=by rw[et];simp
      cases hmxb:mx
      ·have b6:dif l t<2 ^ 48:=zih O;have REL:=zH (show AbK C wf VF sb V cb w s3 t MK (C.P.qg.length-(s+1)) (zA (dif l t)) (.i ((s+1:Nat):Int)) w4 from⟨s+1,dif l t,rfl,rfl,rfl,Q,b6,J.o,by have:=af.o;rw[yj ⟨et,hmxb⟩]at this;exact this⟩);exact mLb
      ·have REL:=zH (show AbK C wf VF sb V cb w s3 t MK (C.P.qg.length-(s+1)) (zA l) (.i ((s+1:Nat):Int)) w4 from⟨s+1,l,rfl,rfl,rfl,Q,O,J.o,by have:=af.o;rw[yg (fun h=>by rw[hmxb]at h;exact absurd h.2 yd)]at this;exact this⟩);exact mLb
     ·have ag:((t:Int)==((2 ^ s:Nat):Int))=false:=zI yo;have b1:((t:Int)==(2:Int) ^ s)=false:=by rw[Int.natCast_pow]at ag;exact ag
      have REL:=zH (show AbK C wf VF sb V cb w s3 t MK (C.P.qg.length-(s+1)) (zA l) (.i ((s+1:Nat):Int)) w4 from⟨s+1,l,rfl,rfl,rfl,Q,O,J.o,by have:=af.o;rw[yg (fun h=>et h.1)]at this;exact this⟩);exact mLb
    ·obtain rfl:s=C.P.qg.length:=yo;have hs:l=MK:=by rw[<- HM.o,List.drop_of_length_le (by simp[zW]),ze9]
     subst hs;go_wp2;exact G ah HP.o ak.o
  ·have o8:((i.op:Int)==8)=false:=zI yo;by_cases S:i.op=11
   ·have bg:((i.op:Int)==11)=true:=by rw[S];rfl
    obtain⟨bn,ab,_⟩:=HC.wf.call k i HI.o (.inl S);have ao:i.call<C.P.fs.length:=(yh.1 ab).1;have D:=zH (show zai C.P st Bs s3 k i=(zo s3 5 i.call (s3.1 4 k),(zo s3 5 i.call (s3.1 4 k)).1 6 i.call) by unfold zai;rw[yg h7,yg h8,yj S]);clear ab S;go_wp2_with fail;have A:=And.intro (show ∀ j,wc.drew.cell? (.a V.xb j)=(.k VF.fb sb V.g C.P:Array Value)[j]? from HPc.o.drew.p.k.m.x.cell) (HPc.o.drew.i.cell 11);refine rgl 9 (fun(E:World)=>(∀ j,E.cell? (.a V.xb j)=(.k VF.fb sb V.g C.P:Array Value)[j]?)/\E.cell? (.a ib 11)=some (.i i.call)) ?_
    iterate 9(refine tK 0 rfl A ?_)
    refine lst rfl fun K G=>?_;go_simp;have L:=HPc.o.drew;refine(zlp _ _ _ _ _ cb s3 wc.drew 5 i.call (s3.1 4 k) L.p.k yo (by unfold zq;simpa using ao) I).mono ?_;intro e w5 a4;obtain⟨rfl,a0⟩:=L.step a4;refine G _ _ ?_;clear G K A a4 L;have H:=zH a0;clear a0;generalize zo s3 5 i.call (s3.1 4 k)=s4 at H D;have R:s4.1 6 i.call<2 ^ 48:=H.o.p.k.m.sm 6 i.call;go_wp2_with fail;have A:=And.intro (show ∀ j,w5.drew.cell? (.a V.xb j)=(.k VF.fb sb V.g C.P:Array Value)[j]? from H.o.drew.p.k.m.x.cell) (And.intro (H.o.drew.i.cell 11) (H.o.drew.p.k.m.cell (r:=6) (i:=i.call) yo (by unfold zq;simpa using ao)));refine rgl 8 (fun(E:World)=>(∀ j,E.cell? (.a V.xb j)=(.k VF.fb sb V.g C.P:Array Value)[j]?)/\E.cell? (.a ib 11)=some (.i i.call)/\E.cell? (.a (V.g 6) i.call)=some (zA (s4.1 6 i.call))) ?_
    iterate 8(refine tK 0 rfl A ?_)
    refine lst rfl fun K G=>?_;go_simp;refine G _ _ ?_;clear G K A;have am:=zH H.o.drew.p;clear H;generalize w5.drew=w6 at am |-;go_wp2;exact G R am.o D.o
   ·have bg:((i.op:Int)==11)=false:=zI yo;by_cases a7:i.op=12
    ·have bh:((i.op:Int)==12)=true:=by rw[a7];rfl
     have D:=zH (show zai C.P st Bs s3 k i=(zo s3 6 i.fn (s3.1 4 k),s3.1 4 k) by unfold zai;rw[yg h7,yg h8,yg S,yj a7]);clear a7;go_wp2_with fail;have A:=And.intro (show ∀ j,wc.drew.cell? (.a V.xb j)=(.k VF.fb sb V.g C.P:Array Value)[j]? from HPc.o.drew.p.k.m.x.cell) (HPc.o.drew.i.cell 2);refine rgl 9 (fun(E:World)=>(∀ j,E.cell? (.a V.xb j)=(.k VF.fb sb V.g C.P:Array Value)[j]?)/\E.cell? (.a ib 2)=some (.i i.fn)) ?_
     iterate 9(refine tK 0 rfl A ?_)
     refine lst rfl fun K G=>?_;go_simp;have L:=HPc.o.drew;refine(zlp _ _ _ _ _ cb s3 wc.drew 6 i.fn (s3.1 4 k) L.p.k yo (by unfold zq;simpa using b9) I).mono ?_;intro e w5 a4;obtain⟨rfl,a0⟩:=L.step a4;refine G _ _ ?_;clear G K A a4 L;have H:=zH a0.p;clear a0;go_wp2;exact G I H.o D.o
    ·have bh:((i.op:Int)==12)=false:=zI yo;have D:=zH (show zai C.P st Bs s3 k i=(s3,s3.1 4 k) by unfold zai;rw[yg h7,yg h8,yg S,yg a7]);go_wp2;exact G I HPc.o.p D.o
end Go.Proofs.YtkmcihhndgdhpaaGreat
