/- LkF RpF: parts of the walk. -/
import Derived.Test.YtkmcihhndgdhpaaGreatWB5
import Derived.Test.YtkmcihhndgdhpaaGreatWB8
set_option maxRecDepth 100000
set_option maxHeartbeats 4000000
set_option linter.unusedSimpArgs false
set_option linter.unusedVariables false
namespace Go.Proofs.YtkmcihhndgdhpaaGreat
section
open Go.RowKit Go.Maps Go.ChangeMaps Go.Shelf
set_option linter.unusedSimpArgs false
def lk0 (P:Pr):LF:=upd2 (fun r _=>if r<3 then 2 ^ P.nm-1 else 0) 1 P.main 0
def LkIs (P:Pr)(st:PS)(Bs:List Nat)(f:LF):Prop:=∃ f1 f2,zjg (dropsS P) (lk0 P) f1∧zjg (passS P) f1 f2∧zjg (zlw P st Bs) f2 f
def zr3 (C:AX)(VF:FV)(VP:PtV)(st:PS)(Bs:List Nat)(w:World)(e:Ending)(w':World):Prop :=
 ∃ V f,e=.returned (.pointer (some ⟨V.xb,0,none⟩))∧LkM w' w.heap.size VF.fb VP.sb C.P V f∧LkIs C.P st Bs f∧Below w.heap.size w w'
theorem zw1 (args:Array Value)(w:World):(callFunc 230 args).run Tryz.prog w=.ok (.enter 230 args) w:=enters_of Tryz.func230 (by kernel_rfl) rfl args w
theorem zya (args:Array Value)(w:World):(callFunc 231 args).run Tryz.prog w=.ok (.enter 231 args) w:=enters_of Tryz.func231 (by kernel_rfl) rfl args w
theorem zvu (args:Array Value)(w:World):(callFunc 232 args).run Tryz.prog w=.ok (.enter 232 args) w:=enters_of Tryz.func232 (by kernel_rfl) rfl args w
theorem lk_made {w wz:World}{P:Pr}{fb sb full:Nat}{V:LkV}(hf:full=2 ^ P.nm-1)(hf48:full<2 ^ 48)(hV:V=⟨w.heap.size+7,fun r=>w.heap.size+r⟩)
  (hx:Blk wz (w.heap.size+7) 388 (zcl P fb sb V))
  (h0:Blk wz (w.heap.size+0) 381 (rowV P.code.length fun _=>full)) (h1:Blk wz (w.heap.size+1) 381 (rowV P.fs.length fun _=>full)) (h2:Blk wz (w.heap.size+2) 381 (rowV P.fs.length fun _=>full))
  (h3:Blk wz (w.heap.size+3) 381 (rowV P.fs.length fun _=>0)) (h4:Blk wz (w.heap.size+4) 381 (rowV P.code.length fun _=>0)) (h5:Blk wz (w.heap.size+5) 381 (rowV P.fs.length fun _=>0)) (h6:Blk wz (w.heap.size+6) 381 (rowV P.fs.length fun _=>0)) :
  LkM wz w.heap.size fb sb P V (fun r _=>if r<3 then 2 ^ P.nm-1 else 0):=by
 subst hf
 refine⟨by rw[hV];rw[hV]at hx;exact hx,fun r hr=>?_,fun r r' _ _ e=>?_,⟨by rw[hV];show w.heap.size≤w.heap.size+7;omega,fun r _=>by rw[hV];show w.heap.size≤w.heap.size+r;omega⟩,fun r i=>?_⟩
 ·rw[hV]
  match r,hr with
  | 0,_=>exact h0
  | 1,_=>exact h1
  | 2,_=>exact h2
  | 3,_=>exact h3
  | 4,_=>exact h4
  | 5,_=>exact h5
  | 6,_=>exact h6
 ·rw[hV]at e
  have:w.heap.size+r=w.heap.size+r':=e
  omega
 ·show(if r<3 then 2 ^ P.nm-1 else 0)<2 ^ 48
  split
  ·exact hf48
  ·omega
theorem zu0 (C:AX)(w:World)(VF:FV)(Rs Bs:List Nat)(wp:World)(VP:PtV)(st:PS)(x:Nat)(Y:LkY C w VF Rs Bs wp VP st x) :
  Calls Tryz.prog 153 #[.pointer (some ⟨VF.fb,0,none⟩),.pointer (some ⟨VP.sb,0,none⟩)] w (zr3 C VF VP st Bs w):=by
 have hmf:∀ (fn:Fn) (first cap:Array Value) (w:World),(Instr.makeFunc fn first cap).run Tryz.prog w=.ok (.func fn first cap) w:=fun _ _ _ _=>rfl
 have HC:=Y.l.f.f.h.c
 have hcl:=HC.wf.cl
 have hc1:=HC.wf.c1
 have hfl5:=HC.wf.fl
 have hml:=HC.wf.ml
 have hmain:=HC.wf.main
 obtain⟨sb,hsb⟩:∃ sb,sb=VP.sb:=⟨_,rfl⟩
 have HSB:=zH hsb
 have HF:=zH (fun(W':World) (hb:Below w.heap.size w W')=>(Y.l.f.below hb (Nat.le_refl _)).f.h)
 obtain⟨hfc,hpc⟩:=(HF.out w (Below.refl _ _)).cells
 have hfl:=(HF.out w (Below.refl _ _)).f.lt
 have hpl:=(HF.out w (Below.refl _ _)).c.prog.p.lt
 have hpl:C.pb<w.heap.size:=Nat.lt_of_lt_of_le hpl (HF.out w (Below.refl _ _)).onw.size
 obtain⟨full,hfull⟩:∃ full,full=2 ^ C.P.nm-1:=⟨_,rfl⟩
 have hf48:full<2 ^ 48:=by
  have:2 ^ C.P.nm≤2 ^ 3:=Nat.pow_le_pow_right (by omega) hml
  omega
 have hup:=zpm C.P.nm w (by omega)
 rw[← hfull]at hup
 have HUP:=zH hup
 have HFU:=zH hfull
 rw[← hsb]
 clear hup hfull hsb
 go_enter Tryz.func153,Tryz.ntmps153
 go_wp2_with fail
 refine HUP.out.mono ?_
 rintro e w2 ⟨rfl,rfl⟩
 go_wp2_with fail
 have HFd:=zH (HF.out w.drew (Below.refl _ _).drew)
 have hHeld:=HFd.out.cells
 clear hfc hpc
 refine zah 17 (fun(W':World)=>(∀ i,W'.cell? ⟨VF.fb,i,none⟩=#[.pointer (some ⟨C.pb,0,none⟩),.map (some VF.onb),VF.sv,VF.rv,VF.bv,.map (some VF.lob),.map (some VF.mab)][i]?)∧(∀ i,W'.cell? ⟨C.pb,i,none⟩=#[.pointer (some ⟨C.X.tb,0,none⟩),.int .i64 C.P.nv,.int .i64 C.P.nm,.slice (some ⟨C.fg,0,none⟩) C.P.fs.length C.fcap,.slice (some ⟨C.cg,0,none⟩) C.P.code.length C.ccap,C.X.av,C.X.nv,C.X.gv,.int .i64 C.P.main][i]?)) (by kernel_rfl) rfl rfl (by kernel_rfl) ?_
 simp only[List.take_succ_cons,List.take_zero]
 iterate 17(refine tk 0 rfl (by kernel_rfl) (fun _ _ _ h=>h) hHeld (fun w hSw=>by go_simp;try with_reducible rfl) (by simp only[pA,pB,pC,pD,pE,pF,pG,pH];exact rfl) ?_)
 refine lst (by kernel_rfl) rfl fun K hK=>?_
 go_simp
 refine hK _ _ ?_
 clear hK K hHeld HFd
 have hbd:Below w.heap.size w w.drew:=(Below.refl _ _).drew
 have hzd:w.drew.heap.size=w.heap.size:=rfl
 generalize w.drew=w0 at hbd hzd ⊢
 go_wp2_with fail
 refine(zh7 C.P.code.length full _ (by omega) (by omega) hf48).mono ?_
 rintro e w1 ⟨rfl,hB0,hb0,hz0⟩
 go_wp2_with fail
 refine(zh7 C.P.fs.length full _ (by omega) (by omega) hf48).mono ?_
 rintro e w2 ⟨rfl,hB1,hb1,hz1⟩
 go_wp2_with fail
 have hB0:=hB0.below hb1 hB0.lt
 refine(zh7 C.P.fs.length full _ (by omega) (by omega) hf48).mono ?_
 rintro e w3 ⟨rfl,hB2,hb2,hz2⟩
 go_wp2_with fail
 have hB0:=hB0.below hb2 hB0.lt
 have hB1:=hB1.below hb2 hB1.lt
 refine(zh7 C.P.fs.length 0 _ (by omega) (by omega) (by omega)).mono ?_
 rintro e w4 ⟨rfl,hB3,hb3,hz3⟩
 go_wp2_with fail
 have hB0:=hB0.below hb3 hB0.lt
 have hB1:=hB1.below hb3 hB1.lt
 have hB2:=hB2.below hb3 hB2.lt
 refine(zh7 C.P.code.length 0 _ (by omega) (by omega) (by omega)).mono ?_
 rintro e w5 ⟨rfl,hB4,hb4,hz4⟩
 go_wp2_with fail
 have hB0:=hB0.below hb4 hB0.lt
 have hB1:=hB1.below hb4 hB1.lt
 have hB2:=hB2.below hb4 hB2.lt
 have hB3:=hB3.below hb4 hB3.lt
 refine(zh7 C.P.fs.length 0 _ (by omega) (by omega) (by omega)).mono ?_
 rintro e w6 ⟨rfl,hB5,hb5,hz5⟩
 go_wp2_with fail
 have hB0:=hB0.below hb5 hB0.lt
 have hB1:=hB1.below hb5 hB1.lt
 have hB2:=hB2.below hb5 hB2.lt
 have hB3:=hB3.below hb5 hB3.lt
 have hB4:=hB4.below hb5 hB4.lt
 refine(zh7 C.P.fs.length 0 _ (by omega) (by omega) (by omega)).mono ?_
 rintro e w7 ⟨rfl,hB6,hb6,hz6⟩
 have hB0:=hB0.below hb6 hB0.lt
 have hB1:=hB1.below hb6 hB1.lt
 have hB2:=hB2.below hb6 hB2.lt
 have hB3:=hB3.below hb6 hB3.lt
 have hB4:=hB4.below hb6 hB4.lt
 have hB5:=hB5.below hb6 hB5.lt
 have hs1:w1.heap.size=w.heap.size+1:=by omega
 have hs2:w2.heap.size=w.heap.size+2:=by omega
 have hs3:w3.heap.size=w.heap.size+3:=by omega
 have hs4:w4.heap.size=w.heap.size+4:=by omega
 have hs5:w5.heap.size=w.heap.size+5:=by omega
 have hs6:w6.heap.size=w.heap.size+6:=by omega
 have hs7:w7.heap.size=w.heap.size+7:=by omega
 have hb7:Below w.heap.size w w7:=hbd.trans ((hb0.mono (by omega)).trans ((hb1.mono (by omega)).trans ((hb2.mono (by omega)).trans ((hb3.mono (by omega)).trans ((hb4.mono (by omega)).trans ((hb5.mono (by omega)).trans (hb6.mono (by omega))))))))
 rw[hzd]at hB0
 rw[hs1]at hB1
 rw[hs2]at hB2
 rw[hs3]at hB3
 rw[hs4]at hB4
 rw[hs5]at hB5
 rw[hs6]at hB6
 simp only[hs1,hs2,hs3,hs4,hs5,hs6,hzd]
 clear hb0 hb1 hb2 hb3 hb4 hb5 hb6 hz0 hz1 hz2 hz3 hz4 hz5 hz6 hbd
 go_wp2_with fail
 change Code.wp _ _ _ _ (w7.alloc (.cells (zcl C.P VF.fb sb ⟨w.heap.size+7,fun r=>w.heap.size+r⟩) 388))
 obtain⟨V,hV⟩:∃ V:LkV,V=⟨w.heap.size+7,fun r=>w.heap.size+r⟩:=⟨_,rfl⟩
 rw[← hV,show w.heap.size+7=V.xb by rw[hV]]
 have hba:Below w7.heap.size w7 (w7.alloc (.cells (zcl C.P VF.fb sb V) 388)):=(Below.refl _ _).alloc (Nat.le_refl _) _
 have HL8:=zH (lk_made (wz:=w7.alloc (.cells (zcl C.P VF.fb sb V) 388)) HFU.out hf48 hV (by rw[← hs7];exact Blk.newAt rfl) (hB0.below hba hB0.lt) (hB1.below hba hB1.lt) (hB2.below hba hB2.lt) (hB3.below hba hB3.lt) (hB4.below hba hB4.lt) (hB5.below hba hB5.lt) (hB6.below hba hB6.lt))
 have HB8:=zH (hb7.trans (hba.mono hb7.size))
 clear hba hB0 hB1 hB2 hB3 hB4 hB5 hB6 hb7 hs1 hs2 hs3 hs4 hs5 hs6 hs7 hzd
 generalize w7.alloc (.cells (zcl C.P VF.fb sb V) 388)=w8 at HL8 HB8 ⊢
 have HV:=zH hV
 clear hV hfl hpl
 have hdd:Below w8.heap.size w8 w8.drew:=(Below.refl _ _).drew
 have HLd:=zH (HL8.out.below hdd)
 have HBd:=zH (HB8.out.trans (hdd.mono HB8.out.size))
 have hHeld:=And.intro (show ∀ j,w8.drew.cell? ⟨V.xb,j,none⟩=#[.pointer (some ⟨VF.fb,0,none⟩),.pointer (some ⟨sb,0,none⟩),.slice (some ⟨V.g 0,0,none⟩) C.P.code.length C.P.code.length,.slice (some ⟨V.g 1,0,none⟩) C.P.fs.length C.P.fs.length,.slice (some ⟨V.g 2,0,none⟩) C.P.fs.length C.P.fs.length,.slice (some ⟨V.g 3,0,none⟩) C.P.fs.length C.P.fs.length,.slice (some ⟨V.g 4,0,none⟩) C.P.code.length C.P.code.length,.slice (some ⟨V.g 5,0,none⟩) C.P.fs.length C.P.fs.length,.slice (some ⟨V.g 6,0,none⟩) C.P.fs.length C.P.fs.length][j]? from HLd.out.x.cell) (HF.out _ HBd.out).cells
 refine zah 12 (fun(W':World)=>(∀ j,W'.cell? ⟨V.xb,j,none⟩=#[.pointer (some ⟨VF.fb,0,none⟩),.pointer (some ⟨sb,0,none⟩),.slice (some ⟨V.g 0,0,none⟩) C.P.code.length C.P.code.length,.slice (some ⟨V.g 1,0,none⟩) C.P.fs.length C.P.fs.length,.slice (some ⟨V.g 2,0,none⟩) C.P.fs.length C.P.fs.length,.slice (some ⟨V.g 3,0,none⟩) C.P.fs.length C.P.fs.length,.slice (some ⟨V.g 4,0,none⟩) C.P.code.length C.P.code.length,.slice (some ⟨V.g 5,0,none⟩) C.P.fs.length C.P.fs.length,.slice (some ⟨V.g 6,0,none⟩) C.P.fs.length C.P.fs.length][j]?)∧(∀ i,W'.cell? ⟨VF.fb,i,none⟩=#[.pointer (some ⟨C.pb,0,none⟩),.map (some VF.onb),VF.sv,VF.rv,VF.bv,.map (some VF.lob),.map (some VF.mab)][i]?)∧(∀ i,W'.cell? ⟨C.pb,i,none⟩=#[.pointer (some ⟨C.X.tb,0,none⟩),.int .i64 C.P.nv,.int .i64 C.P.nm,.slice (some ⟨C.fg,0,none⟩) C.P.fs.length C.fcap,.slice (some ⟨C.cg,0,none⟩) C.P.code.length C.ccap,C.X.av,C.X.nv,C.X.gv,.int .i64 C.P.main][i]?)) (by kernel_rfl) rfl rfl (by kernel_rfl) ?_
 simp only[List.take_succ_cons,List.take_zero]
 iterate 12(refine tk 0 rfl (by kernel_rfl) (fun _ _ _ h=>h) hHeld (fun w hSw=>by go_simp;try with_reducible rfl) (by simp only[pA,pB,pC,pD,pE,pF,pG,pH];exact rfl) ?_)
 have hgf:=(HL8.out.r 1 (by omega)).frozen
 have hgl:=(HL8.out.r 1 (by omega)).lt
 have hgm:w8.cell? ⟨V.g 1,C.P.main,none⟩=some (zaa full):=by
  have:=HL8.out.cell (r:=1) (i:=C.P.main) (by omega) (by unfold za8;simpa using hmain)
  rw[this,HFU.out]
  rfl
 refine lst (by kernel_rfl) rfl fun K hK=>?_
 go_simp
 refine hK _ _ ?_
 have HLw9:=zH (show LkM (w8.setCell ⟨V.g 1,C.P.main,none⟩ (zaa 0)).drew w.heap.size VF.fb sb C.P V (lk0 C.P)from(HL8.out.set (by omega) (by omega)).below (Below.refl _ _).drew)
 have HBw9:=zH (show Below w.heap.size w (w8.setCell ⟨V.g 1,C.P.main,none⟩ (zaa 0)).drew from(HB8.out.setCell (p:=⟨V.g 1,C.P.main,none⟩) (HL8.out.bB.2 1 (by omega)) _).drew)
 clear hK K hHeld hgf hgl hgm hdd HLd HBd HL8 HB8
 generalize (w8.setCell ⟨V.g 1,C.P.main,none⟩ (zaa 0)).drew=w9 at HLw9 HBw9 ⊢
 obtain⟨f0,hf0⟩:∃ f0,f0=lk0 C.P:=⟨_,rfl⟩
 rw[← hf0]at HLw9
 have hB48:∀ s,Bs.getD s 0<2 ^ 48:=fun s=>by
  rw[List.getD_eq_getElem?_getD]
  cases hs:Bs[s]? with
  | none=>simp
  | some v=>exact Nat.lt_of_lt_of_le (Y.l.f.small _ _ hs) (Nat.pow_le_pow_right (by omega) (by have:=HC.wf.gl;omega))
 have HAB:=zH (show ∀ f W,LkM W w.heap.size VF.fb sb C.P V f→Below w.heap.size w W→Calls Tryz.prog 232 #[.pointer (some ⟨V.xb,0,none⟩)] W (zi8 C w VF sb V (zlw C.P st Bs (f,false)) W)from fun f W hL hb=>by
  have:=ztw C w VF Rs Bs wp VP st x Y V f W (by rw[← HSB.out];exact hL) hb
  rw[← HSB.out]at this
  exact this)
 go_wp2_with fail
 have hba:Below w9.heap.size w9 (w9.alloc (.cells #[.func (.func 230) #[.pointer (some ⟨V.xb,0,none⟩)] #[]] 37)):=(Below.refl _ _).alloc (Nat.le_refl _) _
 refine(znm (dropsS C.P) (muG (zek C.P)) 230 w9.heap.size f0 (HLw9.out.below hba) (HBw9.out.trans (hba.mono HBw9.out.size)) zw1 (Blk.newAt rfl) (fun f W hL hb=>(zuy C w VF Rs Bs Y.l sb V f W hL hb).mono fun _ _ h=>h) (fun f h=>(zm5 HC.wf Y.l.w C.P.code 0 (f,false) (by rw[List.drop_zero]) h).1)).mono ?_
 rintro e wa ⟨rfl,f1,hL,hfx,hfr⟩
 have HLwa:=zH hL
 have HXwa:=zH hfx
 have HBwa:=zH (show Below w.heap.size w wa from(HBw9.out.trans (hba.mono HBw9.out.size)).trans (hfr.base hL.bB.2 (hL.bB.2 3 (by omega)) (Nat.le_trans HBw9.out.size hba.size)))
 clear hL hfx hfr hba
 go_wp2_with fail
 have hba:Below wa.heap.size wa (wa.alloc (.cells #[.func (.func 231) #[.pointer (some ⟨V.xb,0,none⟩)] #[]] 37)):=(Below.refl _ _).alloc (Nat.le_refl _) _
 refine(znm (passS C.P) (muL (zek C.P)) 231 wa.heap.size f1 (HLwa.out.below hba) (HBwa.out.trans (hba.mono HBwa.out.size)) zya (Blk.newAt rfl) (fun f W hL hb=>pass_any C w VF Rs Bs Y.l sb V f W hL hb) (fun f h=>((znf HC.wf C.P.fs 0 (f,false) (by rw[List.drop_zero]) h).trans (zn1 HC.wf (onB C.P) C.P.code 0 _ (by rw[List.drop_zero]) (znf HC.wf C.P.fs 0 (f,false) (by rw[List.drop_zero]) h).2)).1)).mono ?_
 rintro e wb ⟨rfl,f2,hL,hfx,hfr⟩
 have HLwb:=zH hL
 have HXwb:=zH hfx
 have HBwb:=zH (show Below w.heap.size w wb from(HBwa.out.trans (hba.mono HBwa.out.size)).trans (hfr.base hL.bB.2 (hL.bB.2 3 (by omega)) (Nat.le_trans HBwa.out.size hba.size)))
 clear hL hfx hfr hba
 go_wp2_with fail
 have hba:Below wb.heap.size wb (wb.alloc (.cells #[.func (.func 232) #[.pointer (some ⟨V.xb,0,none⟩)] #[]] 37)):=(Below.refl _ _).alloc (Nat.le_refl _) _
 refine(znm (zlw C.P st Bs) (muG (zek C.P)) 232 wb.heap.size f2 (HLwb.out.below hba) (HBwb.out.trans (hba.mono HBwb.out.size)) zvu (Blk.newAt rfl) HAB.out (fun f h=>(zod HC.wf Y.l.w hB48 C.P.code 0 (f,false) (by rw[List.drop_zero]) h).1)).mono ?_
 rintro e wc ⟨rfl,f3,hL,hfx,hfr⟩
 have HLwc:=zH hL
 have HXwc:=zH hfx
 have HBwc:=zH (show Below w.heap.size w wc from(HBwb.out.trans (hba.mono HBwb.out.size)).trans (hfr.base hL.bB.2 (hL.bB.2 3 (by omega)) (Nat.le_trans HBwb.out.size hba.size)))
 clear hL hfx hfr hba
 have FIN:=zH (show zr3 C VF VP st Bs w (.returned (.pointer (some ⟨V.xb,0,none⟩))) wc from⟨V,f3,rfl,by rw[← HSB.out];exact HLwc.out,⟨f1,f2,by rw[← hf0];exact HXwa.out,HXwb.out,HXwc.out⟩,HBwc.out⟩)
 clear hB48 hmf
 go_wp2_with fail
 go_ret
 exact FIN.out
end
section
open Go.RowKit Go.Maps Go.ChangeMaps Go.Shelf
set_option linter.unusedSimpArgs false
structure Yk (N E:Nat)(w w':World):Prop where
 os:w'.os=w.os
 tape:w'.tape=w.tape
 output:w'.output=w.output
 size:w.heap.size≤w'.heap.size
 block:∀ (k:Nat) (o:Obj),w.heap[k]? = some o→(k<N∨∀ t,typOf o=some t→t≠69∧(k<E→t≠3∧t≠4∧t≠62))→w'.heap[k]? = some o
section
variable {N E:Nat} {w w' w2:World} {g:Nat} {t:TypeId} {cs:Array Value}
theorem Yk.refl (N E:Nat)(w:World):Yk N E w w:=⟨rfl,rfl,rfl,Nat.le_refl _,fun _ _ h _=>h⟩
theorem Yk.trans (h:Yk N E w w')(k:Yk N E w' w2):Yk N E w w2 :=
 ⟨k.os.trans h.os,k.tape.trans h.tape,k.output.trans h.output,Nat.le_trans h.size k.size,fun i o hi hp=>k.block i o (h.block i o hi hp) hp⟩
theorem Yk.of_below (h:Below w.heap.size w w'):Yk N E w w':=⟨h.os,h.tape,h.output,h.size,fun _ _ hi _=>(h.block _ (lt_of_block hi)).trans hi⟩
theorem Yk.below (h:Yk N E w w')(hN:N≤w.heap.size):Below N w w' :=
 ⟨h.os,h.tape,h.output,h.size,fun k hk=>by
  have e:w.heap[k]? = some w.heap[k]:=Array.getElem?_eq_getElem (Nat.lt_of_lt_of_le hk hN)
  rw[e]
  exact h.block k _ e (.inl hk)⟩
theorem Yk.kp (h:Yk N E w w'):PtKp w w':=⟨h.size,fun k o hk ho=>h.block k o hk (.inr fun t ht=>by
 cases o with
 | cells cs e f =>
  injection ht with ht
  subst ht
  simp only[ptObj,Bool.or_eq_true,beq_iff_eq]at ho
  rcases ho with rfl | rfl <;> exact⟨by decide,fun _=>⟨by decide,by decide,by decide⟩⟩
 | _=>cases ht)⟩
theorem Yk.map (h:Yk N E w w'){b:Nat}{es:Array MapEntry}{c:Nat}(hb:w.heap[b]? = some (.map es c)):w'.heap[b]? = w.heap[b]? := by
 rw[hb]
 exact h.block b _ hb (.inr fun t ht=>by cases ht)
theorem MkE.yk {b:Nat}{S:Nat→Bool}(h:MkE w b S)(hy:Yk N E w w'):MkE w' b S:=by
 refine h.of_block ?_
 obtain⟨m,hm⟩:=h
 obtain⟨es,c,he⟩:=hm.is.obj
 exact hy.map he
theorem Blk.yk (hb:Blk w g t cs)(h:Yk N E w w')(h1:t≠69)(h2:g<E→t≠3∧t≠4∧t≠62):Blk w' g t cs :=
 h.block g _ hb (.inr fun t' e=>by injection e with e;subst e;exact⟨h1,h2⟩)
theorem zli {B e size n:Nat}{v:Value}{xs:List Value}(h:w.ownsRow B e size v n xs)(hy:Yk N E w w')(hE:E≤B)(h1:e≠69):w'.ownsRow B e size v n xs:=by
 refine zcr h fun k hk=>?_
 obtain⟨cs,hb⟩:=zba h hk
 have hkB:=(h.lt k hk).1
 exact(hb.yk hy h1 (fun hlt=>by omega)).trans hb.symm
theorem zeu.below {B pb M:Nat}{P:Pr}{X:PV}(h:zeu w B pb P X)(hb:Below M w w')(hM:w.heap.size≤M):zeu w' B pb P X :=
 ⟨h.pB,h.ok,h.tree.below0 hb hM,h.p.below hb (Nat.lt_of_lt_of_le h.p.lt hM),zbz h.fr hb fun k e=>Nat.lt_of_lt_of_le (h.fr.lt k e).2 hM,zbz h.cr hb fun k e=>Nat.lt_of_lt_of_le (h.cr.lt k e).2 hM,h.asl,
  fun k a i h1 h2=>zbz (h.ar k a i h1 h2) hb fun k e=>Nat.lt_of_lt_of_le ((h.ar _ a i h1 h2).lt k e).2 hM,
  zbz h.atr hb fun k e=>Nat.lt_of_lt_of_le (h.atr.lt k e).2 hM,zbz h.nr hb fun k e=>Nat.lt_of_lt_of_le (h.nr.lt k e).2 hM,zbz h.gr hb fun k e=>Nat.lt_of_lt_of_le (h.gr.lt k e).2 hM⟩
abbrev AX.at_ (C:AX)(w:World):AX:=⟨w,C.B,C.pb,C.P,C.X,C.fg,C.fcap,C.cg,C.ccap⟩
theorem AXok.at_ {C:AX}(h:AXok C)(hb:C.on w):AXok (C.at_ w):=⟨h.prog.below hb (Nat.le_refl _),h.wf,h.fsv,h.cv⟩
theorem zec.yk {C:AX}{w1:World}{V:FV}{Rs Bs:List Nat}(hc:AXok C)(h:zec (C.at_ w1) w V Rs Bs)(h1:C.on w1)(hy:Yk C.w0.heap.size w1.heap.size w w'):zec C w' V Rs Bs:=by
 have hz:=h1.size
 have hwz:w1.heap.size≤w.heap.size:=h.f.h.onw.size
 have hon:C.on w':=(h1.trans (h.f.h.onw.mono hz)).trans (hy.below (by omega))
 have hF:=h.f
 have hH:=hF.h
 refine⟨⟨⟨hc,hon,Nat.le_trans hz hH.fB,hH.f.yk hy (by decide) (fun hlt=>by have:=hH.fB;dsimp only at this;omega),hH.on.yk hy,hH.lo.yk hy,hH.ma.yk hy,Nat.le_trans hz hH.mB,hH.mo,hH.ml⟩,Nat.le_trans hz hF.lB,hF.lon,
  zbn (zli hF.s hy (Nat.le_refl _) (by decide)) hz,zbn (zli hF.r hy (Nat.le_refl _) (by decide)) hz,zbn (zli hF.b hy (Nat.le_refl _) (by decide)) hz,
  fun i rb hi=>⟨(hF.rm i rb hi).1.yk hy,(hF.rm i rb hi).2⟩⟩,h.rl,h.bl,h.small,h.bel⟩
theorem PtM.low {B B' fb:Nat}{V:PtV}{st:PS}{out:Nat}{mh:List (Nd×(Nat×Nat))}{mt:List (Nd×Nat)}{mu:List (Nd×Value)}(h:PtM w B fb V st out mh mt mu)(hB:B'≤B):PtM w B' fb V st out mh mt mu :=
 ⟨h.s,h.h,h.hv,h.t,h.tn,fun n b hb=>⟨(h.ti n b hb).1,Nat.le_trans hB (h.ti n b hb).2.1,(h.ti n b hb).2.2⟩,h.t0,h.u,fun n v hv=>zbn (h.ur n v hv) hB,h.un,h.u0,
  ⟨Nat.le_trans hB h.bB.1,Nat.le_trans hB h.bB.2.1,Nat.le_trans hB h.bB.2.2.1,Nat.le_trans hB h.bB.2.2.2⟩,h.ne,h.sm⟩
theorem PtAt.yk {B fb:Nat}{wf w0:World}{V:PtV}{st:PS}{out:Nat}(h:PtAt B fb wf V st out w)(hy:Yk N E w w')(hB:w0.heap.size≤B)(hb:Below w0.heap.size w0 w)(hN:N=w0.heap.size):PtAt w0.heap.size fb w0 V st out w':=by
 obtain⟨mh,mt,mu,hm⟩:=h.m
 subst hN
 exact⟨hb.trans (hy.below hb.size),Nat.le_trans hb.size hy.size,mh,mt,mu,(hm.kp hy.kp).low hB⟩
theorem LkM.yk {B fb sb:Nat}{P:Pr}{V:LkV}{f:LF}(h:LkM w B fb sb P V f)(hy:Yk N E w w'):LkM w' B fb sb P V f :=
 ⟨h.x.yk hy (by decide) (fun _=>by decide),fun r hr=>(h.r r hr).yk hy (by decide) (fun _=>by decide),h.inj,h.bB,h.sm⟩
end
theorem zl1 {α : Type}{W:World}{B:Nat}{e:TypeId}{va:Option Addr}{vc:Nat}{l:List α}(enc:α → Value)(hr:W.ownsRow B e 1 (.slice va l.length vc) l.length (l.map enc)) :
  ∀ (j:Nat) (x:α),l[j]? = some x→∃ gb,va=some ⟨gb,0,none⟩∧W.cell? ⟨gb,j,none⟩=some (enc x):=fun j x hj=>by
 have hlt:j<l.length:=(List.getElem?_eq_some_iff.1 hj).1
 obtain⟨gb,gc,hva,_,_⟩:=hr.form (by omega)
 injection hva with h1 h2 h3
 subst h1
 exact⟨gb,rfl,by rw[hr.cellAt j (by omega)];simp[hj]⟩
theorem zow {W:World}{B:Nat}{e:TypeId}{va:Option Addr}{n vc size:Nat}{l:List Value}(hr:W.ownsRow B e size (.slice va n vc) n l):n≤vc:=by
 rcases hr.2 with⟨h,h0⟩ | ⟨g,cap,cur,hv,_,_,hc,_⟩
 ·omega
 ·injection hv with _ _ h3
  omega
theorem jg_on {C:AX}(hc:AXok C)(hr:WfRp C.P){w wf wj:World}(hon:C.on w){VF:FV}{Rs Bs:List Nat}{VP:PtV}{V:LkV}{st:PS}{x jb B B2:Nat}{f:LF}
  (hF:zec (C.at_ w) wj VF Rs Bs) (hP:PtAt B2 VF.fb wf VP st x wj) (hB2:C.w0.heap.size≤B2) (x48:x<2 ^ 48) (hk:LkM wj B VF.fb VP.sb C.P V f)
  (hj:Blk wj jb 304 #[.pointer (some ⟨C.pb,0,none⟩),.pointer (some ⟨VF.fb,0,none⟩),.pointer (some ⟨VP.sb,0,none⟩),.pointer (some ⟨V.xb,0,none⟩)]) :
  ∃ J:JV,C=J.C∧st=J.st∧x=J.x∧f=J.f∧jb=J.jb∧VF=J.VF∧∀ W,Yk C.w0.heap.size w.heap.size wj W→zke J W:=by
 have hF0:=hF.yk hc hon (Yk.refl _ _ wj)
 obtain⟨sa,sc,hsv⟩:=zbx hF0.f.s
 obtain⟨ra,rc,hrv⟩:=zbx hF0.f.r
 obtain⟨ba,bc,hbv⟩:=zbx hF0.f.b
 obtain⟨r0,hr0⟩:∃ r0,Rs[0]? = some r0:=⟨_,List.getElem?_eq_getElem (by rw[hF.rl];show 0<_+1;omega)⟩
 obtain⟨rg,hra,_⟩:=zl1 (fun b=>Value.map (some b)) (hrv ▸ hF0.f.r) 0 r0 hr0
 subst hra
 obtain⟨ga,gc,hgv,hgos⟩:=zmq hF0.f.h
 refine⟨⟨C,VF,VP,V,C.w0,st,x,Rs,Bs,f,jb,B,sa,sc,rg,rc,ba,bc,r0,ga,gc⟩,rfl,rfl,rfl,rfl,rfl,rfl,fun W hW=>?_⟩
 have h2:=hF.yk hc hon hW
 obtain⟨hf,hp⟩:=h2.f.h.cells
 have hml:(zau C.P).length=C.P.gos.length:=by simp[zau]
 have hon':C.on wj:=hF0.f.h.onw
 have hs:=h2.f.s
 have hrr:=h2.f.r
 have hb:=h2.f.b
 rw[hsv]at hs
 rw[hrv]at hrr
 rw[hbv]at hb
 rw[hsv,hrv,hbv,h2.rl,h2.bl,hml]at hf
 have hR:=zl1 (fun b=>Value.map (some b)) hrr
 have hrts:∀ (i rb:Nat),Rs[i]? = some rb→W.cell? ⟨rg,i,none⟩=some (.map (some rb)):=fun i rb hi=>by
  obtain⟨gb,e,h⟩:=hR i rb hi
  injection e with e
  injection e with e
  subst e
  exact h
 have hPy:=hP.yk hW hB2 hon' rfl
 refine⟨hc,hr,⟨hf,h2.f.h.f.lt,hp,h2.f.h.on,h2.f.h.onw,hrts 0 r0 hr0,(h2.f.rm 0 r0 hr0).1,fun s y hy=>zl1 Value.bool hs s y hy,fun s y hy=>zl1 zaa hb s y hy⟩,hj.yk hW (by decide) (fun _=>by decide),hPy,?_,x48,hk.yk hW,h2.rl,?_,h2.bl,fun i rb hi=>⟨hrts i rb hi,(h2.f.rm i rb hi).1⟩,hgv,fun s k hs=>?_⟩
 ·obtain⟨_,_,_,hm⟩:=hPy.m
  exact hm.s.cell 4
 ·have:=zow hrr
  rw[h2.rl]at this
  exact this
 ·obtain⟨gb,h1,h3⟩:=hgos s k hs
  exact⟨gb,h1,h3 W h2.f.h.onw⟩
theorem JgOn.yk {J:JV}{N E:Nat}{wj W:World}(h:∀ W,Yk N E wj W→zke J W)(hy:Yk N E wj W):JgOn J W:=fun _ hb=>h _ (hy.trans (Yk.of_below hb))
end
end Go.Proofs.YtkmcihhndgdhpaaGreat
