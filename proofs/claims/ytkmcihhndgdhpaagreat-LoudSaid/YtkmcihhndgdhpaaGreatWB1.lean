/- PtsK PtsL: parts of the walk. -/
import Derived.Test.YtkmcihhndgdhpaaGreatWA9
import Derived.Test.YtkmcihhndgdhpaaGreatWB0
set_option maxRecDepth 100000
set_option maxHeartbeats 4000000
set_option linter.unusedSimpArgs false
set_option linter.unusedVariables false
namespace Go.Proofs.YtkmcihhndgdhpaaGreat
section
open Go.RowKit Go.Maps Go.ChangeMaps Go.Shelf
set_option linter.unusedSimpArgs false
def ze8 (st:PS):Nat→Nat
 | 0=>0
 | v+1=>ze8 st v|||st.ho ⟨118,v,0⟩
def ze2 (st:PS)(fn:Nat):Nat→List Ar→Nat
 | x,[]=>x
 | x,a::l=>ze2 st fn (x|||argO st fn a) l
def zgh (st:PS)(on:Nat→Bool):Nat→Nat→List In→Nat
 | x,_,[]=>x
 | x,k,i::l=>zgh st on (if on k&&decide (i.op=7)then ze2 st i.fn x i.args else x) (k+1) l
def out0 (P:Pr)(on:Nat→Bool)(st:PS):Nat:=zgh st on (ze8 st P.nv) 0 P.code
theorem zm0 {st:PS}(h:∀ n,st.ho n<2 ^ 48):∀ v,ze8 st v<2 ^ 48
 | 0=>by simp[ze8]
 | v+1=>Nat.or_lt_two_pow (zm0 h v) (h _)
theorem zj5 {st:PS}(h:∀ n,st.ho n<2 ^ 48)(fn:Nat)(a:Ar):argO st fn a<2 ^ 48:=by
 unfold argO
 split
 ·omega
 ·exact h _
theorem zqe {st:PS}(h:∀ n,st.ho n<2 ^ 48)(fn:Nat):∀ (l:List Ar) (x:Nat),x<2 ^ 48→ze2 st fn x l<2 ^ 48
 | [],_,hx=>hx
 | a::l,_,hx=>zqe h fn l _ (Nat.or_lt_two_pow hx (zj5 h fn a))
theorem zec.below {C:AX}{w w':World}{V:FV}{Rs Bs:List Nat}{N:Nat}(h:zec C w V Rs Bs)(hb:Below N w w')(hN:w.heap.size≤N):zec C w' V Rs Bs:=⟨h.f.below hb hN,h.rl,h.bl,h.small,h.bel⟩
theorem zwx (args:Array Value)(w:World):(callFunc 282 args).run Tryz.prog w=.ok (.enter 282 args) w:=enters_of Tryz.func282 (by kernel_rfl) rfl args w
theorem zx1 {fb:Nat}{wf w:World}{V:PtV}{st:PS}{x0:Nat}(h:PtAt wf.heap.size fb wf V st x0 w)(hx:x0<2 ^ 48)(vx rb:Nat)(hvx:Blk w vx 298 #[.pointer (some ⟨V.sb,0,none⟩)])(hr:Blk w rb 37 #[.func (.func 282) #[] #[.pointer (some ⟨vx,0,none⟩)]]) :
  Calls Tryz.prog 221 #[.slice (some ⟨rb,0,none⟩) 1 1] w fun e w'=>e=.returned (.tuple #[])∧∃ x,PtAt wf.heap.size fb wf V st x w'∧x<2 ^ 48∧∀ o,x.testBit o=true↔OutP st x0 o:=by
 have hsb:Blk w V.sb 383 (zeh fb V x0):=by
  obtain⟨_,_,_,h3⟩:=h.m
  exact h3.s
 refine(zkb (zc9 fb wf w V st x0) (fun x=>2 ^ 48-x) [⟨282,#[],#[.pointer (some ⟨vx,0,none⟩)]⟩] [zkm st] rb 1 w x0 rfl (by simp) ⟨h,fun o ho S h1 _=>h1 o ho,fun _ h=>h,World.grownBy.refl _ _,hx⟩ ?_ ?_).mono ?_
 ·intro s W hI j r hj
  have hb:=hr.grown hI.n (fun e=>hr.ne_ hsb (by decide) (by injection e))
  cases j with
  | zero=>simp at hj;subst hj;exact hb.cell 0
  | succ j=>simp at hj
 ·intro j r c hj hc
  cases j with
  | zero =>
   simp at hj hc
   subst hj hc
   exact⟨zwx,fun s W hI=>zvv fb wf w V st x0 s vx W hI hvx (hvx.ne_ hsb (by decide))⟩
  | succ j=>simp at hj
 ·rintro e w' ⟨x,rfl,hI,hcl⟩
  exact⟨rfl,x,hI.p,hI.b,fun o=>OutP.done hI.s hI.g (hcl _ (List.mem_singleton.2 rfl)) o⟩
structure EcP (fb:Nat)(wf:World)(V:PtV)(st:PS)(w:World)(x:Nat)(W:World):Prop where
 p:PtAt wf.heap.size fb wf V st x W
 bx:Blk W w.heap.size 298 #[.pointer (some ⟨V.sb,0,none⟩)]
theorem EcP.below {fb:Nat}{wf:World}{V:PtV}{st:PS}{w:World}{x:Nat}{W W':World}(h:EcP fb wf V st w x W)(hb:Below W.heap.size W W'):EcP fb wf V st w x W':=⟨h.p.below hb,h.bx.below hb h.bx.lt⟩
theorem EcP.setOut {fb:Nat}{wf:World}{V:PtV}{st:PS}{w:World}{x:Nat}{W:World}(h:EcP fb wf V st w x W)(y:Nat):EcP fb wf V st w y (W.setCell ⟨V.sb,4,none⟩ (zaa y)):=by
 have hne:w.heap.size≠V.sb:=by
  obtain⟨_,_,_,h3⟩:=h.p.m
  exact h.bx.ne_ h3.s (by decide)
 exact⟨h.p.setOut y,h.bx.far (p:=⟨V.sb,4,none⟩) hne _⟩
def EcV (fb:Nat)(wf:World)(V:PtV)(st:PS)(w:World)(nv:Nat)(v2:Value)(W:World):Prop:=∃ v:Nat,v2=.int .i64 v∧v≤nv∧EcP fb wf V st w (ze8 st v) W
def EcC (fb:Nat)(wf:World)(V:PtV)(st:PS)(w:World)(P:Pr)(on:Nat→Bool)(v47:Value)(W:World):Prop:=∃ k x:Nat,v47=.int .i64 k∧k≤P.code.length∧x<2 ^ 48∧EcP fb wf V st w x W∧zgh st on x k (P.code.drop k)=out0 P on st
def EcA (fb:Nat)(wf:World)(V:PtV)(st:PS)(w:World)(i:In)(M ib:Nat)(cs:Array Value)(v69:Value)(W:World):Prop:=∃ j x:Nat,v69=.int .i64 j∧j≤i.args.length∧x<2 ^ 48∧EcP fb wf V st w x W∧ze2 st i.fn x (i.args.drop j)=M∧Blk W ib 309 cs
theorem zu7 (C:AX)(wf:World)(VF:FV)(Rs Bs:List Nat)(hF:zec C wf VF Rs Bs)(V:PtV)(st:PS)(w:World)(h:PtAt wf.heap.size VF.fb wf V st 0 w)(hio:∀ (k:Nat) (i:In),C.P.code[k]? = some i→InOk i) :
  Calls Tryz.prog 227 #[.pointer (some ⟨V.sb,0,none⟩)] w fun e w'=>e=.returned (.tuple #[])∧∃ x,PtAt wf.heap.size VF.fb wf V st x w'∧x<2 ^ 48∧∀ o,x.testBit o=true↔OutP st (out0 C.P (onB C.P) st) o:=by
 have HF:=zH (fun(W':World) (hb:Below wf.heap.size wf W')=>(hF.below hb (Nat.le_refl _)).f.h)
 have hvl:=hF.f.h.c.wf.vl
 have hcl:=hF.f.h.c.wf.cl
 have HC:=hF.f.h.c
 have HSM:=zH (show ∀ n,st.ho n<2 ^ 48 from by
  obtain⟨_,_,_,h3⟩:=h.m
  exact fun n=>(h3.sm n).1)
 have hb1:Below w.heap.size w (w.alloc (.cells #[.pointer (some ⟨V.sb,0,none⟩)] 298)):=(Below.refl _ _).alloc (Nat.le_refl _) _
 have ST:=zH (show EcV VF.fb wf V st w C.P.nv (.int .i64 (0:Int)) (w.alloc (.cells #[.pointer (some ⟨V.sb,0,none⟩)] 298))from⟨0,rfl,Nat.zero_le _,h.below hb1,Blk.newAt rfl⟩)
 have HFX:=zH hF
 have HIO:=zH hio
 have H:=zH h
 clear h hF hb1 hio
 have hmf:∀ (fn:Fn) (first cap:Array Value) (w:World),(Instr.makeFunc fn first cap).run Tryz.prog w=.ok (.func fn first cap) w:=fun _ _ _ _=>rfl
 have hfo:=fun(a b:Nat) (w:World)=>zl2 (zaa a) (zaa b) w
 go_enter Tryz.func227,Tryz.ntmps227
 go_wp2_with fail
 go_loopw [2] (fun v2 wr=>EcV VF.fb wf V st w C.P.nv v2 wr) (fun v2 _=>C.P.nv-(intOf v2).toNat)
 case atStart=>exact ST.out
 case round =>
  obtain⟨v,rfl,hv,hP⟩:=hrel
  have HP:=zH hP
  obtain⟨mh,mt,mu,hm⟩:=hP.p.m
  have hsb:=hm.s
  have hsc:=hsb.cell
  unfold zeh at hsc
  have hbxc:=hP.bx.cell
  have hbxl:=hP.bx.lt
  have hsl:=hsb.lt
  obtain⟨hfc,hpc⟩:=(HF.out wr hP.p.on).cells
  have hfl:=(HF.out wr hP.p.on).f.lt
  clear hP
  by_cases hlt:v<C.P.nv
  ·have hno:NdOk ⟨118,v,0⟩:=⟨by show 118<256;omega,by show v<1000000;omega,by show(-1000000:Int)<0;omega,by show(0:Int)<1000000;omega⟩
   have hHeld:(∀ j,wr.drew.cell? ⟨V.sb,j,none⟩=#[.pointer (some ⟨VF.fb,0,none⟩),.map (some V.hb),.map (some V.tb),.map (some V.ub),zaa (ze8 st v)][j]?)∧(Instr.lookup 378 (.map (some V.hb)) (.agg #[.int .u8 (118:Int),.int .i64 (v:Int),.int .i64 (0:Int)]) false).run Tryz.prog wr.drew=.ok (.agg #[zaa (st.ho ⟨118,v,0⟩),zaa (st.ht ⟨118,v,0⟩)]) wr.drew∧wr.drew.cell? ⟨w.heap.size,0,none⟩=some (.pointer (some ⟨V.sb,0,none⟩)) :=
    ⟨(hm.kp (PtKp.drew wr)).s.cell,(hm.kp (PtKp.drew wr)).look hno,HP.out.bx.drew.cell 0⟩
   have hor:=zgn (ze8 st v) (st.ho ⟨118,v,0⟩) (zm0 HSM.out v) (HSM.out _)
   clear hm hno
   go_wp2_with fail
   clear hsc hbxc hfc hpc
   have hsd:=hsb.drew
   have hsc:=hsd.cell
   have hsf:=hsd.frozen
   unfold zeh at hsc
   refine zah 15 (fun(W':World)=>(∀ j,W'.cell? ⟨V.sb,j,none⟩=#[.pointer (some ⟨VF.fb,0,none⟩),.map (some V.hb),.map (some V.tb),.map (some V.ub),zaa (ze8 st v)][j]?)∧(Instr.lookup 378 (.map (some V.hb)) (.agg #[.int .u8 (118:Int),.int .i64 (v:Int),.int .i64 (0:Int)]) false).run Tryz.prog W'=.ok (.agg #[zaa (st.ho ⟨118,v,0⟩),zaa (st.ht ⟨118,v,0⟩)]) W'∧W'.cell? ⟨w.heap.size,0,none⟩=some (.pointer (some ⟨V.sb,0,none⟩))) (by kernel_rfl) rfl rfl (by kernel_rfl) ?_
   simp only[List.take_succ_cons,List.take_zero]
   iterate 15(refine tk 0 rfl (by kernel_rfl) (fun _ _ _ h=>h) hHeld (fun w hSw=>by go_simp;try with_reducible rfl) (by simp only[pA,pB,pC,pD,pE,pF,pG,pH];exact rfl) ?_)
   refine lst (by kernel_rfl) rfl fun K hK=>?_
   go_simp
   refine hK _ _ ?_
   clear hK K hHeld
   have REL:=zH (show EcV VF.fb wf V st w C.P.nv (.int .i64 ((v+1:Nat):Int)) (wr.drew.setCell ⟨V.sb,4,none⟩ (zaa (ze8 st v|||st.ho ⟨118,v,0⟩)))from⟨v+1,rfl,hlt,(HP.out.below (Below.refl _ _).drew).setOut _⟩)
   clear hsd hsc hsf hsb hor
   go_wp2_with fail
   go_roundw
   case rel=>rw[show((v:Int)+1)=((v+1:Nat):Int) by omega];exact REL.out
   case measure=>simp only[intOf];omega
  ·obtain rfl:v=C.P.nv:=by omega
   have ST2:=zH (show EcC VF.fb wf V st w C.P (onB C.P) (.int .i64 (0:Int)) wr from⟨0,_,rfl,Nat.zero_le _,zm0 HSM.out _,HP.out,by rw[List.drop_zero];rfl⟩)
   clear hm hsb
   go_wp2_with fail
   clear hsc hbxc hbxl hsl hfc hpc hfl HP
   go_loopw [47] (fun v47 wr=>EcC VF.fb wf V st w C.P (onB C.P) v47 wr) (fun v47 _=>C.P.code.length-(intOf v47).toNat)
   case atStart=>exact ST2.out
   case round =>
    obtain⟨k,x,rfl,hk,hx,hP,hM⟩:=hrel
    have HP:=zH hP
    have HM:=zH hM
    obtain⟨mh,mt,mu,hm⟩:=hP.p.m
    have hsb:=hm.s
    have hsc:=hsb.cell
    unfold zeh at hsc
    have hbxc:=hP.bx.cell
    have hbxl:=hP.bx.lt
    have hsl:=hsb.lt
    have HFr:=zH (HF.out wr hP.p.on)
    obtain⟨hfc,hpc⟩:=HFr.out.cells
    have hfl:=HFr.out.f.lt
    clear hP hM hm
    by_cases hlt:k<C.P.code.length
    ·obtain⟨i,hi⟩:∃ i,C.P.code[k]? = some i:=⟨_,List.getElem?_eq_getElem hlt⟩
     obtain⟨aa,ac,hic,har,hkl⟩:=HC.icells HFr.out.onw hi
     have i0:wr.cell? ⟨C.cg,k*14,none⟩=some (.int .i64 i.op):=hic 0 (by omega)
     have i1:wr.cell? ⟨C.cg,k*14+1,none⟩=some (.int .i64 i.place):=hic 1 (by omega)
     have i2:wr.cell? ⟨C.cg,k*14+2,none⟩=some (.int .i64 i.fn):=hic 2 (by omega)
     have i3:wr.cell? ⟨C.cg,k*14+3,none⟩=some (.int .i64 i.x):=hic 3 (by omega)
     have i4:wr.cell? ⟨C.cg,k*14+4,none⟩=some (.bool i.y.c):=hic 4 (by omega)
     have i5:wr.cell? ⟨C.cg,k*14+5,none⟩=some (.int .i64 i.y.n):=hic 5 (by omega)
     have i6:wr.cell? ⟨C.cg,k*14+6,none⟩=some (.bool i.z.c):=hic 6 (by omega)
     have i7:wr.cell? ⟨C.cg,k*14+7,none⟩=some (.int .i64 i.z.n):=hic 7 (by omega)
     have i8:wr.cell? ⟨C.cg,k*14+8,none⟩=some (.int .i64 i.bin):=hic 8 (by omega)
     have i9:wr.cell? ⟨C.cg,k*14+9,none⟩=some (.int .i64 i.var):=hic 9 (by omega)
     have i10:wr.cell? ⟨C.cg,k*14+10,none⟩=some (.int .i64 i.site):=hic 10 (by omega)
     have i11:wr.cell? ⟨C.cg,k*14+11,none⟩=some (.int .i64 i.call):=hic 11 (by omega)
     have i12:wr.cell? ⟨C.cg,k*14+12,none⟩=some (.slice aa i.args.length ac):=hic 12 (by omega)
     have i13:wr.cell? ⟨C.cg,k*14+13,none⟩=some (.int .i64 i.to):=hic 13 (by omega)
     have HI:=zH hi
     have hMd:=zH (show zgh st (onB C.P) (if onB C.P k&&decide (i.op=7)then ze2 st i.fn x i.args else x) (k+1) (C.P.code.drop (k+1))=out0 C.P (onB C.P) st from by rw[← HM.out,zcc hi,zgh])
     clear hic hi HM
     have hbi:Below wr.heap.size wr (wr.alloc (.cells #[.int .i64 (i.op:Int),.int .i64 i.place,.int .i64 (i.fn:Int),.int .i64 i.x,.bool i.y.c,.int .i64 (i.y.n:Int),.bool i.z.c,.int .i64 (i.z.n:Int),.int .i64 (i.bin:Int),.int .i64 (i.var:Int),.int .i64 (i.site:Int),.int .i64 (i.call:Int),.slice aa i.args.length ac,.int .i64 (i.to:Int)] 309)):=(Below.refl _ _).alloc (Nat.le_refl _) _
     have hib:Blk (wr.alloc (.cells #[.int .i64 (i.op:Int),.int .i64 i.place,.int .i64 (i.fn:Int),.int .i64 i.x,.bool i.y.c,.int .i64 (i.y.n:Int),.bool i.z.c,.int .i64 (i.z.n:Int),.int .i64 (i.bin:Int),.int .i64 (i.var:Int),.int .i64 (i.site:Int),.int .i64 (i.call:Int),.slice aa i.args.length ac,.int .i64 (i.to:Int)] 309)) wr.heap.size 309 #[.int .i64 (i.op:Int),.int .i64 i.place,.int .i64 (i.fn:Int),.int .i64 i.x,.bool i.y.c,.int .i64 (i.y.n:Int),.bool i.z.c,.int .i64 (i.z.n:Int),.int .i64 (i.bin:Int),.int .i64 (i.var:Int),.int .i64 (i.site:Int),.int .i64 (i.call:Int),.slice aa i.args.length ac,.int .i64 (i.to:Int)]:=Blk.newAt rfl
     have HAR:=zH (show ∀ (j:Nat) (a:Ar),i.args[j]? = some a→∃ ag,aa=some ⟨ag,0,none⟩∧∀ W',Below wf.heap.size wf W'→W'.cell? ⟨ag,j*2,none⟩=some (.bool a.c)∧W'.cell? ⟨ag,j*2+1,none⟩=some (.int .i64 a.n)from fun j a hj=>by
      have hlt:j<i.args.length:=(List.getElem?_eq_some_iff.1 hj).1
      obtain⟨ag,ac',hv,_,hgl⟩:=har.form (by omega)
      injection hv with e1 e2 e3
      subst e1 e3
      refine⟨ag,rfl,fun W' hb=>?_⟩
      have hon:=(HF.out W' hb).onw
      rw[hon.cell (p:=⟨ag,_,none⟩) hgl,hon.cell (p:=⟨ag,_,none⟩) hgl,har.cellAt (j*2) (by omega),har.cellAt (j*2+1) (by omega)]
      exact zm9 hj)
     clear har
     go_wp2_with fail
     generalize hW:wr.alloc (.cells #[.int .i64 (i.op:Int),.int .i64 i.place,.int .i64 (i.fn:Int),.int .i64 i.x,.bool i.y.c,.int .i64 (i.y.n:Int),.bool i.z.c,.int .i64 (i.z.n:Int),.int .i64 (i.bin:Int),.int .i64 (i.var:Int),.int .i64 (i.site:Int),.int .i64 (i.call:Int),.slice aa i.args.length ac,.int .i64 (i.to:Int)] 309)=wi at hbi hib ⊢
     obtain⟨ib,hibe⟩:∃ ib,ib=wr.heap.size:=⟨_,rfl⟩
     rw[← hibe]at hib ⊢
     clear hW i0 i1 i2 i3 i4 i5 i6 i7 i8 i9 i10 i11 i12 i13 hsc hfc hpc hbxc hbxl hsl hfl hsb hibe
     have HPi:=zH (HP.out.below hbi)
     have HFi:=zH (HF.out wi HPi.out.p.on)
     have HIB:=zH hib
     have hibc:=hib.cell
     have hibl:=hib.lt
     clear hib
     refine(hasE _ VF.onb k (onB C.P) HFi.out.on (by omega)).mono ?_
     rintro e w2 ⟨rfl,rfl⟩
     have hskip:∀ b:Bool,(onB C.P k&&decide (i.op=7))=false→EcC VF.fb wf V st w C.P (onB C.P) (.int .i64 ((k+1:Nat):Int)) wi:=fun b hb=>⟨k+1,x,rfl,hlt,hx,HPi.out,by have:=hMd.out;rw[hb]at this;exact this⟩
     have HSK:=zH hskip
     clear hskip
     cases hon:onB C.P k
     ·have REL:=zH (HSK.out true (by rw[hon];rfl))
      clear hon HSK
      go_wp2_with fail
      go_roundw
      case rel=>rw[show((k:Int)+1)=((k+1:Nat):Int) by omega];exact REL.out
      case measure=>simp only[intOf];omega
     ·by_cases h7:i.op=7
      ·have o7:((i.op:Int)==7)=true:=by rw[h7];rfl
       have HME:=zH (show zgh st (onB C.P) (ze2 st i.fn x i.args) (k+1) (C.P.code.drop (k+1))=out0 C.P (onB C.P) st from by have:=hMd.out;rw[hon,h7]at this;exact this)
       have ST3:=zH (show EcA VF.fb wf V st w i (ze2 st i.fn x i.args) ib #[.int .i64 (i.op:Int),.int .i64 i.place,.int .i64 (i.fn:Int),.int .i64 i.x,.bool i.y.c,.int .i64 (i.y.n:Int),.bool i.z.c,.int .i64 (i.z.n:Int),.int .i64 (i.bin:Int),.int .i64 (i.var:Int),.int .i64 (i.site:Int),.int .i64 (i.call:Int),.slice aa i.args.length ac,.int .i64 (i.to:Int)] (.int .i64 (0:Int)) wi from⟨0,x,rfl,Nat.zero_le _,hx,HPi.out,by rw[List.drop_zero],HIB.out⟩)
       clear hon h7 HSK hMd
       go_wp2_with fail
       clear hibc hibl
       have hxM:=hx
       obtain⟨M,hMe⟩:∃ M,M=ze2 st i.fn x i.args:=⟨_,rfl⟩
       have hMlt:M<2 ^ 48:=by rw[hMe];exact zqe HSM.out _ _ _ hx
       rw[← hMe]at HME ST3
       clear hMe hbi HP HPi HFi HFr HIB hx hxM
       obtain⟨_,kfn,_,_,_,_,_,_,kar,kal⟩:=HIO.out k i HI.out
       go_loopw [69] (fun v69 wr=>EcA VF.fb wf V st w i M ib #[.int .i64 (i.op:Int),.int .i64 i.place,.int .i64 (i.fn:Int),.int .i64 i.x,.bool i.y.c,.int .i64 (i.y.n:Int),.bool i.z.c,.int .i64 (i.z.n:Int),.int .i64 (i.bin:Int),.int .i64 (i.var:Int),.int .i64 (i.site:Int),.int .i64 (i.call:Int),.slice aa i.args.length ac,.int .i64 (i.to:Int)] v69 wr) (fun v69 _=>i.args.length-(intOf v69).toNat)
       case atStart=>exact ST3.out
       case round =>
        obtain⟨j,y,rfl,hj,hy,hP,hMM,hIB⟩:=hrel
        have HP:=zH hP
        have HMM:=zH hMM
        have HIB:=zH hIB
        clear hP hMM hIB
        by_cases hlt2:j<i.args.length
        ·obtain⟨a,ha⟩:∃ a,i.args[j]? = some a:=⟨_,List.getElem?_eq_getElem hlt2⟩
         obtain⟨ag,hae,hac⟩:=HAR.out j a ha
         subst hae
         have hcc:=hac wr HP.out.p.on
         have hbw:Below wr.heap.size wr (wr.alloc (.cells #[.bool a.c,.int .i64 (a.n:Int)] 306)):=(Below.refl _ _).alloc (Nat.le_refl _) _
         have hba:Blk (wr.alloc (.cells #[.bool a.c,.int .i64 (a.n:Int)] 306)) wr.heap.size 306 #[.bool a.c,.int .i64 (a.n:Int)]:=Blk.newAt rfl
         have HA:=zH ha
         have kan:=kar a (List.mem_of_getElem? ha)
         clear ha hac
         go_wp2_with fail
         generalize hW:(wr.alloc (.cells #[.bool a.c,.int .i64 (a.n:Int)] 306))=wa at hbw hba ⊢
         clear hW hcc
         have HPa:=zH (HP.out.below hbw)
         have HBA:=zH hba
         have HIBa:=zH (HIB.out.below hbw HIB.out.lt)
         have HSS:=zH (show ∀ W',Below wa.heap.size wa W'→(∀ j,W'.cell? ⟨V.sb,j,none⟩=#[.pointer (some ⟨VF.fb,0,none⟩),.map (some V.hb),.map (some V.tb),.map (some V.ub),zaa y][j]?)∧W'.cell? ⟨w.heap.size,0,none⟩=some (.pointer (some ⟨V.sb,0,none⟩))∧W'.cell? ⟨ib,2,none⟩=some (.int .i64 (i.fn:Int))∧(∀ j,W'.cell? ⟨wr.heap.size,j,none⟩=#[.bool a.c,.int .i64 (a.n:Int)][j]?)from fun W' hb=>by
          obtain⟨_,_,_,h3⟩:=(HPa.out.below hb).p.m
          exact⟨h3.s.cell,(HPa.out.below hb).bx.cell 0,(HIBa.out.below hb HIBa.out.lt).cell 2,(HBA.out.below hb HBA.out.lt).cell⟩)
         clear hbw hba
         refine zah 13 (fun(W':World)=>(∀ j,W'.cell? ⟨V.sb,j,none⟩=#[.pointer (some ⟨VF.fb,0,none⟩),.map (some V.hb),.map (some V.tb),.map (some V.ub),zaa y][j]?)∧W'.cell? ⟨w.heap.size,0,none⟩=some (.pointer (some ⟨V.sb,0,none⟩))∧W'.cell? ⟨ib,2,none⟩=some (.int .i64 (i.fn:Int))∧(∀ j,W'.cell? ⟨wr.heap.size,j,none⟩=#[.bool a.c,.int .i64 (a.n:Int)][j]?)) (by kernel_rfl) rfl rfl (by kernel_rfl) ?_
         simp only[List.take_succ_cons,List.take_zero]
         have hHeld:=HSS.out wa.drew (Below.refl _ _).drew
         iterate 8(refine tk 0 rfl (by kernel_rfl) (fun _ _ _ h=>h) hHeld (fun w hSw=>by go_simp;try with_reducible rfl) (by simp only[pA,pB,pC,pD,pE,pF,pG,pH];exact rfl) ?_)
         refine rdy 8 (by kernel_rfl) rfl fun K hK=>?_
         go_simp
         refine(zl0 wf.heap.size VF.fb wf V st y i.fn a wa.drew (HPa.out.p.below (Below.refl _ _).drew) kfn kan).mono ?_
         rintro e w5 ⟨rfl,hb5⟩
         have hb5':Below wa.heap.size wa w5:=(Below.refl _ wa).drew.trans (hb5.mono (Nat.le_refl _))
         refine hK.out _ _ (HSS.out w5 hb5') (fun hHeld=>?_)
         clear hK K
         have hor:=zgn y (argO st i.fn a) hy (zj5 HSM.out _ _)
         iterate 4(refine tk 9 rfl (by kernel_rfl) (fun _ _ _ h=>h) hHeld (fun w hSw=>by go_simp;try with_reducible rfl) (by simp only[pA,pB,pC,pD,pE,pF,pG,pH];exact rfl) ?_)
         have HP5:=zH (HPa.out.below hb5')
         obtain⟨_,_,_,hm5⟩:=HP5.out.p.m
         have hsb:=hm5.s
         have hsc:=hsb.cell
         have hsf:=hsb.frozen
         unfold zeh at hsc
         clear hm5
         refine lst (by kernel_rfl) rfl fun K hK=>?_
         go_simp
         refine hK _ _ ?_
         clear hK K hHeld
         have REL:=zH (show EcA VF.fb wf V st w i M ib _ (.int .i64 ((j+1:Nat):Int)) (w5.setCell ⟨V.sb,4,none⟩ (zaa (y|||argO st i.fn a)))from
          ⟨j+1,_,rfl,hlt2,Nat.or_lt_two_pow hy (zj5 HSM.out _ _),HP5.out.setOut _,by rw[← HMM.out,zcc HA.out,ze2],(HIBa.out.below hb5' HIBa.out.lt).far (p:=⟨V.sb,4,none⟩) ((HIBa.out.below hb5' HIBa.out.lt).ne_ hsb (by decide)) _⟩)
         clear hsb hsc hsf hor hb5 hb5'
         go_wp2_with fail
         go_roundw
         case rel=>rw[show((j:Int)+1)=((j+1:Nat):Int) by omega];exact REL.out
         case measure=>simp only[intOf];omega
        ·obtain rfl:j=i.args.length:=by omega
         have hye:y=M:=by rw[← HMM.out,List.drop_length,ze2]
         rw[hye]at HP
         have REL:=zH (show EcC VF.fb wf V st w C.P (onB C.P) (.int .i64 ((k+1:Nat):Int)) wr from⟨k+1,M,rfl,hlt,hMlt,HP.out,HME.out⟩)
         clear hye HMM
         go_wp2_with fail
         go_roundw
         case rel=>rw[show((k:Int)+1)=((k+1:Nat):Int) by omega];exact REL.out
         case measure=>simp only[intOf];omega
      ·have o7:((i.op:Int)==7)=false:=zai (by omega)
       have REL:=zH (HSK.out true (by rw[decide_eq_false h7,Bool.and_false]))
       clear hon HSK h7
       go_wp2_with fail
       go_roundw
       case rel=>rw[show((k:Int)+1)=((k+1:Nat):Int) by omega];exact REL.out
       case measure=>simp only[intOf];omega
    ·obtain rfl:k=C.P.code.length:=by omega
     have hxe:x=out0 C.P (onB C.P) st:=by rw[← HM.out,List.drop_length,zgh]
     subst hxe
     clear hsb hfc hpc hsc HFr
     go_wp2_with fail
     have hbr:Below wr.heap.size wr (wr.alloc (.cells #[.func (.func 282) #[] #[.pointer (some ⟨w.heap.size,0,none⟩)]] 37)):=(Below.refl _ _).alloc (Nat.le_refl _) _
     refine(zx1 (HP.out.below hbr).p hx w.heap.size wr.heap.size (HP.out.below hbr).bx (Blk.newAt rfl)).mono ?_
     rintro e w9 ⟨rfl,y,hp9,hy9,ho9⟩
     have FIN:=zH (show ∃ x,PtAt wf.heap.size VF.fb wf V st x w9∧x<2 ^ 48∧∀ o,x.testBit o=true↔OutP st (out0 C.P (onB C.P) st) o from⟨y,hp9,hy9,ho9⟩)
     clear hp9 hy9 ho9 hbr
     go_wp2_with fail
     first | go_end0 | refine bodyPost_ret (results_none rfl _ _ _) rfl ?_
     exact⟨rfl,FIN.out⟩
end
section
open Go.RowKit Go.Maps Go.ChangeMaps Go.Shelf
set_option linter.unusedSimpArgs false
def zg1 (on:Nat→Bool):List In→Nat→PS→PS
 | [],_,st=>st
 | i::l,k,st=>zg1 on l (k+1) (if on k then zak st i else st)
noncomputable def zhi (P:Pr):PS:=zg1 (onB P) P.code 0 PS.none
structure PtsIs (P:Pr)(st:PS)(x:Nat):Prop where
 ho:∀ n k,(st.ho n).testBit k=true↔zei (zhi P) n false k
 ht:∀ n k,(st.ht n).testBit k=true↔zei (zhi P) n true k
 sm:∀ n,st.ho n<2 ^ 48∧st.ht n<2 ^ 48
 out:∀ o,x.testBit o=true↔OutP st (out0 P (onB P) st) o
 xs:x<2 ^ 48
theorem PtU.sub {U U':List Nd}{st:PS}(h:PtU U st)(hs:∀ n ∈ U,n ∈ U'):PtU U' st :=
 ⟨fun a b e=>⟨hs _ (h.ed a b e).1,hs _ (h.ed a b e).2⟩,fun n u hu=>⟨(h.us n u hu).1,(h.us n u hu).2.1,hs _ (h.us n u hu).2.2.1,fun o ho=>hs _ ((h.us n u hu).2.2.2 o ho)⟩,h.ul⟩
def UEx (st:PS):Prop:=∃ U,PtU U st
theorem UEx.edge {st:PS}(h:UEx st)(a b:Nd):UEx (zbd st a b):=by
 obtain⟨U,h⟩:=h
 exact⟨a::b::U,(h.sub fun n hn=>List.mem_cons_of_mem _ (List.mem_cons_of_mem _ hn)).edge (by simp) (by simp)⟩
theorem UEx.grow {st:PS}(h:UEx st)(n:Nd)(o t:Nat):UEx (zcj st n o t):=by
 obtain⟨U,h⟩:=h
 exact⟨U,h.grow n o t⟩
theorem UEx.from {st:PS}(h:UEx st)(fn:Nat)(a:Ar)(n:Nd):UEx (zb8 st fn a n):=by
 unfold zb8
 split
 ·exact h
 ·exact h.edge _ _
theorem UEx.args (fn call:Nat):∀ (l:List Ar) (k:Nat) (st:PS),UEx st→UEx (zcp st fn call l k)
 | [],_,_,h=>h
 | _::l,k,_,h=>UEx.args fn call l (k+1) _ (h.from _ _ _)
theorem UEx.use {st:PS}(h:UEx st)(n:Nd)(u:Use)(hn:NdOk u.n)(hf:u.f<1000000)(hl:(st.us n).length<999):UEx (useM st n u):=by
 obtain⟨U,h⟩:=h
 have hs:∀ m ∈ U,m ∈ u.n::((List.range 48).map fun o=>(⟨102,o,u.f⟩:Nd))++U:=fun m hm=>List.mem_append.2 (.inr hm)
 refine⟨_,⟨fun a b e=>⟨hs _ (h.ed a b e).1,hs _ (h.ed a b e).2⟩,fun m v hv=>?_,fun m=>?_⟩⟩
 ·simp only[useM]at hv
  have old:v ∈ st.us m→NdOk v.n∧v.f<1000000∧v.n ∈ u.n::((List.range 48).map fun o=>(⟨102,o,u.f⟩:Nd))++U∧∀ o:Nat,o<48→(⟨102,o,v.f⟩:Nd) ∈ u.n::((List.range 48).map fun o=>(⟨102,o,u.f⟩:Nd))++U:=fun hv =>
   ⟨(h.us m v hv).1,(h.us m v hv).2.1,hs _ (h.us m v hv).2.2.1,fun o ho=>hs _ ((h.us m v hv).2.2.2 o ho)⟩
  split at hv
  ·rcases List.mem_append.1 hv with hv | hv
   ·exact old hv
   ·have e:v=u:=by simpa using hv
    subst e
    exact⟨hn,hf,by simp,fun o ho=>List.mem_append.2 (.inl (List.mem_cons_of_mem _ (List.mem_map.2 ⟨o,List.mem_range.2 ho,rfl⟩)))⟩
  ·exact old hv
 ·simp only[useM]
  split
  ·rename_i e
   subst e
   rw[List.length_append]
   simp
   omega
  ·exact h.ul m
theorem zms (st:PS)(fn:Nat)(a:Ar)(n:Nd):(zb8 st fn a n).us=st.us:=by
 unfold zb8
 split <;> rfl
theorem ruleM_ok {st:PS}{i:In}{k:Nat}(hi:InOk i)(h:UEx st)(hk:k<900)(hl:∀ n,(st.us n).length≤k):UEx (zak st i)∧∀ n,((zak st i).us n).length≤k+1:=by
 have hl1:∀ n,(st.us n).length≤k+1:=fun n=>Nat.le_trans (hl n) (Nat.le_succ _)
 have hd:NdOk (loc i.fn i.x):=⟨by show 108<256;omega,hi.fn,hi.x⟩
 have hy:NdOk (loc i.fn i.y.n):=⟨by show 108<256;omega,hi.fn,by have:=hi.y;show -1000000<(i.y.n:Int);omega,by have:=hi.y;show(i.y.n:Int)<1000000;omega⟩
 have hu:∀ (n:Nd) (u:Use) m,((useM st n u).us m).length≤k+1:=fun n u m=>by
  simp only[useM]
  split
  ·rw[List.length_append];have:=hl m;simp;omega
  ·exact hl1 m
 have hlu:∀ n,(st.us n).length<999:=fun n=>by have:=hl n;omega
 by_cases h1:i.op=1
 ·by_cases hb:i.bin=0
  ·have e:zak st i=zb8 st i.fn i.y (loc i.fn i.x):=by unfold zak;rw[if_pos h1,if_pos hb]
   rw[e];exact⟨h.from _ _ _,fun n=>by rw[zms];exact hl1 n⟩
  ·have e:zak st i=st:=by unfold zak;rw[if_pos h1,if_neg hb]
   rw[e];exact⟨h,hl1⟩
 by_cases h2:i.op=2
 ·have e:zak st i=zbd st ⟨118,i.var,0⟩ (loc i.fn i.x):=by unfold zak;rw[if_neg h1,if_pos h2]
  rw[e];exact⟨h.edge _ _,hl1⟩
 by_cases h3:i.op=3
 ·have e:zak st i=zb8 st i.fn i.y ⟨118,i.var,0⟩:=by unfold zak;rw[if_neg h1,if_neg h2,if_pos h3]
  rw[e];exact⟨h.from _ _ _,fun n=>by rw[zms];exact hl1 n⟩
 by_cases h6:i.op=6
 ·have e:zak st i=zcj st (loc i.fn i.x) (2 ^ i.site) 0:=by unfold zak;rw[if_neg h1,if_neg h2,if_neg h3,if_pos h6]
  rw[e];exact⟨h.grow _ _ _,hl1⟩
 by_cases h4:i.op=4
 ·have e:zak st i=if i.y.c then st else useM st (loc i.fn i.y.n) ⟨i.var,loc i.fn i.x,false⟩:=by unfold zak;rw[if_neg h1,if_neg h2,if_neg h3,if_neg h6,if_pos h4]
  rw[e]
  cases i.y.c
  ·exact⟨h.use _ _ hd hi.var (hlu _),hu _ _⟩
  ·exact⟨h,hl1⟩
 by_cases h5:i.op=5
 ·have e:zak st i=if i.y.c then st else useM st (loc i.fn i.x) ⟨i.var,loc i.fn i.y.n,true⟩:=by unfold zak;rw[if_neg h1,if_neg h2,if_neg h3,if_neg h6,if_neg h4,if_pos h5]
  rw[e]
  cases i.y.c
  ·exact⟨h.use _ _ hy hi.var (hlu _),hu _ _⟩
  ·exact⟨h,hl1⟩
 by_cases h12:i.op=12
 ·have e:zak st i=zb8 st i.fn i.y ⟨114,i.fn,0⟩:=by unfold zak;rw[if_neg h1,if_neg h2,if_neg h3,if_neg h6,if_neg h4,if_neg h5,if_pos h12]
  rw[e];exact⟨h.from _ _ _,fun n=>by rw[zms];exact hl1 n⟩
 by_cases h7:i.op=7∨i.op=11
 ·have e:zak st i=(if i.x<0 then zcp st i.fn i.call i.args 0 else if i.op=7 then zcj (zcp st i.fn i.call i.args 0) (loc i.fn i.x) 0 (2 ^ i.site)else zbd (zcp st i.fn i.call i.args 0) ⟨114,i.call,0⟩ (loc i.fn i.x)):=by unfold zak;rw[if_neg h1,if_neg h2,if_neg h3,if_neg h6,if_neg h4,if_neg h5,if_neg h12,if_pos h7]
  rw[e]
  have e2:=UEx.args i.fn i.call i.args 0 st h
  have e3:∀ n,((zcp st i.fn i.call i.args 0).us n).length≤k+1:=fun n=>by rw[zr1];exact hl1 n
  by_cases hx:i.x<0
  ·rw[if_pos hx];exact⟨e2,e3⟩
  rw[if_neg hx]
  by_cases ho:i.op=7
  ·rw[if_pos ho];exact⟨e2.grow _ _ _,e3⟩
  ·rw[if_neg ho];exact⟨e2.edge _ _,e3⟩
 ·have e:zak st i=st:=by unfold zak;rw[if_neg h1,if_neg h2,if_neg h3,if_neg h6,if_neg h4,if_neg h5,if_neg h12,if_neg h7]
  rw[e];exact⟨h,hl1⟩
theorem UEx.none:UEx PS.none:=⟨[],⟨fun _ _ h=>(by cases h),fun _ _ h=>(by cases h),fun _=>by simp[PS.none]⟩⟩
theorem zwm (args:Array Value)(w:World):(callFunc 225 args).run Tryz.prog w=.ok (.enter 225 args) w:=enters_of Tryz.func225 (by kernel_rfl) rfl args w
theorem zui (args:Array Value)(w:World):(callFunc 226 args).run Tryz.prog w=.ok (.enter 226 args) w:=enters_of Tryz.func226 (by kernel_rfl) rfl args w
theorem fix_sets {U:List Nd}{st0:PS}{fb out:Nat}{wf w:World}{V:PtV}(h:PtAt wf.heap.size fb wf V st0 out w)(hu:PtU U st0)(rb:Nat)
  (hr:Blk w rb 37 #[.func (.func 225) #[.pointer (some ⟨V.sb,0,none⟩)] #[],.func (.func 226) #[.pointer (some ⟨V.sb,0,none⟩)] #[]]) :
  Calls Tryz.prog 221 #[.slice (some ⟨rb,0,none⟩) 2 2] w fun e w'=>e=.returned (.tuple #[])∧∃ st,PtAt wf.heap.size fb wf V st out w'∧(∀ n k,(st.ho n).testBit k=true↔zei st0 n false k)∧(∀ n k,(st.ht n).testBit k=true↔zei st0 n true k):=by
 refine(zkb (zct U st0 fb wf w V out) (zc6 U) [⟨225,#[.pointer (some ⟨V.sb,0,none⟩)],#[]⟩,⟨226,#[.pointer (some ⟨V.sb,0,none⟩)],#[]⟩] [FdCl,SpCl] rb 2 w st0 rfl (by simp) ⟨h,hu,PSnd.refl st0,NmFr.refl w⟩ ?_ ?_).mono ?_
 ·intro s W hI j r hj
  have hb:=hr.nm hI.n
  cases j with
  | zero=>simp at hj;subst hj;exact hb.cell 0
  | succ j=>cases j with
   | zero=>simp at hj;subst hj;exact hb.cell 1
   | succ j=>simp at hj
 ·intro j r c hj hc
  cases j with
  | zero =>
   simp at hj hc
   subst hj hc
   exact⟨zwm,fun s W hI=>zva U st0 fb wf w V out s W hI⟩
  | succ j=>cases j with
   | zero =>
    simp at hj hc
    subst hj hc
    exact⟨zui,fun s W hI=>zxl U st0 fb wf w V out s W hI⟩
   | succ j=>simp at hj
 ·rintro e w' ⟨st,rfl,hI,hcl⟩
  exact⟨rfl,st,hI.p,hI.s.done (hcl SpCl (by simp)) (hcl FdCl (by simp))⟩
def PoR (C:AX)(VF:FV)(w:World)(V:PtV)(v19:Value)(W:World):Prop :=
 ∃ (k:Nat) (st:PS),v19=.int .i64 k∧k≤C.P.code.length∧PtAt w.heap.size VF.fb w V st 0 W∧UEx st∧(∀ n,(st.us n).length≤k)∧zg1 (onB C.P) (C.P.code.drop k) k st=zhi C.P
def zoq (C:AX)(VF:FV)(w:World)(e:Ending)(w':World):Prop :=
 ∃ (V:PtV) (st:PS) (x:Nat),e=.returned (.pointer (some ⟨V.sb,0,none⟩))∧PtAt w.heap.size VF.fb w V st x w'∧PtsIs C.P st x∧Below w.heap.size w w'
theorem zx6 (C:AX)(w:World)(VF:FV)(Rs Bs:List Nat)(hF:zec C w VF Rs Bs)(hio:∀ (k:Nat) (i:In),C.P.code[k]? = some i→InOk i) :
  Calls Tryz.prog 152 #[.pointer (some ⟨VF.fb,0,none⟩)] w (zoq C VF w):=by
 have HF:=zH (fun(W':World) (hb:Below w.heap.size w W')=>(hF.below hb (Nat.le_refl _)).f.h)
 have hcl:=hF.f.h.c.wf.cl
 have HC:=hF.f.h.c
 have HFX:=zH hF
 have HIO:=zH hio
 clear hio hF
 have hmf:∀ (fn:Fn) (first cap:Array Value) (w:World),(Instr.makeFunc fn first cap).run Tryz.prog w=.ok (.func fn first cap) w:=fun _ _ _ _=>rfl
 have hmm:=@run_makeMap Tryz.prog
 have hb0:Below w.heap.size w ((((w.alloc (.map #[] 0)).alloc (.map #[] 0)).alloc (.map #[] 0)).alloc (.cells #[.pointer (some ⟨VF.fb,0,none⟩),.map (some w.heap.size),.map (some (w.heap.size+1)),.map (some (w.heap.size+1+1)),.int .u64 0] 383)):=((((Below.refl _ _).alloc (Nat.le_refl _) _).alloc (by simp) _).alloc (by simp;omega) _).alloc (by simp;omega) _
 obtain⟨hfc,hpc⟩:=(HF.out _ hb0).cells
 have hPM:PtM ((((w.alloc (.map #[] 0)).alloc (.map #[] 0)).alloc (.map #[] 0)).alloc (.cells #[.pointer (some ⟨VF.fb,0,none⟩),.map (some w.heap.size),.map (some (w.heap.size+1)),.map (some (w.heap.size+1+1)),.int .u64 0] 383)) w.heap.size VF.fb ⟨w.heap.size+1+1+1,w.heap.size,w.heap.size+1,w.heap.size+1+1⟩ PS.none 0 [] [] []:=by
  have m1:∀ {ν : Type} {encv:ν → Value},zaf ((((w.alloc (.map #[] 0)).alloc (.map #[] 0)).alloc (.map #[] 0)).alloc (.cells #[.pointer (some ⟨VF.fb,0,none⟩),.map (some w.heap.size),.map (some (w.heap.size+1)),.map (some (w.heap.size+1+1)),.int .u64 0] 383)) w.heap.size ndV NdOk encv []:=fun {ν encv}=>zaf.alloc (zaf.alloc (zaf.alloc (zaf.made w ndV NdOk encv) _) _) _
  have m2:∀ {ν : Type} {encv:ν → Value},zaf ((((w.alloc (.map #[] 0)).alloc (.map #[] 0)).alloc (.map #[] 0)).alloc (.cells #[.pointer (some ⟨VF.fb,0,none⟩),.map (some w.heap.size),.map (some (w.heap.size+1)),.map (some (w.heap.size+1+1)),.int .u64 0] 383)) (w.heap.size+1) ndV NdOk encv []:=fun {ν encv}=>zaf.alloc (zaf.alloc (by have:=zaf.made (w.alloc (.map #[] 0)) ndV NdOk encv;rwa [World.size_alloc]at this) _) _
  have m3:∀ {ν : Type} {encv:ν → Value},zaf ((((w.alloc (.map #[] 0)).alloc (.map #[] 0)).alloc (.map #[] 0)).alloc (.cells #[.pointer (some ⟨VF.fb,0,none⟩),.map (some w.heap.size),.map (some (w.heap.size+1)),.map (some (w.heap.size+1+1)),.int .u64 0] 383)) (w.heap.size+1+1) ndV NdOk encv []:=fun {ν encv}=>zaf.alloc (by have:=zaf.made ((w.alloc (.map #[] 0)).alloc (.map #[] 0)) ndV NdOk encv;rwa [World.size_alloc,World.size_alloc]at this) _
  exact⟨Blk.newAt (by simp),m1,fun _=>rfl,m2,by simp,fun _ _ h=>by simp at h,fun _ _ _=>rfl,m3,fun _ _ h=>by simp at h,fun _ _ _ _ h=>by simp at h,fun _ _=>rfl,⟨by show w.heap.size≤w.heap.size+1+1+1;omega,Nat.le_refl _,by show w.heap.size≤w.heap.size+1;omega,by show w.heap.size≤w.heap.size+1+1;omega⟩,
   ⟨by show w.heap.size≠w.heap.size+1;omega,by show w.heap.size≠w.heap.size+1+1;omega,by show w.heap.size+1≠w.heap.size+1+1;omega⟩,fun _=>⟨by simp[PS.none],by simp[PS.none]⟩⟩
 have ST:=zH (show PoR C VF w ⟨w.heap.size+1+1+1,w.heap.size,w.heap.size+1,w.heap.size+1+1⟩ (.int .i64 (0:Int)) ((((w.alloc (.map #[] 0)).alloc (.map #[] 0)).alloc (.map #[] 0)).alloc (.cells #[.pointer (some ⟨VF.fb,0,none⟩),.map (some w.heap.size),.map (some (w.heap.size+1)),.map (some (w.heap.size+1+1)),.int .u64 0] 383))from⟨0,PS.none,rfl,Nat.zero_le _,⟨hb0,hb0.size,_,_,_,hPM⟩,UEx.none,fun n=>by simp[PS.none],by rw[List.drop_zero];rfl⟩)
 clear hPM hb0
 go_enter Tryz.func152,Tryz.ntmps152
 go_wp2_with fail
 obtain⟨V,hV⟩:∃ V:PtV,V=⟨w.heap.size+1+1+1,w.heap.size,w.heap.size+1,w.heap.size+1+1⟩:=⟨_,rfl⟩
 rw[← hV]at ST
 have hVs:w.heap.size+1+1+1=V.sb:=by rw[hV]
 generalize hW:((((w.alloc (.map #[] 0)).alloc (.map #[] 0)).alloc (.map #[] 0)).alloc (.cells #[.pointer (some ⟨VF.fb,0,none⟩),.map (some w.heap.size),.map (some (w.heap.size+1)),.map (some (w.heap.size+1+1)),.int .u64 0] 383))=w1 at hfc hpc ST ⊢
 simp only[hVs]
 clear hW hV hVs hfc hpc hmm
 go_loopw [19] (fun v19 wr=>PoR C VF w V v19 wr) (fun v19 _=>C.P.code.length-(intOf v19).toNat)
 case atStart=>exact ST.out
 case round =>
  obtain⟨k,st,rfl,hk,hP,hU,hL,hM⟩:=hrel
  have HP:=zH hP
  have HU:=zH hU
  have HL:=zH hL
  have HM:=zH hM
  have HFr:=zH (HF.out wr hP.on)
  obtain⟨hfc,hpc⟩:=HFr.out.cells
  have hfl:=HFr.out.f.lt
  clear hP hU hL hM
  by_cases hlt:k<C.P.code.length
  ·obtain⟨i,hi⟩:∃ i,C.P.code[k]? = some i:=⟨_,List.getElem?_eq_getElem hlt⟩
   have HI:=zH hi
   have hMd:=zH (show zg1 (onB C.P) (C.P.code.drop (k+1)) (k+1) (if onB C.P k then zak st i else st)=zhi C.P from by rw[← HM.out,zcc hi,zg1])
   clear hi HM
   go_wp2_with fail
   refine(hasE _ VF.onb k (onB C.P) HFr.out.on (by omega)).mono ?_
   rintro e w2 ⟨rfl,rfl⟩
   cases hon:onB C.P k
   ·have REL:=zH (show PoR C VF w V (.int .i64 ((k+1:Nat):Int)) wr from⟨k+1,st,rfl,hlt,HP.out,HU.out,fun n=>Nat.le_trans (HL.out n) (Nat.le_succ _),by have:=hMd.out;rw[hon]at this;exact this⟩)
    clear hon
    go_wp2_with fail
    go_roundw
    case rel=>rw[show((k:Int)+1)=((k+1:Nat):Int) by omega];exact REL.out
    case measure=>simp only[intOf];omega
   ·have hok:=ruleM_ok (HIO.out k i HI.out) HU.out (by omega) HL.out
    have HOK:=zH hok
    have HRL:=zH (rule_any C HC w (HF.out w (Below.refl _ _)).onw VF.fb V st 0 k i HI.out (HIO.out k i HI.out) wr HP.out (fun n=>by have:=HL.out n;omega))
    have HMe:=zH (show zg1 (onB C.P) (C.P.code.drop (k+1)) (k+1) (zak st i)=zhi C.P from by have:=hMd.out;rw[hon]at this;exact this)
    clear hok hon hMd
    go_wp2_with fail
    refine HRL.out.mono ?_
    rintro e w3 ⟨rfl,hp3⟩
    have REL:=zH (show PoR C VF w V (.int .i64 ((k+1:Nat):Int)) w3 from⟨k+1,_,rfl,hlt,hp3,HOK.out.1,HOK.out.2,HMe.out⟩)
    clear hp3 hfc hpc hfl
    go_wp2_with fail
    go_roundw
    case rel=>rw[show((k:Int)+1)=((k+1:Nat):Int) by omega];exact REL.out
    case measure=>simp only[intOf];omega
  ·obtain rfl:k=C.P.code.length:=by omega
   have hst:st=zhi C.P:=by rw[← HM.out,List.drop_length,zg1]
   rw[hst]at HP HU
   clear hst HL HM
   obtain⟨U,hU⟩:=HU.out
   have hbr:Below wr.heap.size wr (wr.alloc (.cells #[.func (.func 225) #[.pointer (some ⟨V.sb,0,none⟩)] #[],.func (.func 226) #[.pointer (some ⟨V.sb,0,none⟩)] #[]] 37)):=(Below.refl _ _).alloc (Nat.le_refl _) _
   have HX:=zH (fix_sets (HP.out.below hbr) hU wr.heap.size (Blk.newAt rfl))
   clear hbr hU
   go_wp2_with fail
   refine HX.out.mono ?_
   rintro e w5 ⟨rfl,st,hp5,hho,hht⟩
   have HES:=zH (zu7 C w VF Rs Bs HFX.out V st w5 hp5 HIO.out)
   have HHO:=zH hho
   have HHT:=zH hht
   have HP5:=zH hp5
   clear hp5 hho hht hfc hpc hfl
   go_wp2_with fail
   refine HES.out.mono ?_
   rintro e w6 ⟨rfl,x,hp6,hx6,ho6⟩
   have FIN:=zH (show zoq C VF w (.returned (.pointer (some ⟨V.sb,0,none⟩))) w6 from⟨V,st,x,rfl,hp6,⟨HHO.out,HHT.out,by
    obtain⟨_,_,_,h3⟩:=hp6.m
    exact h3.sm,ho6,hx6⟩,hp6.on⟩)
   clear hp6 hx6 ho6
   go_wp2_with fail
   go_ret
   exact FIN.out
end
end Go.Proofs.YtkmcihhndgdhpaaGreat
