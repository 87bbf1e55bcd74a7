/- RpA RpB RpC RpD: parts of the walk. -/
import Derived.Test.YtkmcihhndgdhpaaGreatWB4
set_option maxRecDepth 100000
set_option maxHeartbeats 4000000
set_option linter.unusedSimpArgs false
set_option linter.unusedVariables false
namespace Go.Proofs.YtkmcihhndgdhpaaGreat
section
open Go.RowKit Go.Maps Go.ChangeMaps Go.Shelf
set_option linter.unusedSimpArgs false
structure JV where
 C:AX
 VF:FV
 VP:PtV
 V:LkV
 wp:World
 st:PS
 x:Nat
 Rs:List Nat
 Bs:List Nat
 f:LF
 jb:Nat
 B:Nat
 sa:Option Addr
 sc:Nat
 rg:Nat
 rc:Nat
 ba:Option Addr
 bc:Nat
 r0:Nat
 ga:Option Addr
 gc:Nat
structure WfRp (P:Pr):Prop where
 io:∀ (k:Nat) (i:In),P.code[k]? = some i→InOk i
 put:∀ (k:Nat) (i:In),P.code[k]? = some i→i.op=5→0≤i.x
 gs:∀ (s k:Nat),P.gos[s]? = some k→k<P.code.length
structure zke (J:JV)(W:World):Prop where
 c:AXok J.C
 w:WfRp J.C.P
 l:LkSee J.C J.VF J.sa J.sc J.rg J.rc J.ba J.bc J.r0 J.Bs W
 j:Blk W J.jb 304 #[.pointer (some ⟨J.C.pb,0,none⟩),.pointer (some ⟨J.VF.fb,0,none⟩),.pointer (some ⟨J.VP.sb,0,none⟩),.pointer (some ⟨J.V.xb,0,none⟩)]
 p:PtAt J.wp.heap.size J.VF.fb J.wp J.VP J.st J.x W
 xo:W.cell? ⟨J.VP.sb,4,none⟩=some (zaa J.x)
 x48:J.x<2 ^ 48
 k:LkM W J.B J.VF.fb J.VP.sb J.C.P J.V J.f
 rl:J.Rs.length=J.C.P.gos.length+1
 rcl:J.C.P.gos.length+1≤J.rc
 bl:J.Bs.length=J.C.P.gos.length
 rts:∀ (i rb:Nat),J.Rs[i]? = some rb→W.cell? ⟨J.rg,i,none⟩=some (.map (some rb))∧MkE W rb (rsB J.C.P i)
 gv:J.C.X.gv=.slice J.ga J.C.P.gos.length J.gc
 gos:∀ (s k:Nat),J.C.P.gos[s]? = some k→∃ gb,J.ga=some ⟨gb,0,none⟩∧W.cell? ⟨gb,s,none⟩=some (.int .i64 (k:Int))
def JgOn (J:JV)(wj:World):Prop:=∀ W,Below wj.heap.size wj W→zke J W
section
variable {J:JV} {wj w w':World}
theorem JgOn.from (h:JgOn J wj)(hb:Below wj.heap.size wj w):JgOn J w:=fun W hW=>h W (hb.trans (hW.mono hb.size))
end
def zc7 (op:Nat):Bool:=op==3||op==5
theorem zql (op:Nat)(w:World)(h:op<1000000) :
  Calls Tryz.prog 233 #[.int .i64 (op:Int)] w fun e w'=>e=.returned (.bool (zc7 op))∧w=w':=by
 by_cases h3:op=3
 ·have o3:((op:Int)==3)=true:=by rw[h3];rfl
  have hM:zc7 op=true:=by simp[zc7,h3]
  have FIN:=zH hM
  clear hM h3
  go_enter Tryz.func233,Tryz.ntmps233
  go_wp2_with fail
  go_ret
  rw[FIN.out]
  simp
 ·have o3:((op:Int)==3)=false:=zai (by omega)
  have hM:zc7 op=((op:Int)==5):=by
   by_cases h5:op=5
   ·simp[zc7,h5]
   ·rw[zai (by omega)];simp[zc7,h3,h5]
  have FIN:=zH hM
  clear hM h3
  cases o5:((op:Int)==5)
  ·rw[o5]at FIN
   go_enter Tryz.func233,Tryz.ntmps233
   go_wp2_with fail
   go_ret
   rw[FIN.out]
   simp
  ·rw[o5]at FIN
   go_enter Tryz.func233,Tryz.ntmps233
   go_wp2_with fail
   go_ret
   rw[FIN.out]
   simp
def zc0 (P:Pr)(st:PS)(x:Nat)(i:In):Int×Nat×Nat :=
 if i.op=2∨i.op=3 then(-1,i.var,0)
 else if i.op=4 then(0,i.var,argO st i.fn i.y&&&x)
 else(0,i.var,argO st i.fn ⟨false,i.x.toNat⟩&&&x)
def zj9 (r:Int×Nat×Nat)(w:World)(e:Ending)(w':World):Prop:=e=.returned (.tuple #[.int .i64 r.1,.int .i64 (r.2.1:Int),zaa r.2.2])∧Below w.heap.size w w'
theorem zoz (J:JV)(wj w:World)(k:Nat)(i:In)(H:JgOn J wj)(hb:Below wj.heap.size wj w)(hi:J.C.P.code[k]? = some i)(hop:2≤i.op∧i.op≤5) :
  Calls Tryz.prog 286 #[.pointer (some ⟨J.jb,0,none⟩),.int .i64 (k:Int)] w (zj9 (zc0 J.C.P J.st J.x i) w):=by
 obtain⟨C,VF,VP,V,wp,st,x,Rs,Bs,f,jb,B,sa,sc,rg,rc,ba,bc,r0,ga,gc⟩:=J
 dsimp only at hi ⊢
 have H0:=zH (fun(W:World) (hW:Below w.heap.size w W)=>H W (hb.trans (hW.mono hb.size)))
 have HS:=zH (H w hb)
 clear H hb
 have HC:=HS.out.c
 obtain⟨aa,ac,hic,har,hkl⟩:=HC.icells HS.out.l.onw hi
 have i0:w.cell? ⟨C.cg,k*14,none⟩=some (.int .i64 i.op):=hic 0 (by omega)
 have i1:w.cell? ⟨C.cg,k*14+1,none⟩=some (.int .i64 i.place):=hic 1 (by omega)
 have i2:w.cell? ⟨C.cg,k*14+2,none⟩=some (.int .i64 i.fn):=hic 2 (by omega)
 have i3:w.cell? ⟨C.cg,k*14+3,none⟩=some (.int .i64 i.x):=hic 3 (by omega)
 have i4:w.cell? ⟨C.cg,k*14+4,none⟩=some (.bool i.y.c):=hic 4 (by omega)
 have i5:w.cell? ⟨C.cg,k*14+5,none⟩=some (.int .i64 i.y.n):=hic 5 (by omega)
 have i6:w.cell? ⟨C.cg,k*14+6,none⟩=some (.bool i.z.c):=hic 6 (by omega)
 have i7:w.cell? ⟨C.cg,k*14+7,none⟩=some (.int .i64 i.z.n):=hic 7 (by omega)
 have i8:w.cell? ⟨C.cg,k*14+8,none⟩=some (.int .i64 i.bin):=hic 8 (by omega)
 have i9:w.cell? ⟨C.cg,k*14+9,none⟩=some (.int .i64 i.var):=hic 9 (by omega)
 have i10:w.cell? ⟨C.cg,k*14+10,none⟩=some (.int .i64 i.site):=hic 10 (by omega)
 have i11:w.cell? ⟨C.cg,k*14+11,none⟩=some (.int .i64 i.call):=hic 11 (by omega)
 have i12:w.cell? ⟨C.cg,k*14+12,none⟩=some (.slice aa i.args.length ac):=hic 12 (by omega)
 have i13:w.cell? ⟨C.cg,k*14+13,none⟩=some (.int .i64 i.to):=hic 13 (by omega)
 have HI:=zH hi
 have hio:=HS.out.w.io k i hi
 have hpc:=HS.out.l.p
 have hjc:=HS.out.j.cell
 have hjl:=HS.out.j.lt
 have hcl:=HC.wf.cl
 have hbi:Below w.heap.size w (w.alloc (.cells #[.int .i64 (i.op:Int),.int .i64 i.place,.int .i64 (i.fn:Int),.int .i64 i.x,.bool i.y.c,.int .i64 (i.y.n:Int),.bool i.z.c,.int .i64 (i.z.n:Int),.int .i64 (i.bin:Int),.int .i64 (i.var:Int),.int .i64 (i.site:Int),.int .i64 (i.call:Int),.slice aa i.args.length ac,.int .i64 (i.to:Int)] 309)):=(Below.refl _ _).alloc (Nat.le_refl _) _
 have hib:Blk (w.alloc (.cells #[.int .i64 (i.op:Int),.int .i64 i.place,.int .i64 (i.fn:Int),.int .i64 i.x,.bool i.y.c,.int .i64 (i.y.n:Int),.bool i.z.c,.int .i64 (i.z.n:Int),.int .i64 (i.bin:Int),.int .i64 (i.var:Int),.int .i64 (i.site:Int),.int .i64 (i.call:Int),.slice aa i.args.length ac,.int .i64 (i.to:Int)] 309)) w.heap.size 309 #[.int .i64 (i.op:Int),.int .i64 i.place,.int .i64 (i.fn:Int),.int .i64 i.x,.bool i.y.c,.int .i64 (i.y.n:Int),.bool i.z.c,.int .i64 (i.z.n:Int),.int .i64 (i.bin:Int),.int .i64 (i.var:Int),.int .i64 (i.site:Int),.int .i64 (i.call:Int),.slice aa i.args.length ac,.int .i64 (i.to:Int)]:=Blk.newAt rfl
 clear hic hi har
 go_enter Tryz.func286,Tryz.ntmps286
 go_upto_block 0 with fail
 have hibc:=hib.cell
 have hibl:=hib.lt
 have HBK:=zH hib
 have HBD:=zH hbi.drew
 have HS2:=zH (H0.out _ hbi.drew)
 generalize w.alloc (.cells #[.int .i64 (i.op:Int),.int .i64 i.place,.int .i64 (i.fn:Int),.int .i64 i.x,.bool i.y.c,.int .i64 (i.y.n:Int),.bool i.z.c,.int .i64 (i.z.n:Int),.int .i64 (i.bin:Int),.int .i64 (i.var:Int),.int .i64 (i.site:Int),.int .i64 (i.call:Int),.slice aa i.args.length ac,.int .i64 (i.to:Int)] 309)=wi at hbi hib hibc hibl HBK HBD HS2 ⊢
 clear hib i0 i1 i2 i3 i4 i5 i6 i7 i8 i9 i10 i11 i12 i13 hpc hjc
 by_cases h23:i.op=2∨i.op=3
 ·have HM:=zH (show zc0 C.P st x i=(-1,i.var,0) by unfold zc0;rw[if_pos h23])
  have FIN:=zH (show ∀ W,Below w.heap.size w W→zj9 (zc0 C.P st x i) w (.returned (.tuple #[.int .i64 (-1),.int .i64 (i.var:Int),zaa 0])) W from fun W hW=>⟨by rw[HM.out],hW⟩)
  by_cases h2:i.op=2
  ·have o2:((i.op:Int)==2)=true:=by rw[h2];rfl
   clear h2 h23
   go_wp2_with fail
   have hHeld:=HBK.out.drew.cell
   refine zah 4 (fun(W':World)=>∀ j,W'.cell? ⟨w.heap.size,j,none⟩=#[.int .i64 (i.op:Int),.int .i64 i.place,.int .i64 (i.fn:Int),.int .i64 i.x,.bool i.y.c,.int .i64 (i.y.n:Int),.bool i.z.c,.int .i64 (i.z.n:Int),.int .i64 (i.bin:Int),.int .i64 (i.var:Int),.int .i64 (i.site:Int),.int .i64 (i.call:Int),.slice aa i.args.length ac,.int .i64 (i.to:Int)][j]?) (by kernel_rfl) rfl rfl (by kernel_rfl) ?_
   simp only[List.take_succ_cons,List.take_zero]
   iterate 4(refine tk 0 rfl (by kernel_rfl) (fun _ _ _ h=>h) hHeld (fun w hSw=>by go_simp;try with_reducible rfl) (by simp only[pA,pB,pC,pD,pE,pF,pG,pH];exact rfl) ?_)
   refine lst (by kernel_rfl) rfl fun K hK=>?_
   go_simp
   refine hK _ _ ?_
   clear hK K hHeld
   go_wp2_with fail
   exact bodyPost_ret (v:=.tuple #[.int .i64 (-1),.int .i64 (i.var:Int),zaa 0]) (by simp[results,Tryz.results286,go_sem]) rfl (FIN.out _ HBD.out)
  ·have o2:((i.op:Int)==2)=false:=zai (by omega)
   have o3:((i.op:Int)==3)=true:=by rw[show i.op=3 by omega];rfl
   clear h2 h23
   go_wp2_with fail
   have hHeld:=HBK.out.drew.cell
   refine zah 4 (fun(W':World)=>∀ j,W'.cell? ⟨w.heap.size,j,none⟩=#[.int .i64 (i.op:Int),.int .i64 i.place,.int .i64 (i.fn:Int),.int .i64 i.x,.bool i.y.c,.int .i64 (i.y.n:Int),.bool i.z.c,.int .i64 (i.z.n:Int),.int .i64 (i.bin:Int),.int .i64 (i.var:Int),.int .i64 (i.site:Int),.int .i64 (i.call:Int),.slice aa i.args.length ac,.int .i64 (i.to:Int)][j]?) (by kernel_rfl) rfl rfl (by kernel_rfl) ?_
   simp only[List.take_succ_cons,List.take_zero]
   iterate 4(refine tk 0 rfl (by kernel_rfl) (fun _ _ _ h=>h) hHeld (fun w hSw=>by go_simp;try with_reducible rfl) (by simp only[pA,pB,pC,pD,pE,pF,pG,pH];exact rfl) ?_)
   refine lst (by kernel_rfl) rfl fun K hK=>?_
   go_simp
   refine hK _ _ ?_
   clear hK K hHeld
   go_wp2_with fail
   exact bodyPost_ret (v:=.tuple #[.int .i64 (-1),.int .i64 (i.var:Int),zaa 0]) (by simp[results,Tryz.results286,go_sem]) rfl (FIN.out _ HBD.out)
 ·have o2:((i.op:Int)==2)=false:=zai (by omega)
  have o3:((i.op:Int)==3)=false:=zai (by omega)
  have hho:=zl2
  have hx48:=HS2.out.x48
  by_cases h4:i.op=4
  ·have o4:((i.op:Int)==4)=true:=by rw[h4];rfl
   have HM:=zH (show zc0 C.P st x i=(0,i.var,argO st i.fn i.y&&&x) by unfold zc0;rw[if_neg h23,if_pos h4])
   have FIN:=zH (show ∀ W,Below w.heap.size w W→zj9 (zc0 C.P st x i) w (.returned (.tuple #[.int .i64 0,.int .i64 (i.var:Int),zaa (argO st i.fn i.y&&&x)])) W from fun W hW=>⟨by rw[HM.out],hW⟩)
   have ho48:argO st i.fn i.y<2 ^ 48:=by
    obtain⟨_,_,_,_,_,hm⟩:=HS2.out.p
    exact zj5 (fun n=>(hm.sm n).1) _ _
   have HAND:=ziw (argO st i.fn i.y) x ho48 hx48
   clear h4 h23
   go_wp2_with fail
   have hHeld:=And.intro HBK.out.drew.cell (And.intro HS2.out.j.cell HS2.out.xo)
   refine zah 22 (fun(W':World)=>(∀ j,W'.cell? ⟨w.heap.size,j,none⟩=#[.int .i64 (i.op:Int),.int .i64 i.place,.int .i64 (i.fn:Int),.int .i64 i.x,.bool i.y.c,.int .i64 (i.y.n:Int),.bool i.z.c,.int .i64 (i.z.n:Int),.int .i64 (i.bin:Int),.int .i64 (i.var:Int),.int .i64 (i.site:Int),.int .i64 (i.call:Int),.slice aa i.args.length ac,.int .i64 (i.to:Int)][j]?)∧(∀ j,W'.cell? ⟨jb,j,none⟩=#[.pointer (some ⟨C.pb,0,none⟩),.pointer (some ⟨VF.fb,0,none⟩),.pointer (some ⟨VP.sb,0,none⟩),.pointer (some ⟨V.xb,0,none⟩)][j]?)∧W'.cell? ⟨VP.sb,4,none⟩=some (zaa x)) (by kernel_rfl) rfl rfl (by kernel_rfl) ?_
   simp only[List.take_succ_cons,List.take_zero]
   iterate 10(refine tk 0 rfl (by kernel_rfl) (fun _ _ _ h=>h) hHeld (fun w hSw=>by go_simp;try with_reducible rfl) (by simp only[pA,pB,pC,pD,pE,pF,pG,pH];exact rfl) ?_)
   iterate 7(refine tk 12 rfl (by kernel_rfl) (fun _ _ _ h=>h) hHeld (fun w hSw=>by go_simp;try with_reducible rfl) (by simp only[pA,pB,pC,pD,pE,pF,pG,pH];exact rfl) ?_)
   refine rdy 10 (by kernel_rfl) rfl fun K hK=>?_
   go_simp
   refine(zl0 wp.heap.size VF.fb wp VP st x i.fn i.y _ HS2.out.p hio.fn hio.y).mono ?_
   rintro e w5 ⟨rfl,hb5⟩
   have HBK5:=zH (HBK.out.drew.below hb5 HBK.out.drew.lt)
   have HB5:=zH (HBD.out.trans (hb5.mono HBD.out.size))
   have HS5:=zH (H0.out _ HB5.out)
   refine hK.out _ _ (And.intro HBK5.out.cell (And.intro HS5.out.j.cell HS5.out.xo)) (fun hHeld=>?_)
   clear hK K hb5
   refine tk 11 rfl (by kernel_rfl) (fun _ _ _ h=>h) hHeld (fun w hSw=>by go_simp;try with_reducible rfl) (by simp only[pA,pB,pC,pD,pE,pF,pG,pH];exact rfl) ?_
   iterate 3(refine tk 19 rfl (by kernel_rfl) (fun _ _ _ h=>h) hHeld (fun w hSw=>by go_simp;try with_reducible rfl) (by simp only[pA,pB,pC,pD,pE,pF,pG,pH];exact rfl) ?_)
   refine lst (by kernel_rfl) rfl fun K hK=>?_
   go_simp
   refine hK _ _ ?_
   clear hK K hHeld
   go_wp2_with fail
   exact bodyPost_ret (v:=.tuple #[.int .i64 0,.int .i64 (i.var:Int),zaa (argO st i.fn i.y&&&x)]) (by simp[results,Tryz.results286,go_sem]) rfl (FIN.out _ HB5.out)
  ·have o4:((i.op:Int)==4)=false:=zai (by omega)
   have hx0:0≤i.x:=HS2.out.w.put k i HI.out (by omega)
   have HM:=zH (show zc0 C.P st x i=(0,i.var,argO st i.fn ⟨false,i.x.toNat⟩&&&x) by unfold zc0;rw[if_neg h23,if_neg h4])
   have FIN:=zH (show ∀ W,Below w.heap.size w W→zj9 (zc0 C.P st x i) w (.returned (.tuple #[.int .i64 0,.int .i64 (i.var:Int),zaa (argO st i.fn ⟨false,i.x.toNat⟩&&&x)])) W from fun W hW=>⟨by rw[HM.out],hW⟩)
   have ho48:argO st i.fn ⟨false,i.x.toNat⟩<2 ^ 48:=by
    obtain⟨_,_,_,_,_,hm⟩:=HS2.out.p
    exact zj5 (fun n=>(hm.sm n).1) _ _
   have HAND:=ziw (argO st i.fn ⟨false,i.x.toNat⟩) x ho48 hx48
   clear h4 h23
   go_wp2_with fail
   have hHeld:=And.intro HBK.out.drew.cell (And.intro HS2.out.j.cell HS2.out.xo)
   refine zah 23 (fun(W':World)=>(∀ j,W'.cell? ⟨w.heap.size,j,none⟩=#[.int .i64 (i.op:Int),.int .i64 i.place,.int .i64 (i.fn:Int),.int .i64 i.x,.bool i.y.c,.int .i64 (i.y.n:Int),.bool i.z.c,.int .i64 (i.z.n:Int),.int .i64 (i.bin:Int),.int .i64 (i.var:Int),.int .i64 (i.site:Int),.int .i64 (i.call:Int),.slice aa i.args.length ac,.int .i64 (i.to:Int)][j]?)∧(∀ j,W'.cell? ⟨jb,j,none⟩=#[.pointer (some ⟨C.pb,0,none⟩),.pointer (some ⟨VF.fb,0,none⟩),.pointer (some ⟨VP.sb,0,none⟩),.pointer (some ⟨V.xb,0,none⟩)][j]?)∧W'.cell? ⟨VP.sb,4,none⟩=some (zaa x)) (by kernel_rfl) rfl rfl (by kernel_rfl) ?_
   simp only[List.take_succ_cons,List.take_zero]
   iterate 11(refine tk 0 rfl (by kernel_rfl) (fun _ _ _ h=>h) hHeld (fun w hSw=>by go_simp;try with_reducible rfl) (by simp only[pA,pB,pC,pD,pE,pF,pG,pH];exact rfl) ?_)
   iterate 7(refine tk 13 rfl (by kernel_rfl) (fun _ _ _ h=>h) hHeld (fun w hSw=>by go_simp;try with_reducible rfl) (by simp only[pA,pB,pC,pD,pE,pF,pG,pH];exact rfl) ?_)
   refine rdy 11 (by kernel_rfl) rfl fun K hK=>?_
   go_simp
   have hof:=zl0 wp.heap.size VF.fb wp VP st x i.fn ⟨false,i.x.toNat⟩ _ HS2.out.p hio.fn (by have:=hio.x;show i.x.toNat<1000000;omega)
   dsimp only at hof
   rw[Int.toNat_of_nonneg hx0]at hof
   refine hof.mono ?_
   clear hof
   rintro e w5 ⟨rfl,hb5⟩
   have HBK5:=zH (HBK.out.drew.below hb5 HBK.out.drew.lt)
   have HB5:=zH (HBD.out.trans (hb5.mono HBD.out.size))
   have HS5:=zH (H0.out _ HB5.out)
   refine hK.out _ _ (And.intro HBK5.out.cell (And.intro HS5.out.j.cell HS5.out.xo)) (fun hHeld=>?_)
   clear hK K hb5
   refine tk 12 rfl (by kernel_rfl) (fun _ _ _ h=>h) hHeld (fun w hSw=>by go_simp;try with_reducible rfl) (by simp only[pA,pB,pC,pD,pE,pF,pG,pH];exact rfl) ?_
   iterate 3(refine tk 20 rfl (by kernel_rfl) (fun _ _ _ h=>h) hHeld (fun w hSw=>by go_simp;try with_reducible rfl) (by simp only[pA,pB,pC,pD,pE,pF,pG,pH];exact rfl) ?_)
   refine lst (by kernel_rfl) rfl fun K hK=>?_
   go_simp
   refine hK _ _ ?_
   clear hK K hHeld
   go_wp2_with fail
   exact bodyPost_ret (v:=.tuple #[.int .i64 0,.int .i64 (i.var:Int),zaa (argO st i.fn ⟨false,i.x.toNat⟩&&&x)]) (by simp[results,Tryz.results286,go_sem]) rfl (FIN.out _ HB5.out)
end
section
open Go.RowKit Go.Maps Go.ChangeMaps Go.Shelf
set_option linter.unusedSimpArgs false
def zi9 (P:Pr)(RS:Nat→Nat→Bool)(g:Nat):Bool:=((List.range P.gos.length).all fun r=>!RS (r+1) g)&&RS 0 g
def OnR (P:Pr)(w:World)(g:Nat)(gk:Nat)(v34:Value)(W:World):Prop :=
 ∃ k:Nat,v34=.int .i64 k∧gk=P.gos.length-k∧k≤P.gos.length∧W=w∧∀ r,r<k→rsB P (r+1) g=false
theorem gos_code {J:JV}{W:World}(h:zke J W){s k:Nat}(hs:J.C.P.gos[s]? = some k):∃ i,J.C.P.code[k]? = some i∧k<J.C.P.code.length :=
 ⟨_,List.getElem?_eq_getElem (h.w.gs s k hs),h.w.gs s k hs⟩
theorem once_any (J:JV)(wj w:World)(s k:Nat)(i:In)(H:JgOn J wj)(hb:Below wj.heap.size wj w)(hs:J.C.P.gos[s]? = some k)(hi:J.C.P.code[k]? = some i) :
  Calls Tryz.prog 314 #[.pointer (some ⟨J.VF.fb,0,none⟩),.int .i64 (s:Int)] w fun e w'=>e=.returned (.bool (zi9 J.C.P (rsB J.C.P) i.fn))∧Below w.heap.size w w':=by
 obtain⟨C,VF,VP,V,wp,st,x,Rs,Bs,f,jb,B,sa,sc,rg,rc,ba,bc,r0,ga,gc⟩:=J
 dsimp only at hs hi ⊢
 have H0:=zH (fun(W:World) (hW:Below w.heap.size w W)=>H W (hb.trans (hW.mono hb.size)))
 clear H hb
 have HS:=zH (H0.out w.drew (Below.refl _ _).drew)
 have HC:=HS.out.c
 have hcl:=HC.wf.cl
 have hgl:=HC.wf.gl
 have hfn:=HC.wf.fn k i hi
 have hfl5:=HC.wf.fl
 have hsl:s<C.P.gos.length:=(List.getElem?_eq_some_iff.1 hs).1
 have hkl:k<C.P.code.length:=(List.getElem?_eq_some_iff.1 hi).1
 have hgv:=HS.out.gv
 dsimp only at hgv
 obtain⟨gb,hga,hgc⟩:=HS.out.gos s k hs
 subst hga
 obtain⟨aa,ac,hic,har,_⟩:=HC.icells HS.out.l.onw hi
 have hi2:w.drew.cell? ⟨C.cg,k*14+2,none⟩=some (.int .i64 (i.fn:Int)):=hic 2 (by omega)
 clear hic har
 have hpc:=HS.out.l.p
 rw[hgv]at hpc
 have hHeld:=And.intro HS.out.l.f (And.intro hpc (And.intro hgc hi2))
 clear hgc hi2 hgv
 obtain⟨M,hM⟩:∃ M,M=zi9 C.P (rsB C.P) i.fn:=⟨_,rfl⟩
 have HM:=zH hM
 rw[← hM]
 clear hM
 go_enter Tryz.func314,Tryz.ntmps314
 go_wp2_with fail
 refine zah 20 (fun(W':World)=>(∀ i,W'.cell? ⟨VF.fb,i,none⟩=#[.pointer (some ⟨C.pb,0,none⟩),.map (some VF.onb),.slice sa C.P.gos.length sc,.slice (some ⟨rg,0,none⟩) (C.P.gos.length+1) rc,.slice ba C.P.gos.length bc,.map (some VF.lob),.map (some VF.mab)][i]?)∧(∀ i,W'.cell? ⟨C.pb,i,none⟩=#[.pointer (some ⟨C.X.tb,0,none⟩),.int .i64 C.P.nv,.int .i64 C.P.nm,.slice (some ⟨C.fg,0,none⟩) C.P.fs.length C.fcap,.slice (some ⟨C.cg,0,none⟩) C.P.code.length C.ccap,C.X.av,C.X.nv,.slice (some ⟨gb,0,none⟩) C.P.gos.length gc,.int .i64 C.P.main][i]?)∧W'.cell? ⟨gb,s,none⟩=some (.int .i64 (k:Int))∧W'.cell? ⟨C.cg,k*14+2,none⟩=some (.int .i64 (i.fn:Int))) (by kernel_rfl) rfl rfl (by kernel_rfl) ?_
 simp only[List.take_succ_cons,List.take_zero]
 iterate 20(refine tk 0 rfl (by kernel_rfl) (fun _ _ _ h=>h) hHeld (fun w hSw=>by go_simp;try with_reducible rfl) (by simp only[pA,pB,pC,pD,pE,pF,pG,pH];exact rfl) ?_)
 refine lst (by kernel_rfl) rfl fun K hK=>?_
 go_simp
 refine hK _ _ ?_
 clear hK K hHeld hpc
 have HBD:=zH (show Below w.heap.size w w.drew from(Below.refl _ _).drew)
 generalize w.drew=w1 at HS HBD ⊢
 have hfc:=HS.out.l.f
 have hfl:=HS.out.l.fl
 have ST:=zH (show OnR C.P w1 i.fn C.P.gos.length (.int .i64 (0:Int)) w1 from⟨0,rfl,rfl,Nat.zero_le _,rfl,fun r hr=>by omega⟩)
 dsimp only at hfc hfl
 have hrcl:=HS.out.rcl
 dsimp only at hrcl
 go_wp2_with fail
 clear hfc hfl
 go_loopg [34] C.P.gos.length (fun gk v34 wr=>OnR C.P w1 i.fn gk v34 wr)
 case atStart=>exact ST.out
 case round =>
  obtain⟨r,rfl,hg,hr,hW,hno⟩:=hrel
  subst hW
  have HG:=zH hg
  have HNO:=zH hno
  clear hno hg
  by_cases hlt:r<C.P.gos.length
  ·obtain⟨rb,hrb⟩:∃ rb,Rs[r+1]? = some rb:=⟨_,List.getElem?_eq_getElem (by have:=HS.out.rl;dsimp only at this;omega)⟩
   obtain⟨hrc,hrm⟩:=HS.out.rts (r+1) rb hrb
   have HRM:=zH hrm
   have hrc1:wr.cell? ⟨rg,1+r,none⟩=some (.map (some rb)):=by rw[Nat.add_comm];exact hrc
   dsimp only at hrc
   clear hrm hrb
   go_wp2_with fail
   refine(hasE _ rb i.fn (rsB C.P (r+1)) HRM.out (by omega)).mono ?_
   rintro e w7 ⟨rfl,rfl⟩
   cases hb:rsB C.P (r+1) i.fn
   ·have REL:=zH (show OnR C.P wr i.fn (C.P.gos.length-(r+1)) (.int .i64 ((r+1:Nat):Int)) wr from⟨r+1,rfl,rfl,hlt,rfl,fun r' hr'=>by
     by_cases e:r'=r
     ·rw[e];exact hb
     ·exact HNO.out r' (by omega)⟩)
    clear hb hrc hrc1
    go_wp2_with fail
    go_roundg (C.P.gos.length-(r+1))
    case measure=>have:=HG.out;omega
    case rel=>rw[show((r:Int)+1)=((r+1:Nat):Int) by omega];exact REL.out
   ·have hMf:M=false:=by
     rw[HM.out]
     unfold zi9
     rw[Bool.and_eq_false_iff]
     left
     rw[Bool.eq_false_iff]
     intro hall
     have:=List.all_eq_true.1 hall r (List.mem_range.2 hlt)
     rw[hb]at this
     cases this
    have HMF:=zH hMf
    clear hb hrc hrc1 hMf
    go_wp2_with fail
    go_ret
    exact⟨by rw[HMF.out];rfl,HBD.out⟩
  ·obtain rfl:r=C.P.gos.length:=by omega
   have hfc:=HS.out.l.f
   have hfl:=HS.out.l.fl
   have hr0:=HS.out.l.rc
   have HR0:=zH HS.out.l.r0
   have hMf:M=rsB C.P 0 i.fn:=by
    rw[HM.out]
    unfold zi9
    rw[show((List.range C.P.gos.length).all fun r=>!rsB C.P (r+1) i.fn)=true from List.all_eq_true.2 fun r hr=>by rw[HNO.out r (List.mem_range.1 hr)];rfl]
    rfl
   have HMF:=zH hMf
   dsimp only at hfc hfl hr0
   clear hMf
   go_wp2_with fail
   refine(hasE _ r0 i.fn (rsB C.P 0) HR0.out (by omega)).mono ?_
   rintro e w7 ⟨rfl,rfl⟩
   go_wp2_with fail
   go_ret
   exact⟨by rw[HMF.out];rfl,HBD.out⟩
def zgm (P:Pr)(RS:Nat→Nat→Bool)(f:LF)(k:Nat)(fn:Nat):Nat:=if zi9 P RS fn then f 4 k else 2 ^ P.gos.length-1
theorem zs6 (J:JV)(wj w:World)(s k:Nat)(i:In)(H:JgOn J wj)(hb:Below wj.heap.size wj w)(hs:J.C.P.gos[s]? = some k)(hi:J.C.P.code[k]? = some i) :
  Calls Tryz.prog 310 #[.pointer (some ⟨J.jb,0,none⟩),.int .i64 (s:Int)] w fun e w'=>e=.returned (zaa (zgm J.C.P (rsB J.C.P) J.f k i.fn))∧Below w.heap.size w w':=by
 have HO:=zH (once_any J wj w s k i H hb hs hi)
 obtain⟨C,VF,VP,V,wp,st,x,Rs,Bs,f,jb,B,sa,sc,rg,rc,ba,bc,r0,ga,gc⟩:=J
 dsimp only at hs hi ⊢
 have H0:=zH (fun(W:World) (hW:Below w.heap.size w W)=>H W (hb.trans (hW.mono hb.size)))
 clear H hb
 have HS:=zH (H0.out w (Below.refl _ _))
 have HC:=HS.out.c
 have hgl:=HC.wf.gl
 have hsl:s<C.P.gos.length:=(List.getElem?_eq_some_iff.1 hs).1
 have hkl:k<C.P.code.length:=(List.getElem?_eq_some_iff.1 hi).1
 have hgv:=HS.out.gv
 dsimp only at hgv
 obtain⟨gb,hga,hgc⟩:=HS.out.gos s k hs
 subst hga
 have hjc:=HS.out.j.cell
 have hjl:=HS.out.j.lt
 dsimp only at hjc hjl
 go_enter Tryz.func310,Tryz.ntmps310
 go_wp2_with fail
 refine HO.out.mono ?_
 rintro e w2 ⟨rfl,hb2⟩
 have HB2:=zH hb2
 have HS2:=zH (H0.out w2 hb2)
 clear hjc hjl hgc
 have hjc:=HS2.out.j.cell
 have hjl:=HS2.out.j.lt
 have hpc:=HS2.out.l.p
 dsimp only at hjc hjl hpc
 rw[hgv]at hpc
 cases ho:zi9 C.P (rsB C.P) i.fn
 ·have HM:=zH (show zgm C.P (rsB C.P) f k i.fn=2 ^ C.P.gos.length-1 by unfold zgm;rw[ho];rfl)
  have HUP:=zH (zpm C.P.gos.length w2 (by omega))
  have hpl:C.pb<w2.heap.size:=Nat.lt_of_lt_of_le HC.prog.p.lt HS2.out.l.onw.size
  clear ho hb2
  go_wp2_with fail
  refine HUP.out.mono ?_
  rintro e w3 ⟨rfl,rfl⟩
  go_wp2_with fail
  go_ret
  exact⟨by rw[HM.out];rfl,HB2.out⟩
 ·have HM:=zH (show zgm C.P (rsB C.P) f k i.fn=f 4 k by unfold zgm;rw[ho];rfl)
  clear ho hb2
  go_wp2_with fail
  have HS3:=zH (H0.out w2.drew HB2.out.drew)
  have hpd:=HS3.out.l.p
  dsimp only at hpd
  rw[hgv]at hpd
  obtain⟨gb',hga',hgc⟩:=HS3.out.gos s k hs
  injection hga' with hga'
  injection hga' with hga'
  subst hga'
  have hHeld:=And.intro HS3.out.j.cell (And.intro HS3.out.k.x.cell (And.intro hpd (And.intro hgc (HS3.out.k.cell (r:=4) (i:=k) (by omega) (by unfold za8;simpa using hkl)))))
  clear hpd hgc
  refine zah 19 (fun(W':World)=>(∀ j,W'.cell? ⟨jb,j,none⟩=#[.pointer (some ⟨C.pb,0,none⟩),.pointer (some ⟨VF.fb,0,none⟩),.pointer (some ⟨VP.sb,0,none⟩),.pointer (some ⟨V.xb,0,none⟩)][j]?)∧(∀ j,W'.cell? ⟨V.xb,j,none⟩=#[.pointer (some ⟨VF.fb,0,none⟩),.pointer (some ⟨VP.sb,0,none⟩),.slice (some ⟨V.g 0,0,none⟩) C.P.code.length C.P.code.length,.slice (some ⟨V.g 1,0,none⟩) C.P.fs.length C.P.fs.length,.slice (some ⟨V.g 2,0,none⟩) C.P.fs.length C.P.fs.length,.slice (some ⟨V.g 3,0,none⟩) C.P.fs.length C.P.fs.length,.slice (some ⟨V.g 4,0,none⟩) C.P.code.length C.P.code.length,.slice (some ⟨V.g 5,0,none⟩) C.P.fs.length C.P.fs.length,.slice (some ⟨V.g 6,0,none⟩) C.P.fs.length C.P.fs.length][j]?)∧(∀ i,W'.cell? ⟨C.pb,i,none⟩=#[.pointer (some ⟨C.X.tb,0,none⟩),.int .i64 C.P.nv,.int .i64 C.P.nm,.slice (some ⟨C.fg,0,none⟩) C.P.fs.length C.fcap,.slice (some ⟨C.cg,0,none⟩) C.P.code.length C.ccap,C.X.av,C.X.nv,.slice (some ⟨gb,0,none⟩) C.P.gos.length gc,.int .i64 C.P.main][i]?)∧W'.cell? ⟨gb,s,none⟩=some (.int .i64 (k:Int))∧W'.cell? ⟨V.g 4,k,none⟩=some (zaa (f 4 k))) (by kernel_rfl) rfl rfl (by kernel_rfl) ?_
  simp only[List.take_succ_cons,List.take_zero]
  iterate 19(refine tk 0 rfl (by kernel_rfl) (fun _ _ _ h=>h) hHeld (fun w hSw=>by go_simp;try with_reducible rfl) (by simp only[pA,pB,pC,pD,pE,pF,pG,pH];exact rfl) ?_)
  refine lst (by kernel_rfl) rfl fun K hK=>?_
  go_simp
  refine hK _ _ ?_
  clear hK K hHeld
  go_wp2_with fail
  go_ret
  exact⟨by rw[HM.out];rfl,HB2.out.drew⟩
end
section
open Go.RowKit Go.Maps Go.ChangeMaps Go.Shelf
set_option linter.unusedSimpArgs false
def fnAt (P:Pr)(k:Nat):Nat:=match P.code[k]? with | some i=>i.fn | none=>0
def zj3 (P:Pr)(s:Nat):Nat:=match P.gos[s]? with | some k=>k | none=>0
noncomputable def stM (P:Pr)(f:LF)(s:Nat):Nat:=zgm P (rsB P) f (zj3 P s) (fnAt P (zj3 P s))
noncomputable def zfn (P:Pr)(f:LF)(r a t b:Nat):Bool :=
 if(rsB P r (fnAt P a)&&rsB P t (fnAt P b))=true then
  if r=0 then(if t=0 then false else(f 4 a).testBit (t-1))
  else if t=0 then(f 4 b).testBit (r-1)
  else if r=t then(zau P).getD (r-1) false
  else(stM P f (r-1)).testBit (t-1)||(stM P f (t-1)).testBit (r-1)
 else false
theorem zne {P:Pr}{k:Nat}{i:In}(h:P.code[k]? = some i):fnAt P k=i.fn:=by unfold fnAt;rw[h]
theorem zsn {P:Pr}{RS:Nat→Nat→Bool}{f:LF}{k fn:Nat}(hf:∀ r i,f r i<2 ^ 48)(hg:P.gos.length≤5):zgm P RS f k fn<2 ^ 48:=by
 unfold zgm
 split
 ·exact hf _ _
 ·have:2 ^ P.gos.length≤2 ^ 5:=Nat.pow_le_pow_right (by omega) hg
  omega
theorem st_any (J:JV)(wj w:World)(s:Nat)(H:JgOn J wj)(hb:Below wj.heap.size wj w)(hs:s<J.C.P.gos.length) :
  Calls Tryz.prog 310 #[.pointer (some ⟨J.jb,0,none⟩),.int .i64 (s:Int)] w fun e w'=>e=.returned (zaa (stM J.C.P J.f s))∧Below w.heap.size w w':=by
 obtain⟨k,hk⟩:∃ k,J.C.P.gos[s]? = some k:=⟨_,List.getElem?_eq_getElem hs⟩
 obtain⟨i,hi,_⟩:=gos_code (H w hb) hk
 have e:stM J.C.P J.f s=zgm J.C.P (rsB J.C.P) J.f k i.fn:=by unfold stM zj3;rw[hk];simp only[zne hi]
 rw[e]
 exact zs6 J wj w s k i H hb hk hi
def BesPost (b:Bool)(w:World)(e:Ending)(w':World):Prop:=e=.returned (.bool b)∧Below w.heap.size w w'
theorem zyb (J:JV)(wj w:World)(r a t b:Nat)(H:JgOn J wj)(hb:Below wj.heap.size wj w)(hr:r<J.C.P.gos.length+1)(ht:t<J.C.P.gos.length+1)(ha:a<J.C.P.code.length)(hbl:b<J.C.P.code.length) :
  Calls Tryz.prog 287 #[.pointer (some ⟨J.jb,0,none⟩),.int .i64 (r:Int),.int .i64 (a:Int),.int .i64 (t:Int),.int .i64 (b:Int)] w (BesPost (zfn J.C.P J.f r a t b) w):=by
 have HST:=zH (fun(s:Nat) (W:World) (hW:Below w.heap.size w W) (hs:s<J.C.P.gos.length)=>st_any J wj W s H (hb.trans (hW.mono hb.size)) hs)
 obtain⟨C,VF,VP,V,wp,st,x,Rs,Bs,f,jb,B,sa,sc,rg,rc,ba,bc,r0,ga,gc⟩:=J
 dsimp only at hr ht ha hbl HST ⊢
 have H0:=zH (fun(W:World) (hW:Below w.heap.size w W)=>H W (hb.trans (hW.mono hb.size)))
 clear H hb
 have HS:=zH (H0.out w.drew (Below.refl _ _).drew)
 have HC:=HS.out.c
 have hcl:=HC.wf.cl
 have hgl:=HC.wf.gl
 have hfl5:=HC.wf.fl
 have hrl:=HS.out.rl
 dsimp only at hrl
 obtain⟨i,hi⟩:∃ i,C.P.code[a]? = some i:=⟨_,List.getElem?_eq_getElem ha⟩
 obtain⟨i',hi'⟩:∃ i,C.P.code[b]? = some i:=⟨_,List.getElem?_eq_getElem hbl⟩
 have hfn:=HC.wf.fn a i hi
 have hfn':=HC.wf.fn b i' hi'
 obtain⟨_,_,hic,_,_⟩:=HC.icells HS.out.l.onw hi
 obtain⟨_,_,hic',_,_⟩:=HC.icells HS.out.l.onw hi'
 obtain⟨rb,hrb⟩:∃ rb,Rs[r]? = some rb:=⟨_,List.getElem?_eq_getElem (by omega)⟩
 obtain⟨tb,htb⟩:∃ tb,Rs[t]? = some tb:=⟨_,List.getElem?_eq_getElem (by omega)⟩
 obtain⟨hrc,hrm⟩:=HS.out.rts r rb hrb
 obtain⟨htc,htm⟩:=HS.out.rts t tb htb
 have HRM:=zH hrm
 have HTM:=zH htm
 have hHeld:=And.intro HS.out.j.cell (And.intro HS.out.l.f (And.intro HS.out.l.p (And.intro (show w.drew.cell? ⟨C.cg,a*14+2,none⟩=some (.int .i64 (i.fn:Int))from hic 2 (by omega)) (And.intro (show w.drew.cell? ⟨C.cg,b*14+2,none⟩=some (.int .i64 (i'.fn:Int))from hic' 2 (by omega)) (And.intro hrc htc)))))
 obtain⟨M,hM⟩:∃ M,M=zfn C.P f r a t b:=⟨_,rfl⟩
 have HM0:=zH (show M=(if(rsB C.P r i.fn&&rsB C.P t i'.fn)=true then(if r=0 then(if t=0 then false else(f 4 a).testBit (t-1))else if t=0 then(f 4 b).testBit (r-1)else if r=t then(zau C.P).getD (r-1) false else(stM C.P f (r-1)).testBit (t-1)||(stM C.P f (t-1)).testBit (r-1))else false) by rw[hM];unfold zfn;rw[zne hi,zne hi'])
 rw[← hM]
 clear hM hic hic' hrm htm hrb htb hrc htc hi hi'
 have hri:(r:Int)<(C.P.gos.length:Int)+1:=by omega
 have hti:(t:Int)<(C.P.gos.length:Int)+1:=by omega
 go_enter Tryz.func287,Tryz.ntmps287
 go_wp2_with fail
 refine zah 47 (fun(W':World)=>(∀ j,W'.cell? ⟨jb,j,none⟩=#[.pointer (some ⟨C.pb,0,none⟩),.pointer (some ⟨VF.fb,0,none⟩),.pointer (some ⟨VP.sb,0,none⟩),.pointer (some ⟨V.xb,0,none⟩)][j]?)∧(∀ i,W'.cell? ⟨VF.fb,i,none⟩=#[.pointer (some ⟨C.pb,0,none⟩),.map (some VF.onb),.slice sa C.P.gos.length sc,.slice (some ⟨rg,0,none⟩) (C.P.gos.length+1) rc,.slice ba C.P.gos.length bc,.map (some VF.lob),.map (some VF.mab)][i]?)∧(∀ i,W'.cell? ⟨C.pb,i,none⟩=#[.pointer (some ⟨C.X.tb,0,none⟩),.int .i64 C.P.nv,.int .i64 C.P.nm,.slice (some ⟨C.fg,0,none⟩) C.P.fs.length C.fcap,.slice (some ⟨C.cg,0,none⟩) C.P.code.length C.ccap,C.X.av,C.X.nv,C.X.gv,.int .i64 C.P.main][i]?)∧W'.cell? ⟨C.cg,a*14+2,none⟩=some (.int .i64 (i.fn:Int))∧W'.cell? ⟨C.cg,b*14+2,none⟩=some (.int .i64 (i'.fn:Int))∧W'.cell? ⟨rg,r,none⟩=some (.map (some rb))∧W'.cell? ⟨rg,t,none⟩=some (.map (some tb))) (by kernel_rfl) rfl rfl (by kernel_rfl) ?_
 simp only[List.take_succ_cons,List.take_zero]
 iterate 21(refine tk 0 rfl (by kernel_rfl) (fun _ _ _ h=>h) hHeld (fun w hSw=>by go_simp;try with_reducible rfl) (by simp only[pA,pB,pC,pD,pE,pF,pG,pH];exact rfl) ?_)
 refine rdy 21 (by kernel_rfl) rfl fun K hK=>?_
 go_simp
 refine(hasE _ rb i.fn (rsB C.P r) HRM.out (by omega)).mono ?_
 rintro e w7 ⟨rfl,rfl⟩
 refine hK.out _ _ hHeld (fun hHeld=>?_)
 clear hK K
 cases h1:rsB C.P r i.fn
 ·have HM:=zH (show M=false by rw[HM0.out,h1];rfl)
  clear h1
  iterate 2(refine tk 22 rfl (by kernel_rfl) (fun _ _ _ h=>h) hHeld (fun w hSw=>by go_simp;try with_reducible rfl) (by simp only[pA,pB,pC,pD,pE,pF,pG,pH];exact rfl) ?_)
  iterate 23(refine sk 24 rfl (by kernel_rfl) (fun _ _ _ h=>h) hHeld (by simp only[pA,pB,pC,pD,pE,pF,pG,pH];exact rfl) ?_)
  refine lst (by kernel_rfl) rfl fun K hK=>?_
  go_simp
  refine hK _ _ ?_
  clear hK K hHeld
  go_wp2_with fail
  go_ret
  exact⟨by rw[HM.out];rfl,(Below.refl _ _).drew⟩
 ·iterate 23(refine tk 22 rfl (by kernel_rfl) (fun _ _ _ h=>h) hHeld (fun w hSw=>by go_simp;try with_reducible rfl) (by simp only[pA,pB,pC,pD,pE,pF,pG,pH];exact rfl) ?_)
  refine rdy 45 (by kernel_rfl) rfl fun K hK=>?_
  go_simp
  refine(hasE _ tb i'.fn (rsB C.P t) HTM.out (by omega)).mono ?_
  rintro e w7 ⟨rfl,rfl⟩
  refine hK.out _ _ hHeld (fun hHeld=>?_)
  clear hK K
  refine tk 46 rfl (by kernel_rfl) (fun _ _ _ h=>h) hHeld (fun w hSw=>by go_simp;try with_reducible rfl) (by simp only[pA,pB,pC,pD,pE,pF,pG,pH];exact rfl) ?_
  refine lst (by kernel_rfl) rfl fun K hK=>?_
  go_simp
  refine hK _ _ ?_
  clear hK K hHeld
  cases h2:rsB C.P t i'.fn
  ·have HM:=zH (show M=false by rw[HM0.out,h1,h2];rfl)
   clear h1 h2
   go_wp2_with fail
   go_ret
   exact⟨by rw[HM.out];rfl,(Below.refl _ _).drew⟩
  ·have HM1:=zH (show M=(if r=0 then(if t=0 then false else(f 4 a).testBit (t-1))else if t=0 then(f 4 b).testBit (r-1)else if r=t then(zau C.P).getD (r-1) false else(stM C.P f (r-1)).testBit (t-1)||(stM C.P f (t-1)).testBit (r-1)) by rw[HM0.out,h1,h2];rfl)
   have HBD:=zH (show Below w.heap.size w w.drew from(Below.refl _ _).drew)
   clear h1 h2 HM0
   generalize w.drew=w1 at HS HBD ⊢
   have hjc:=HS.out.j.cell
   have hjl:=HS.out.j.lt
   have hxc:=HS.out.k.x.cell
   have hxl:=HS.out.k.x.lt
   have hga:w1.cell? ⟨V.g 4,a,none⟩=some (zaa (f 4 a)):=HS.out.k.cell (r:=4) (i:=a) (by omega) (by unfold za8;simpa using ha)
   have hgb:w1.cell? ⟨V.g 4,b,none⟩=some (zaa (f 4 b)):=HS.out.k.cell (r:=4) (i:=b) (by omega) (by unfold za8;simpa using hbl)
   have hsa:=HS.out.k.sm 4 a
   have hsb:=HS.out.k.sm 4 b
   dsimp only at hjc hjl hxc hxl hsa hsb
   unfold zcl at hxc
   by_cases hr0:r=0
   ·have or0:((r:Int)==0)=true:=by rw[hr0];rfl
    by_cases ht0:t=0
    ·have ot0:((t:Int)==0)=true:=by rw[ht0];rfl
     have HM:=zH (show M=false by rw[HM1.out,if_pos hr0,if_pos ht0])
     clear hr0 ht0
     go_wp2_with fail
     go_ret
     exact⟨by rw[HM.out];rfl,HBD.out⟩
    ·have ot0:((t:Int)==0)=false:=zai (by omega)
     have HM:=zH (show M=(f 4 a).testBit (t-1) by rw[HM1.out,if_pos hr0,if_neg ht0])
     have et:(t:Int)-1=((t-1:Nat):Int):=by omega
     clear hr0
     go_wp2_with fail
     refine(zkd (f 4 a) (t-1) w1 hsa (by omega)).mono ?_
     rintro e w7 ⟨rfl,rfl⟩
     go_wp2_with fail
     go_ret
     exact⟨by rw[HM.out];rfl,HBD.out⟩
   ·have or0:((r:Int)==0)=false:=zai (by omega)
    have er:(r:Int)-1=((r-1:Nat):Int):=by omega
    by_cases ht0:t=0
    ·have ot0:((t:Int)==0)=true:=by rw[ht0];rfl
     have HM:=zH (show M=(f 4 b).testBit (r-1) by rw[HM1.out,if_neg hr0,if_pos ht0])
     clear ht0
     go_wp2_with fail
     refine(zkd (f 4 b) (r-1) w1 hsb (by omega)).mono ?_
     rintro e w7 ⟨rfl,rfl⟩
     go_wp2_with fail
     go_ret
     exact⟨by rw[HM.out];rfl,HBD.out⟩
    ·have ot0:((t:Int)==0)=false:=zai (by omega)
     have et:(t:Int)-1=((t-1:Nat):Int):=by omega
     by_cases hrt:r=t
     ·have ort:((r:Int)==(t:Int))=true:=by rw[hrt];simp
      obtain⟨mx,hmx⟩:∃ mx,(zau C.P)[r-1]? = some mx:=⟨_,List.getElem?_eq_getElem (by simp only[zau,List.length_map];omega)⟩
      obtain⟨gb,hsaa,hgm⟩:=HS.out.l.many (r-1) mx hmx
      have HM:=zH (show M=mx by rw[HM1.out,if_neg hr0,if_neg ht0,if_pos hrt,List.getD_eq_getElem?_getD,hmx];rfl)
      have hfc:=HS.out.l.f
      have hfl:=HS.out.l.fl
      dsimp only at hfc hfl hsaa
      subst hsaa
      clear hrt hmx
      go_wp2_with fail
      go_ret
      exact⟨by rw[HM.out];rfl,HBD.out⟩
     ·have ort:((r:Int)==(t:Int))=false:=zai (by omega)
      have hst1:stM C.P f (r-1)<2 ^ 48:=zsn HS.out.k.sm hgl
      have hst2:stM C.P f (t-1)<2 ^ 48:=zsn HS.out.k.sm hgl
      have HM2:=zH (show M=((stM C.P f (r-1)).testBit (t-1)||(stM C.P f (t-1)).testBit (r-1)) by rw[HM1.out,if_neg hr0,if_neg ht0,if_neg hrt])
      clear hjc hjl hxc hxl hga hgb HM1
      go_wp2_with fail
      refine(HST.out (r-1) w1 HBD.out (by omega)).mono ?_
      rintro e w2 ⟨rfl,hb2⟩
      have HB2:=zH (HBD.out.trans (hb2.mono HBD.out.size))
      clear hb2
      go_wp2_with fail
      refine(zkd (stM C.P f (r-1)) (t-1) w2 hst1 (by omega)).mono ?_
      rintro e w3 ⟨rfl,rfl⟩
      cases hbit:(stM C.P f (r-1)).testBit (t-1)
      ·have HM:=zH (show M=(stM C.P f (t-1)).testBit (r-1) by rw[HM2.out,hbit];rfl)
       clear hbit
       go_wp2_with fail
       refine(HST.out (t-1) w2 HB2.out (by omega)).mono ?_
       rintro e w4 ⟨rfl,hb4⟩
       have HB4:=zH (HB2.out.trans (hb4.mono HB2.out.size))
       clear hb4
       go_wp2_with fail
       refine(zkd (stM C.P f (t-1)) (r-1) w4 hst2 (by omega)).mono ?_
       rintro e w5 ⟨rfl,rfl⟩
       go_wp2_with fail
       go_ret
       exact⟨by rw[HM.out];rfl,HB4.out⟩
      ·have HM:=zH (show M=true by rw[HM2.out,hbit];rfl)
       clear hbit
       go_wp2_with fail
       go_ret
       exact⟨by rw[HM.out];rfl,HB2.out⟩
def zgy (p:Nat→Bool):Nat→Nat→Option Nat
 | 0,_=>none
 | k+1,t=>if p t then some t else zgy p k (t+1)
def pickR (o:Option Nat)(r:Nat)(d:Option (Nat×Nat)):Option (Nat×Nat):=match o with | some t=>some (r,t) | none=>d
def zh8 (q:Nat→Option Nat):Nat→Nat→Option (Nat×Nat)
 | 0,_=>none
 | k+1,r=>pickR (q r) r (zh8 q k (r+1))
noncomputable def zjr (P:Pr)(f:LF)(a b:Nat):Option (Nat×Nat):=zh8 (fun r=>zgy (fun t=>zfn P f r a t b) (P.gos.length+1) 0) (P.gos.length+1) 0
def znv:Option (Nat×Nat)→Value
 | some (r,t)=>.tuple #[.int .i64 (r:Int),.int .i64 (t:Int),.bool true]
 | none=>.tuple #[.int .i64 0,.int .i64 0,.bool false]
def zn3 (o:Option (Nat×Nat))(w:World)(e:Ending)(w':World):Prop:=e=.returned (znv o)∧Below w.heap.size w w'
def RoR (n:Nat)(q:Nat→Option Nat)(M:Option (Nat×Nat))(w:World)(gk:Nat)(v19:Value)(W:World):Prop :=
 ∃ r:Nat,v19=.int .i64 r∧gk=n-r∧r≤n∧Below w.heap.size w W∧zh8 q (n-r) r=M
def RoT (n:Nat)(p:Nat→Bool)(X:Option Nat)(w:World)(gk:Nat)(v30:Value)(W:World):Prop :=
 ∃ t:Nat,v30=.int .i64 t∧gk=n-t∧t≤n∧Below w.heap.size w W∧zgy p (n-t) t=X
theorem zwh (J:JV)(wj w:World)(a b:Nat)(H:JgOn J wj)(hb:Below wj.heap.size wj w)(ha:a<J.C.P.code.length)(hbl:b<J.C.P.code.length) :
  Calls Tryz.prog 235 #[.pointer (some ⟨J.jb,0,none⟩),.int .i64 (a:Int),.int .i64 (b:Int)] w (zn3 (zjr J.C.P J.f a b) w):=by
 have HBE:=zH (fun(r t:Nat) (W:World) (hW:Below w.heap.size w W) (hr:r<J.C.P.gos.length+1) (ht:t<J.C.P.gos.length+1)=>zyb J wj W r a t b H (hb.trans (hW.mono hb.size)) hr ht ha hbl)
 obtain⟨C,VF,VP,V,wp,st,x,Rs,Bs,f,jb,B,sa,sc,rg,rc,ba,bc,r0,ga,gc⟩:=J
 dsimp only at ha hbl HBE ⊢
 have H0:=zH (fun(W:World) (hW:Below w.heap.size w W)=>H W (hb.trans (hW.mono hb.size)))
 clear H hb
 have HS:=zH (H0.out w (Below.refl _ _))
 have hjc:=HS.out.j.cell
 have hjl:=HS.out.j.lt
 have hfc:=HS.out.l.f
 have hfl:=HS.out.l.fl
 have hgl:=HS.out.c.wf.gl
 have hcl:=HS.out.c.wf.cl
 dsimp only at hjc hjl hfc hfl hgl hcl
 obtain⟨n,hn⟩:∃ n,n=C.P.gos.length+1:=⟨_,rfl⟩
 obtain⟨q,hq⟩:∃ q:Nat→Option Nat,q=fun r=>zgy (fun t=>zfn C.P f r a t b) n 0:=⟨_,rfl⟩
 have HQ:=zH (show ∀ r,q r=zgy (fun t=>zfn C.P f r a t b) n 0 from fun r=>by rw[hq])
 obtain⟨M,hM⟩:∃ M,M=zjr C.P f a b:=⟨_,rfl⟩
 rw[← hM]
 have ST:=zH (show RoR n q M w n (.int .i64 (0:Int)) w from⟨0,rfl,rfl,Nat.zero_le _,Below.refl _ _,by rw[hM,hq,Nat.sub_zero];unfold zjr;rw[← hn]⟩)
 clear hM hq
 go_enter Tryz.func235,Tryz.ntmps235
 go_wp2_with fail
 clear hjc hjl hfc hfl
 go_loopg [19] n (fun gk v19 wr=>RoR n q M w gk v19 wr)
 case atStart=>exact ST.out
 case round =>
  obtain⟨r,rfl,hg,hr,hB,hR⟩:=hrel
  have HG:=zH hg
  have HB:=zH hB
  have HR:=zH hR
  clear hg hB hR
  by_cases hlt:r<n
  ·have hlti:(r:Int)<(C.P.gos.length:Int)+1:=by omega
   have HSr:=zH (H0.out _ HB.out)
   have hjc:=HSr.out.j.cell
   have hjl:=HSr.out.j.lt
   have hfc:=HSr.out.l.f
   have hfl:=HSr.out.l.fl
   dsimp only at hjc hjl hfc hfl
   obtain⟨X,hX⟩:∃ X,X=q r:=⟨_,rfl⟩
   have HR2:=zH (show pickR X r (zh8 q (n-(r+1)) (r+1))=M by
    have h:=HR.out
    rw[show n-r=(n-(r+1))+1 by omega,zh8,← hX]at h
    exact h)
   have ST2:=zH (show RoT n (fun t=>zfn C.P f r a t b) X w n (.int .i64 (0:Int)) wr from⟨0,rfl,rfl,Nat.zero_le _,HB.out,by rw[Nat.sub_zero,hX,HQ.out]⟩)
   clear hX HR HSr
   go_wp2_with fail
   clear hjc hjl hfc hfl
   go_loopg [30] n (fun gk v30 wr=>RoT n (fun t=>zfn C.P f r a t b) X w gk v30 wr)
   case atStart=>exact ST2.out
   case round =>
    obtain⟨t,rfl,hg,ht,hB,hT⟩:=hrel
    have HG2:=zH hg
    have HB2:=zH hB
    have HT:=zH hT
    clear hg hB hT
    by_cases hltt:t<n
    ·have hltti:(t:Int)<(C.P.gos.length:Int)+1:=by omega
     have HT2:=zH (show(if zfn C.P f r a t b then some t else zgy (fun t=>zfn C.P f r a t b) (n-(t+1)) (t+1))=X by
      have h:=HT.out
      rw[show n-t=(n-(t+1))+1 by omega,zgy]at h
      exact h)
     clear HT
     go_wp2_with fail
     refine(HBE.out r t _ HB2.out (by omega) (by omega)).mono ?_
     rintro e w5 ⟨rfl,hb5⟩
     have HB5:=zH (HB2.out.trans (hb5.mono HB2.out.size))
     clear hb5
     cases hbe:zfn C.P f r a t b
     ·have REL:=zH (show RoT n (fun t=>zfn C.P f r a t b) X w (n-(t+1)) (.int .i64 ((t+1:Nat):Int)) w5 from⟨t+1,rfl,rfl,hltt,HB5.out,by have:=HT2.out;rw[hbe]at this;exact this⟩)
      clear hbe
      go_wp2_with fail
      go_roundg (n-(t+1))
      case measure=>have:=HG2.out;omega
      case rel=>rw[show((t:Int)+1)=((t+1:Nat):Int) by omega];exact REL.out
     ·have hMs:M=some (r,t):=by
       have h:=HT2.out
       rw[hbe]at h
       rw[← HR2.out,← h]
       rfl
      subst hMs
      have FIN:=zH (show zn3 (some (r,t)) w (.returned (.tuple #[.int .i64 (r:Int),.int .i64 (t:Int),.bool true])) w5 from⟨rfl,HB5.out⟩)
      clear hbe
      go_wp2_with fail
      exact bodyPost_ret (v:=.tuple #[.int .i64 (r:Int),.int .i64 (t:Int),.bool true]) (by simp[results,Tryz.results235,go_sem]) rfl FIN.out
    ·obtain rfl:t=n:=by omega
     have hX:X=none:=by rw[← HT.out,Nat.sub_self,zgy]
     have REL:=zH (show RoR t q M w (t-(r+1)) (.int .i64 ((r+1:Nat):Int)) wr from⟨r+1,rfl,rfl,hlt,HB2.out,by have:=HR2.out;rw[hX]at this;exact this⟩)
     have hnlt:¬ ((t:Int)<(C.P.gos.length:Int)+1):=by omega
     clear hX HT
     go_wp2_with fail
     go_roundg (t-(r+1))
     case measure=>have:=HG.out;omega
     case rel=>rw[show((r:Int)+1)=((r+1:Nat):Int) by omega];exact REL.out
  ·obtain rfl:r=n:=by omega
   have hMn:M=none:=by rw[← HR.out,Nat.sub_self,zh8]
   subst hMn
   have hnlt:¬ ((r:Int)<(C.P.gos.length:Int)+1):=by omega
   have FIN:=zH (show zn3 none w (.returned (.tuple #[.int .i64 (0:Int),.int .i64 (0:Int),.bool false])) wr from⟨rfl,HB.out⟩)
   go_wp2_with fail
   exact bodyPost_ret (v:=.tuple #[.int .i64 (0:Int),.int .i64 (0:Int),.bool false]) (by simp[results,Tryz.results235,go_sem]) rfl FIN.out
end
section
open Go.RowKit Go.Maps Go.ChangeMaps Go.Shelf
set_option linter.unusedSimpArgs false
def zgx (r r':Int×Nat×Nat):Option (Int×Nat) :=
 if r.2.1≠r'.2.1∨r.1≠r'.1 then none
 else if r.1<0 then some (-1,r.2.1)
 else match mems (r.2.2&&&r'.2.2)with
  | []=>none
  | o::_=>some ((o:Int),r.2.1)
def comV:Option (Int×Nat)→Value
 | some (o,u)=>.tuple #[.int .i64 o,.int .i64 (u:Int),.bool true]
 | none=>.tuple #[.int .i64 0,.int .i64 0,.bool false]
def ComPost (o:Option (Int×Nat))(w:World)(e:Ending)(w':World):Prop:=e=.returned (comV o)∧Below w.heap.size w w'
theorem zo3 {J:JV}{W:World}(h:zke J W)(i:In):(zc0 J.C.P J.st J.x i).2.2<2 ^ 48:=by
 have hx:=h.x48
 unfold zc0
 split
 ·show 0<2 ^ 48;omega
 split
 ·exact Nat.lt_of_le_of_lt Nat.and_le_right hx
 ·exact Nat.lt_of_le_of_lt Nat.and_le_right hx
structure CmI (w:World)(c6 c7 c8 c10 u1:Nat)(i:Nat)(W:World):Prop where
 i:i=0
 h6:Blk W c6 3 #[.int .i64 0]
 h7:Blk W c7 3 #[.int .i64 0]
 h8:Blk W c8 4 #[.bool false]
 h10:Blk W c10 3 #[.int .i64 (u1:Int)]
 b:Below w.heap.size w W
theorem CmI.recs {w:World}{c6 c7 c8 c10 u1 i N:Nat}{W W':World}(h:CmI w c6 c7 c8 c10 u1 i W)(hN:w.heap.size≤N)(hr:Recs N W W'):CmI w c6 c7 c8 c10 u1 i W' :=
 ⟨h.i,h.h6.recs hr,h.h7.recs hr,h.h8.recs hr,h.h10.recs hr,h.b.trans (hr.below.mono hN)⟩
structure CmX (w:World)(c6 c7 c8:Nat)(M:Option (Int×Nat))(c:Code)(W:World):Prop where
 c:c=.ret
 r:∃ (o u:Nat),M=some ((o:Int),u)∧Blk W c6 3 #[.int .i64 (o:Int)]∧Blk W c7 3 #[.int .i64 (u:Int)]
 h8:Blk W c8 4 #[.bool true]
 b:Below w.heap.size w W
theorem CmX.recs {w:World}{c6 c7 c8 N:Nat}{M:Option (Int×Nat)}{c:Code}{W W':World}(h:CmX w c6 c7 c8 M c W)(hN:w.heap.size≤N)(hr:Recs N W W'):CmX w c6 c7 c8 M c W':=by
 obtain⟨o,u,h1,h2,h3⟩:=h.r
 exact⟨h.c,⟨o,u,h1,h2.recs hr,h3.recs hr⟩,h.h8.recs hr,h.b.trans (hr.below.mono hN)⟩
theorem zu4 (J:JV)(wj w:World)(a b:Nat)(ia ib:In)(H:JgOn J wj)(hb:Below wj.heap.size wj w)(ha:J.C.P.code[a]? = some ia)(hb':J.C.P.code[b]? = some ib)(hoa:2≤ia.op∧ia.op≤5)(hob:2≤ib.op∧ib.op≤5) :
  Calls Tryz.prog 234 #[.pointer (some ⟨J.jb,0,none⟩),.int .i64 (a:Int),.int .i64 (b:Int)] w (ComPost (zgx (zc0 J.C.P J.st J.x ia) (zc0 J.C.P J.st J.x ib)) w):=by
 have HW1:=zH (fun(W:World) (hW:Below w.heap.size w W)=>zoz J wj W a ia H (hb.trans (hW.mono hb.size)) ha hoa)
 have HW2:=zH (fun(W:World) (hW:Below w.heap.size w W)=>zoz J wj W b ib H (hb.trans (hW.mono hb.size)) hb' hob)
 have hs1:=zo3 (H w hb) ia
 have hs2:=zo3 (H w hb) ib
 generalize zc0 J.C.P J.st J.x ia=r1 at HW1 hs1 ⊢
 generalize zc0 J.C.P J.st J.x ib=r2 at HW2 hs2 ⊢
 obtain⟨x1,u1,s1⟩:=r1
 obtain⟨x2,u2,s2⟩:=r2
 dsimp only at hs1 hs2
 unfold zj9 at HW1 HW2
 dsimp only at HW1 HW2
 clear H hb ha hb' hoa hob
 have hmf:∀ (fn:Fn) (first cap:Array Value) (w:World),(Instr.makeFunc fn first cap).run Tryz.prog w=.ok (.func fn first cap) w:=fun _ _ _ _=>rfl
 refine zjv Tryz.func234 rfl ?_
 simp only[Tryz.ntmps234,List.size_toArray,List.length_cons,List.length_nil,Nat.reduceAdd,Nat.reduceSub,Array.replicate_succ,Array.replicate_zero,List.push_toArray,List.append_toArray,List.nil_append,List.cons_append]
 go_wp2_with fail
 have hb3:Below w.heap.size w (((w.alloc (.cells #[.int .i64 0] 3)).alloc (.cells #[.int .i64 0] 3)).alloc (.cells #[.bool false] 4)):=(((Below.refl _ _).alloc (Nat.le_refl _) _).alloc (by simp) _).alloc (by simp;omega) _
 have h6:Blk (((w.alloc (.cells #[.int .i64 0] 3)).alloc (.cells #[.int .i64 0] 3)).alloc (.cells #[.bool false] 4)) w.heap.size 3 #[.int .i64 0]:=((Blk.newAt rfl).alloc _).alloc _
 have h7:Blk (((w.alloc (.cells #[.int .i64 0] 3)).alloc (.cells #[.int .i64 0] 3)).alloc (.cells #[.bool false] 4)) (w.heap.size+1) 3 #[.int .i64 0]:=(Blk.newAt (by simp)).alloc _
 have h8:Blk (((w.alloc (.cells #[.int .i64 0] 3)).alloc (.cells #[.int .i64 0] 3)).alloc (.cells #[.bool false] 4)) (w.heap.size+1+1) 4 #[.bool false]:=Blk.newAt (by simp)
 generalize ((w.alloc (.cells #[.int .i64 0] 3)).alloc (.cells #[.int .i64 0] 3)).alloc (.cells #[.bool false] 4)=w3 at hb3 h6 h7 h8 ⊢
 obtain⟨c6,hc6⟩:∃ c,c=w.heap.size:=⟨_,rfl⟩
 obtain⟨c7,hc7⟩:∃ c,c=w.heap.size+1:=⟨_,rfl⟩
 obtain⟨c8,hc8⟩:∃ c,c=w.heap.size+1+1:=⟨_,rfl⟩
 have HCC:=zH (show w.heap.size≤c6∧w.heap.size≤c7∧w.heap.size≤c8∧c6≠c7∧c6≠c8∧c7≠c8 by omega)
 rw[← hc8]at h8
 rw[← hc7]at h7
 rw[← hc6]at h6
 rw[← hc8,← hc7,← hc6]
 refine(HW1.out w3 hb3).mono ?_
 rintro e w4 ⟨rfl,hb4⟩
 have HB4:=zH (hb3.trans (hb4.mono hb3.size))
 have h6:=h6.below hb4 h6.lt
 have h7:=h7.below hb4 h7.lt
 have h8:=h8.below hb4 h8.lt
 clear hb3 hb4 hc6 hc7 hc8
 have HL:=zH (show c6≠w4.heap.size∧c7≠w4.heap.size∧c8≠w4.heap.size from⟨fun e=>by have:=h6.lt;omega,fun e=>by have:=h7.lt;omega,fun e=>by have:=h8.lt;omega⟩)
 go_wp2_with fail
 have hbe:Below w4.heap.size w4 (w4.alloc (.cells #[.int .i64 (u1:Int)] 3)):=(Below.refl _ _).alloc (Nat.le_refl _) _
 have h10:Blk (w4.alloc (.cells #[.int .i64 (u1:Int)] 3)) w4.heap.size 3 #[.int .i64 (u1:Int)]:=Blk.newAt rfl
 have h6:=h6.below hbe h6.lt
 have h7:=h7.below hbe h7.lt
 have h8:=h8.below hbe h8.lt
 have HB5:=zH (HB4.out.trans (hbe.mono HB4.out.size))
 have hc10:w.heap.size≤w4.heap.size:=HB4.out.size
 obtain⟨c10,hc10e⟩:∃ c,c=w4.heap.size:=⟨_,rfl⟩
 rw[← hc10e]at h10 hc10 HL
 simp only[← hc10e]
 generalize w4.alloc (.cells #[.int .i64 (u1:Int)] 3)=w5 at hbe h10 h6 h7 h8 HB5 ⊢
 refine(HW2.out w5 HB5.out).mono ?_
 rintro e w6 ⟨rfl,hb6⟩
 have h6:=h6.below hb6 h6.lt
 have h7:=h7.below hb6 h7.lt
 have h8:=h8.below hb6 h8.lt
 have h10:=h10.below hb6 h10.lt
 have HB6:=zH (HB5.out.trans (hb6.mono HB5.out.size))
 clear hb6 hbe hc10e
 have STO:=zH (fun(W:World) (o:Int) (u:Nat) (ok:Bool) (hB:Below w.heap.size w W) (k6:Blk W c6 3 #[.int .i64 0]) (k7:Blk W c7 3 #[.int .i64 0]) (k8:Blk W c8 4 #[.bool false]) =>
  show Below w.heap.size w (((W.setCell ⟨c6,0,none⟩ (.int .i64 o)).setCell ⟨c7,0,none⟩ (.int .i64 (u:Int))).setCell ⟨c8,0,none⟩ (.bool ok))from
   ((hB.setCell (p:=⟨c6,0,none⟩) HCC.out.1 _).setCell (p:=⟨c7,0,none⟩) HCC.out.2.1 _).setCell (p:=⟨c8,0,none⟩) HCC.out.2.2.1 _)
 have e6:=h6.cell
 have f6:=h6.frozen
 have l6:=h6.lt
 have e7:=h7.cell
 have f7:=h7.frozen
 have l7:=h7.lt
 have e8:=h8.cell
 have f8:=h8.frozen
 have l8:=h8.lt
 have e10:=h10.cell
 have l10:=h10.lt
 have n67:=HCC.out.2.2.2.1
 have n68:=HCC.out.2.2.2.2.1
 have n78:=HCC.out.2.2.2.2.2
 obtain⟨na,nb,nc⟩:=HL.out
 have n76:=n67.symm
 have n86:=n68.symm
 have n87:=n78.symm
 obtain⟨MM,hMM⟩:∃ MM,MM=zgx (x1,u1,s1) (x2,u2,s2):=⟨_,rfl⟩
 have HMM:=zH hMM
 rw[← hMM]
 clear hMM
 by_cases hu:u1=u2
 ·have ou:((u1:Int)==(u2:Int))=true:=by rw[hu];simp
  have ou2:((u1:Int) != (u2:Int))=false:=by simp only[bne,ou];rfl
  by_cases hx:x1=x2
  ·have ox:(x1==x2)=true:=by rw[hx];simp
   have ox2:(x1 != x2)=false:=by simp only[bne,ox];rfl
   by_cases hneg:x1<0
   ·have hM:MM=some (-1,u1):=by rw[HMM.out];unfold zgx;rw[if_neg (fun h=>by rcases h with h | h;exact h hu;exact h hx),if_pos hneg]
    clear hu hx
    go_wp2_with fail
    refine zn7 ?_
    have hHeld:w6.drew.cell? ⟨c10,0,none⟩=some (.int .i64 (u1:Int)):=h10.drew.cell 0
    refine zah 3 (fun W'=>W'.cell? ⟨c10,0,none⟩=some (.int .i64 (u1:Int))) (by kernel_rfl) rfl rfl (by kernel_rfl) ?_
    simp only[List.take_succ_cons,List.take_zero]
    refine tk 0 rfl (by kernel_rfl) (fun _ _ _ h=>h) hHeld (fun w hSw=>by go_simp;try with_reducible rfl) (by simp only[pA,pB,pC,pD,pE,pF,pG,pH];exact rfl) ?_
    refine rdy 1 (by kernel_rfl) rfl fun K hK=>?_
    go_simp
    refine hK.out _ _ ((h10.far (p:=⟨c6,0,none⟩) na.symm (.int .i64 (-1))).drew.cell 0) (fun hHeld=>?_)
    clear hK K
    refine rdy 2 (by kernel_rfl) rfl fun K hK=>?_
    go_simp
    refine hK.out _ _ (((h10.far (p:=⟨c6,0,none⟩) na.symm (.int .i64 (-1))).far (p:=⟨c7,0,none⟩) nb.symm (.int .i64 (u1:Int))).drew.cell 0) (fun hHeld=>?_)
    clear hK K
    refine lst (by kernel_rfl) rfl fun K hK=>?_
    go_simp
    refine hK _ _ ?_
    refine zgo ?_
    clear hK K hHeld
    go_wp2_with fail
    have k6:=(((h6.set_ 0 (.int .i64 (-1))).far (p:=⟨c7,0,none⟩) n67 (.int .i64 (u1:Int))).far (p:=⟨c8,0,none⟩) n68 (.bool true)).drew
    have k7:=(((h7.far (p:=⟨c6,0,none⟩) n76 (.int .i64 (-1))).set_ 0 (.int .i64 (u1:Int))).far (p:=⟨c8,0,none⟩) n78 (.bool true)).drew
    have k8:=(((h8.far (p:=⟨c6,0,none⟩) n86 (.int .i64 (-1))).far (p:=⟨c7,0,none⟩) n87 (.int .i64 (u1:Int))).set_ 0 (.bool true)).drew
    have FB:=zH (STO.out w6 (-1) u1 true HB6.out h6 h7 h8).drew
    refine⟨comV (some (-1,u1)),?_,?_⟩
    ·have q6:=k6.cell 0
     have q7:=k7.cell 0
     have q8:=k8.cell 0
     generalize ((((w6.setCell ⟨c6,0,none⟩ (.int .i64 (-1))).setCell ⟨c7,0,none⟩ (.int .i64 (u1:Int))).setCell ⟨c8,0,none⟩ (.bool true))).drew=wz at q6 q7 q8 ⊢
     have r6:wz.cell? ⟨c6,0,none⟩=some (.int .i64 (-1)):=q6
     have r7:wz.cell? ⟨c7,0,none⟩=some (.int .i64 (u1:Int)):=q7
     have r8:wz.cell? ⟨c8,0,none⟩=some (.bool true):=q8
     simp[results,Tryz.results234,go_sem,r6,r7,r8,comV]
    ·rw[← HMM.out,hM]
     exact⟨rfl,FB.out⟩
   ·have hM0:MM=(match mems (s1&&&s2)with | []=>none | o::_=>some ((o:Int),u1)):=by rw[HMM.out];unfold zgx;rw[if_neg (fun h=>by rcases h with h | h;exact h hu;exact h hx),if_neg hneg]
    have HM:=zH hM0
    have h48:s1&&&s2<2 ^ 48:=Nat.lt_of_le_of_lt Nat.and_le_left hs1
    have HAND:=ziw s1 s2 hs1 hs2
    clear hu hx hM0
    go_wp2_with fail
    have INI:=zH (show CmI w c6 c7 c8 c10 u1 0 w6 from⟨rfl,h6,h7,h8,h10,HB6.out⟩)
    have HZ:=zH (show w.heap.size≤w6.heap.size from HB6.out.size)
    have HL6:=zH (show c6<w6.heap.size∧c7<w6.heap.size∧c8<w6.heap.size from⟨h6.lt,h7.lt,h8.lt⟩)
    refine(wpIn_wide (n:=3)).1 (zkx (gf:=237) (first:=#[zaa (s1&&&s2)]) (cap:=#[]) rfl zkc (zkv 2 (s1&&&s2) h48) rfl
     (CmI w c6 c7 c8 c10 u1) (CmX w c6 c7 c8 MM) (fun i W W' hr h=>h.recs HZ.out hr) (fun c W W' hr h=>h.recs HZ.out hr) INI.out
     (fun y=>{ tmps:=#[.pointer (some ⟨J.jb,0,none⟩),.int .i64 (a:Int),.int .i64 (b:Int),undef,undef,undef,.pointer (some ⟨c6,0,none⟩),.pointer (some ⟨c7,0,none⟩),.pointer (some ⟨c8,0,none⟩),.int .i64 x1,.pointer (some ⟨c10,0,none⟩),zaa s1,.int .i64 x2,.int .i64 (u2:Int),zaa s2,y,.tuple #[.int .i64 x1,.int .i64 (u1:Int),zaa s1],.pointer (some ⟨J.jb,0,none⟩),.int .i64 (a:Int),.tuple #[.int .i64 x1,.int .i64 (u1:Int),zaa s1],.int .i64 x1,.int .i64 (u1:Int),zaa s1,.tuple #[.int .i64 x2,.int .i64 (u2:Int),zaa s2],.pointer (some ⟨J.jb,0,none⟩),.int .i64 (b:Int),.tuple #[.int .i64 x2,.int .i64 (u2:Int),zaa s2],.int .i64 x2,.int .i64 (u2:Int),zaa s2,.int .i64 (u1:Int),.int .i64 (u2:Int),.bool false,.bool false,.int .i64 x1,.int .i64 x2,.bool false,.bool false,.int .i64 x1,.bool (decide (x1<0)),undef,zaa s1,zaa s2,zaa (s1&&&s2),.func (.func 237) #[zaa (s1&&&s2)] #[],y,undef,undef],defers:=[] }) ?assign ?body ?done ?stop)
    case assign =>
     intro l y W K hK
     clear e6 f6 l6 e7 f7 l7 e8 f8 l8 e10 l10 ou ou2 ox ox2 HAND hmf hneg
     gi_wp2
     rw[Oper.semAt_eq _ _ _ (by intro c h;cases h)]
     simp only[go_sem,execOp]
     go_simp
     gi_wp2
     exact hK
    case stop =>
     rintro c W hX hD
     have HX:=zH hX
     have HD:=zH hD
     obtain rfl:=hX.c
     clear hX hD
     gi_wp2
     refine zia (B:=w6.heap.size) (fun W=>CmX w c6 c7 c8 MM .ret W) (fun W W' hr h=>h.recs HZ.out hr) (fun W h=>?_) _ W ?_ HX.out
     ·obtain⟨o,u,h1,h2,h3⟩:=h.r
      have q6:=h2.cell 0
      have q7:=h3.cell 0
      have q8:=h.h8.cell 0
      have r6:W.cell? ⟨c6,0,none⟩=some (.int .i64 (o:Int)):=q6
      have r7:W.cell? ⟨c7,0,none⟩=some (.int .i64 (u:Int)):=q7
      have r8:W.cell? ⟨c8,0,none⟩=some (.bool true):=q8
      refine⟨comV (some ((o:Int),u)),?_,?_⟩
      ·simp[results,Tryz.results234,go_sem,r6,r7,r8,comV]
      ·rw[← HMM.out,h1]
       exact⟨rfl,h.b⟩
     ·refine⟨?_,by simp⟩
      rintro d hd
      simp at hd
      exact⟨_,Nat.le_refl _,hd,HD.out⟩
    case done =>
     rintro W hI hD
     have HD:=zH hD
     have h6:=hI.h6
     have h7:=hI.h7
     have h8:=hI.h8
     have hl:=hI.i
     have HBW:=zH hI.b
     have hM:MM=none:=by
      rw[HM.out]
      rw[List.length_map]at hl
      rw[List.length_eq_zero_iff.1 hl]
     have e6:=h6.cell
     have f6:=h6.frozen
     have l6:=h6.lt
     have e7:=h7.cell
     have f7:=h7.frozen
     have l7:=h7.lt
     have e8:=h8.cell
     have f8:=h8.frozen
     have l8:=h8.lt
     clear hI hD hl
     go_wp2_with fail
     have k6:=((h6.set_ 0 (.int .i64 0)).far (p:=⟨c7,0,none⟩) n67 (.int .i64 0)).far (p:=⟨c8,0,none⟩) n68 (.bool false)
     have k7:=((h7.far (p:=⟨c6,0,none⟩) n76 (.int .i64 0)).set_ 0 (.int .i64 0)).far (p:=⟨c8,0,none⟩) n78 (.bool false)
     have k8:=((h8.far (p:=⟨c6,0,none⟩) n86 (.int .i64 0)).far (p:=⟨c7,0,none⟩) n87 (.int .i64 0)).set_ 0 (.bool false)
     have FB:=zH (STO.out W 0 0 false HBW.out h6 h7 h8)
     have hkD:(((W.setCell ⟨c6,0,none⟩ (.int .i64 0)).setCell ⟨c7,0,none⟩ (.int .i64 0)).setCell ⟨c8,0,none⟩ (.bool false)).heap[w6.heap.size]? = some (.deferred (some [])):=by
      have p6:c6≠w6.heap.size:=fun e=>by have:=HL6.out.1;omega
      have p7:c7≠w6.heap.size:=fun e=>by have:=HL6.out.2.1;omega
      have p8:c8≠w6.heap.size:=fun e=>by have:=HL6.out.2.2;omega
      have hlW:=(Array.getElem?_eq_some_iff.1 HD.out).1
      rw[(zir _ c8 0 _).block w6.heap.size (by simpa [World.setCell] using hlW) (fun e=>p8 (by injection e with e;exact e.symm)),(zir _ c7 0 _).block w6.heap.size (by simpa [World.setCell] using hlW) (fun e=>p7 (by injection e with e;exact e.symm)),(zir _ c6 0 _).block w6.heap.size (by simpa [World.setCell] using hlW) (fun e=>p6 (by injection e with e;exact e.symm))]
      exact HD.out
     generalize ((W.setCell ⟨c6,0,none⟩ (.int .i64 0)).setCell ⟨c7,0,none⟩ (.int .i64 0)).setCell ⟨c8,0,none⟩ (.bool false)=wz at k6 k7 k8 FB hkD ⊢
     refine zia (B:=w6.heap.size) (fun W=>Blk W c6 3 #[.int .i64 0]∧Blk W c7 3 #[.int .i64 0]∧Blk W c8 4 #[.bool false]∧Below w.heap.size w W) (fun W W' hr h=>⟨h.1.recs hr,h.2.1.recs hr,h.2.2.1.recs hr,h.2.2.2.trans (hr.below.mono HZ.out)⟩) (fun W h=>?_) _ wz ?_ ⟨k6,k7,k8,FB.out⟩
     ·have r6:W.cell? ⟨c6,0,none⟩=some (.int .i64 0):=h.1.cell 0
      have r7:W.cell? ⟨c7,0,none⟩=some (.int .i64 0):=h.2.1.cell 0
      have r8:W.cell? ⟨c8,0,none⟩=some (.bool false):=h.2.2.1.cell 0
      refine⟨comV none,?_,?_⟩
      ·simp[results,Tryz.results234,go_sem,r6,r7,r8,comV]
      ·rw[← HMM.out,hM]
       exact⟨rfl,h.2.2.2⟩
     ·refine⟨?_,by simp⟩
      rintro d hd
      simp at hd
      exact⟨_,Nat.le_refl _,hd,hkD⟩
    case body =>
     rintro l i y W hy hI hz
     obtain⟨o,ho,rfl⟩:∃ o,(mems (s1&&&s2))[i]? = some o∧Value.int .i64 (o:Int)=y:=by simpa using hy
     obtain rfl:=hI.i
     have hM:MM=some ((o:Int),u1):=by
      rw[HM.out]
      cases hmm:mems (s1&&&s2)with
      | nil=>rw[hmm]at ho;simp at ho
      | cons o' r=>rw[hmm]at ho;simp at ho;rw[ho]
     have h6:=hI.h6
     have h7:=hI.h7
     have h8:=hI.h8
     have h10:=hI.h10
     have e6:=h6.cell
     have f6:=h6.frozen
     have l6:=h6.lt
     have e7:=h7.cell
     have f7:=h7.frozen
     have l7:=h7.lt
     have e8:=h8.cell
     have f8:=h8.frozen
     have l8:=h8.lt
     have HBW:=zH hI.b
     clear hI hy ho
     gi_wp2
     have hHeld:W.drew.cell? ⟨c10,0,none⟩=some (.int .i64 (u1:Int)):=h10.drew.cell 0
     refine zlm 4 (fun(W':World)=>W'.cell? ⟨c10,0,none⟩=some (.int .i64 (u1:Int))) (by kernel_rfl) rfl rfl (by kernel_rfl) (by kernel_rfl) ?_
     simp only[List.take_succ_cons,List.take_zero]
     iterate 2(refine tk 0 rfl (by kernel_rfl) (fun _ _ _ h=>h) hHeld (fun w hSw=>by go_simp;try with_reducible rfl) (by simp only[pA,pB,pC,pD,pE,pF,pG,pH];exact rfl) ?_)
     refine rdy 2 (by kernel_rfl) rfl fun K hK=>?_
     go_simp
     refine hK.out _ _ ((h10.far (p:=⟨c6,0,none⟩) na.symm (.int .i64 (o:Int))).drew.cell 0) (fun hHeld=>?_)
     clear hK K
     refine rdy 3 (by kernel_rfl) rfl fun K hK=>?_
     go_simp
     refine hK.out _ _ (((h10.far (p:=⟨c6,0,none⟩) na.symm (.int .i64 (o:Int))).far (p:=⟨c7,0,none⟩) nb.symm (.int .i64 (u1:Int))).drew.cell 0) (fun hHeld=>?_)
     clear hK K
     refine lst (by kernel_rfl) rfl fun K hK=>?_
     go_simp
     refine hK _ _ ?_
     refine zgo ?_
     clear hK K hHeld
     have k6:=(((h6.set_ 0 (.int .i64 (o:Int))).far (p:=⟨c7,0,none⟩) n67 (.int .i64 (u1:Int))).far (p:=⟨c8,0,none⟩) n68 (.bool true)).drew
     have k7:=(((h7.far (p:=⟨c6,0,none⟩) n76 (.int .i64 (o:Int))).set_ 0 (.int .i64 (u1:Int))).far (p:=⟨c8,0,none⟩) n78 (.bool true)).drew
     have k8:=(((h8.far (p:=⟨c6,0,none⟩) n86 (.int .i64 (o:Int))).far (p:=⟨c7,0,none⟩) n87 (.int .i64 (u1:Int))).set_ 0 (.bool true)).drew
     have FB:=zH (STO.out W (o:Int) u1 true HBW.out h6 h7 h8).drew
     have kr:=((((zan.refl W).setCell (p:=⟨c6,0,none⟩) h6 (.int .i64 (o:Int))).setCell (p:=⟨c7,0,none⟩) (h7.far (p:=⟨c6,0,none⟩) n76 (.int .i64 (o:Int))) (.int .i64 (u1:Int))).setCell (p:=⟨c8,0,none⟩) ((h8.far (p:=⟨c6,0,none⟩) n86 (.int .i64 (o:Int))).far (p:=⟨c7,0,none⟩) n87 (.int .i64 (u1:Int))) (.bool true)).trans (zan.of_below (Below.refl _ _).drew)
     have FIN:=zH (And.intro kr (show CmX w c6 c7 c8 MM .ret _ from⟨rfl,⟨o,u1,hM,k6,k7⟩,k8,FB.out⟩))
     clear k6 k7 k8 kr FB
     gi_wp2
     exact FIN.out
  ·have hM:MM=none:=by rw[HMM.out];unfold zgx;rw[if_pos (.inr hx)]
   have ox:(x1==x2)=false:=by simpa using hx
   have ox2:(x1 != x2)=true:=by simp only[bne,ox];rfl
   clear hu hx
   go_wp2_with fail
   have k6:=((h6.set_ 0 (.int .i64 0)).far (p:=⟨c7,0,none⟩) n67 (.int .i64 0)).far (p:=⟨c8,0,none⟩) n68 (.bool false)
   have k7:=((h7.far (p:=⟨c6,0,none⟩) n76 (.int .i64 0)).set_ 0 (.int .i64 0)).far (p:=⟨c8,0,none⟩) n78 (.bool false)
   have k8:=((h8.far (p:=⟨c6,0,none⟩) n86 (.int .i64 0)).far (p:=⟨c7,0,none⟩) n87 (.int .i64 0)).set_ 0 (.bool false)
   have FB:=zH (STO.out w6 0 0 false HB6.out h6 h7 h8)
   refine⟨comV none,?_,?_⟩
   ·have q6:=k6.cell 0
    have q7:=k7.cell 0
    have q8:=k8.cell 0
    generalize (((w6.setCell ⟨c6,0,none⟩ (.int .i64 0)).setCell ⟨c7,0,none⟩ (.int .i64 0)).setCell ⟨c8,0,none⟩ (.bool false))=wz at q6 q7 q8 ⊢
    have r6:wz.cell? ⟨c6,0,none⟩=some (.int .i64 0):=q6
    have r7:wz.cell? ⟨c7,0,none⟩=some (.int .i64 0):=q7
    have r8:wz.cell? ⟨c8,0,none⟩=some (.bool false):=q8
    simp[results,Tryz.results234,go_sem,r6,r7,r8,comV]
   ·rw[← HMM.out,hM]
    exact⟨rfl,FB.out⟩
 ·have hM:MM=none:=by rw[HMM.out];unfold zgx;rw[if_pos (.inl hu)]
  have ou:((u1:Int)==(u2:Int))=false:=zai (by omega)
  have ou2:((u1:Int) != (u2:Int))=true:=by simp only[bne,ou];rfl
  clear hu
  go_wp2_with fail
  have k6:=((h6.set_ 0 (.int .i64 0)).far (p:=⟨c7,0,none⟩) n67 (.int .i64 0)).far (p:=⟨c8,0,none⟩) n68 (.bool false)
  have k7:=((h7.far (p:=⟨c6,0,none⟩) n76 (.int .i64 0)).set_ 0 (.int .i64 0)).far (p:=⟨c8,0,none⟩) n78 (.bool false)
  have k8:=((h8.far (p:=⟨c6,0,none⟩) n86 (.int .i64 0)).far (p:=⟨c7,0,none⟩) n87 (.int .i64 0)).set_ 0 (.bool false)
  have FB:=zH (STO.out w6 0 0 false HB6.out h6 h7 h8)
  refine⟨comV none,?_,?_⟩
  ·have q6:=k6.cell 0
   have q7:=k7.cell 0
   have q8:=k8.cell 0
   generalize (((w6.setCell ⟨c6,0,none⟩ (.int .i64 0)).setCell ⟨c7,0,none⟩ (.int .i64 0)).setCell ⟨c8,0,none⟩ (.bool false))=wz at q6 q7 q8 ⊢
   have r6:wz.cell? ⟨c6,0,none⟩=some (.int .i64 0):=q6
   have r7:wz.cell? ⟨c7,0,none⟩=some (.int .i64 0):=q7
   have r8:wz.cell? ⟨c8,0,none⟩=some (.bool false):=q8
   simp[results,Tryz.results234,go_sem,r6,r7,r8,comV]
  ·rw[← HMM.out,hM]
   exact⟨rfl,FB.out⟩
end
end Go.Proofs.YtkmcihhndgdhpaaGreat
