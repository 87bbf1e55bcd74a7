/- LkG: parts of the walk. -/
import Derived.Test.YtkmcihhndgdhpaaGreatWB7
set_option maxRecDepth 100000
set_option maxHeartbeats 4000000
set_option linter.unusedSimpArgs false
set_option linter.unusedVariables false
namespace Go.Proofs.YtkmcihhndgdhpaaGreat
section
open Go.RowKit Go.Maps Go.ChangeMaps Go.Shelf
set_option linter.unusedSimpArgs false
theorem ztw (C:AX)(wf:World)(VF:FV)(Rs Bs:List Nat)(wp:World)(VP:PtV)(st:PS)(x:Nat)(Y:LkY C wf VF Rs Bs wp VP st x)(V:LkV)(f:LF)(w:World)(h:LkM w wf.heap.size VF.fb VP.sb C.P V f)(hb:Below wf.heap.size wf w) :
  Calls Tryz.prog 232 #[.pointer (some ⟨V.xb,0,none⟩)] w (zi8 C wf VF VP.sb V (zer C.P st Bs C.P.code 0 (f,false)) w):=by
 have hmf:∀ (fn:Fn) (first cap:Array Value) (w:World),(Instr.makeFunc fn first cap).run Tryz.prog w=.ok (.func fn first cap) w:=fun _ _ _ _=>rfl
 obtain⟨sa,sc,rg,rc,ba,bc,r0,hsee⟩:=lk_see Y.l.f
 have HSEE:=zH hsee
 have HC:=Y.l.f.f.h.c
 have hcl:=HC.wf.cl
 have hfl5:=HC.wf.fl
 have hgl5:=HC.wf.gl
 obtain⟨sb,hsb⟩:∃ sb,sb=VP.sb:=⟨_,rfl⟩
 have HSB:=zH hsb
 rw[← hsb]at h ⊢
 obtain⟨cb,hcb⟩:∃ cb,cb=w.heap.size:=⟨_,rfl⟩
 have HCB:=zH (show w.heap.size≤cb by omega)
 have HON:=zH (show ∀ s W',PsW C wf VF sb V cb w s W'→Below wf.heap.size wf W' from fun s W' hp=>hp.below0 hb (by have:=hb.size;omega))
 have HPT:=zH (show ∀ W',Below wf.heap.size wf W'→PtAt wp.heap.size VF.fb wp VP st x W' from fun W' hb=>Y.p.below hb)
 have hb0:Below w.heap.size w (w.alloc (.cells #[.bool false] 4)):=(Below.refl _ _).alloc (Nat.le_refl _) _
 have HP0:=zH (show PsW C wf VF sb V cb w (f,false) (w.alloc (.cells #[.bool false] 4))from⟨⟨h.below hb0,by rw[hcb];exact Blk.newAt rfl⟩,LkFr.below hb0⟩)
 obtain⟨M,hM⟩:∃ M,M=zer C.P st Bs C.P.code 0 (f,false):=⟨_,rfl⟩
 rw[← hM]
 clear hb0 h hb hsee hsb
 go_enter Tryz.func232,Tryz.ntmps232
 go_upto_region 3 with fail
 rw[← hcb]
 generalize w.alloc (.cells #[.bool false] 4)=w1 at HP0 ⊢
 clear hcb hmf
 have hfc:=(HSEE.out w1 (HON.out _ _ HP0.out)).f
 have hpc:=(HSEE.out w1 (HON.out _ _ HP0.out)).p
 have hfl:=(HSEE.out w1 (HON.out _ _ HP0.out)).fl
 have hxc:=HP0.out.k.m.x.cell
 unfold zcl at hxc
 have hxl:=HP0.out.k.m.x.lt
 have ST:=zH (show AbR C wf VF sb V cb w st Bs M C.P.code.length (.int .i64 (0:Int)) w1 from⟨0,(f,false),rfl,rfl,Nat.zero_le _,HP0.out,by rw[List.drop_zero];exact hM.symm⟩)
 clear HP0 hM
 go_wp2_with fail
 clear hfc hpc hfl hxc hxl
 go_loopg [25] C.P.code.length (fun gk v25 wr=>AbR C wf VF sb V cb w st Bs M gk v25 wr)
 case atStart=>exact ST.out
 case round =>
  obtain⟨k,s2,rfl,hg2,hk,hP,hM⟩:=hrel
  have HG:=zH hg2
  have HP:=zH hP
  have HM:=zH hM
  have HFr:=zH (HSEE.out wr (HON.out _ _ hP))
  have hfc:=HFr.out.f
  have hpc:=HFr.out.p
  have hfl:=HFr.out.fl
  have hxc:=hP.k.m.x.cell
  unfold zcl at hxc
  have hxl:=hP.k.m.x.lt
  clear hP hM hg2
  by_cases hlt:k<C.P.code.length
  ·obtain⟨i,hi⟩:∃ i,C.P.code[k]? = some i:=⟨_,List.getElem?_eq_getElem hlt⟩
   obtain⟨aa,ac,hic,har,hkl⟩:=HC.icells HFr.out.onw hi
   have i0:wr.cell? ⟨C.cg,k*14,none⟩=some (.int .i64 i.op):=hic 0 (by omega)
   have i1:wr.cell? ⟨C.cg,k*14+1,none⟩=some (.int .i64 i.place):=hic 1 (by omega)
   have i2:wr.cell? ⟨C.cg,k*14+2,none⟩=some (.int .i64 i.fn):=hic 2 (by omega)
   have i3:wr.cell? ⟨C.cg,k*14+3,none⟩=some (.int .i64 i.x):=hic 3 (by omega)
   have i4:wr.cell? ⟨C.cg,k*14+4,none⟩=some (.bool i.y.c):=hic 4 (by omega)
   have i5:wr.cell? ⟨C.cg,k*14+5,none⟩=some (.int .i64 i.y.n):=hic 5 (by omega)
   have i6:wr.cell? ⟨C.cg,k*14+6,none⟩=some (.bool i.z.c):=hic 6 (by omega)
   have i7:wr.cell? ⟨C.cg,k*14+7,none⟩=some (.int .i64 i.z.n):=hic 7 (by omega)
   have i8:wr.cell? ⟨C.cg,k*14+8,none⟩=some (.int .i64 i.bin):=hic 8 (by omega)
   have i9:wr.cell? ⟨C.cg,k*14+9,none⟩=some (.int .i64 i.var):=hic 9 (by omega)
   have i10:wr.cell? ⟨C.cg,k*14+10,none⟩=some (.int .i64 i.site):=hic 10 (by omega)
   have i11:wr.cell? ⟨C.cg,k*14+11,none⟩=some (.int .i64 i.call):=hic 11 (by omega)
   have i12:wr.cell? ⟨C.cg,k*14+12,none⟩=some (.slice aa i.args.length ac):=hic 12 (by omega)
   have i13:wr.cell? ⟨C.cg,k*14+13,none⟩=some (.int .i64 i.to):=hic 13 (by omega)
   have HI:=zH hi
   have HMd:=zH (show zer C.P st Bs (C.P.code.drop (k+1)) (k+1) (if onB C.P k&&rsB C.P 0 i.fn then zew 4 (zb7 C.P st Bs (zdo C.P s2 k i) k i).2 (zap C.P k) (zb7 C.P st Bs (zdo C.P s2 k i) k i).1 else s2)=M from by rw[← HM.out,zcc hi,zer])
   have hbi:Below wr.heap.size wr (wr.alloc (.cells #[.int .i64 (i.op:Int),.int .i64 i.place,.int .i64 (i.fn:Int),.int .i64 i.x,.bool i.y.c,.int .i64 (i.y.n:Int),.bool i.z.c,.int .i64 (i.z.n:Int),.int .i64 (i.bin:Int),.int .i64 (i.var:Int),.int .i64 (i.site:Int),.int .i64 (i.call:Int),.slice aa i.args.length ac,.int .i64 (i.to:Int)] 309)):=(Below.refl _ _).alloc (Nat.le_refl _) _
   have hib:Blk (wr.alloc (.cells #[.int .i64 (i.op:Int),.int .i64 i.place,.int .i64 (i.fn:Int),.int .i64 i.x,.bool i.y.c,.int .i64 (i.y.n:Int),.bool i.z.c,.int .i64 (i.z.n:Int),.int .i64 (i.bin:Int),.int .i64 (i.var:Int),.int .i64 (i.site:Int),.int .i64 (i.call:Int),.slice aa i.args.length ac,.int .i64 (i.to:Int)] 309)) wr.heap.size 309 #[.int .i64 (i.op:Int),.int .i64 i.place,.int .i64 (i.fn:Int),.int .i64 i.x,.bool i.y.c,.int .i64 (i.y.n:Int),.bool i.z.c,.int .i64 (i.z.n:Int),.int .i64 (i.bin:Int),.int .i64 (i.var:Int),.int .i64 (i.site:Int),.int .i64 (i.call:Int),.slice aa i.args.length ac,.int .i64 (i.to:Int)]:=Blk.newAt rfl
   clear hic hi HM har
   go_wp2_with fail
   generalize hW:wr.alloc (.cells #[.int .i64 (i.op:Int),.int .i64 i.place,.int .i64 (i.fn:Int),.int .i64 i.x,.bool i.y.c,.int .i64 (i.y.n:Int),.bool i.z.c,.int .i64 (i.z.n:Int),.int .i64 (i.bin:Int),.int .i64 (i.var:Int),.int .i64 (i.site:Int),.int .i64 (i.call:Int),.slice aa i.args.length ac,.int .i64 (i.to:Int)] 309)=wi at hbi hib ⊢
   obtain⟨ib,hibe⟩:∃ ib,ib=wr.heap.size:=⟨_,rfl⟩
   rw[← hibe]at hib ⊢
   clear hW i0 i1 i2 i3 i4 i5 i6 i7 i8 i9 i10 i11 i12 i13 hfc hpc hfl hxc hxl hibe
   have HPi:=zH (show AbI ib #[.int .i64 (i.op:Int),.int .i64 i.place,.int .i64 (i.fn:Int),.int .i64 i.x,.bool i.y.c,.int .i64 (i.y.n:Int),.bool i.z.c,.int .i64 (i.z.n:Int),.int .i64 (i.bin:Int),.int .i64 (i.var:Int),.int .i64 (i.site:Int),.int .i64 (i.call:Int),.slice aa i.args.length ac,.int .i64 (i.to:Int)] C wf VF sb V cb w s2 wi from⟨HP.out.below hbi,hib⟩)
   clear hbi hib HP HFr
   have hio:=Y.l.w.io k i HI.out
   have hfn:=HC.wf.fn k i HI.out
   have HFi:=zH (HSEE.out wi.drew (HON.out _ _ HPi.out.drew.p))
   have hHeld:=And.intro (show ∀ j,wi.drew.cell? ⟨V.xb,j,none⟩=#[.pointer (some ⟨VF.fb,0,none⟩),.pointer (some ⟨sb,0,none⟩),.slice (some ⟨V.g 0,0,none⟩) C.P.code.length C.P.code.length,.slice (some ⟨V.g 1,0,none⟩) C.P.fs.length C.P.fs.length,.slice (some ⟨V.g 2,0,none⟩) C.P.fs.length C.P.fs.length,.slice (some ⟨V.g 3,0,none⟩) C.P.fs.length C.P.fs.length,.slice (some ⟨V.g 4,0,none⟩) C.P.code.length C.P.code.length,.slice (some ⟨V.g 5,0,none⟩) C.P.fs.length C.P.fs.length,.slice (some ⟨V.g 6,0,none⟩) C.P.fs.length C.P.fs.length][j]? from HPi.out.drew.p.k.m.x.cell) (And.intro HFi.out.f (And.intro HFi.out.rc (HPi.out.drew.i.cell 2)))
   refine zah 24 (fun(W':World)=>(∀ j,W'.cell? ⟨V.xb,j,none⟩=#[.pointer (some ⟨VF.fb,0,none⟩),.pointer (some ⟨sb,0,none⟩),.slice (some ⟨V.g 0,0,none⟩) C.P.code.length C.P.code.length,.slice (some ⟨V.g 1,0,none⟩) C.P.fs.length C.P.fs.length,.slice (some ⟨V.g 2,0,none⟩) C.P.fs.length C.P.fs.length,.slice (some ⟨V.g 3,0,none⟩) C.P.fs.length C.P.fs.length,.slice (some ⟨V.g 4,0,none⟩) C.P.code.length C.P.code.length,.slice (some ⟨V.g 5,0,none⟩) C.P.fs.length C.P.fs.length,.slice (some ⟨V.g 6,0,none⟩) C.P.fs.length C.P.fs.length][j]?)∧(∀ i,W'.cell? ⟨VF.fb,i,none⟩=#[.pointer (some ⟨C.pb,0,none⟩),.map (some VF.onb),.slice sa C.P.gos.length sc,.slice (some ⟨rg,0,none⟩) (C.P.gos.length+1) rc,.slice ba C.P.gos.length bc,.map (some VF.lob),.map (some VF.mab)][i]?)∧W'.cell? ⟨rg,0,none⟩=some (.map (some r0))∧W'.cell? ⟨ib,2,none⟩=some (.int .i64 (i.fn:Int))) (by kernel_rfl) rfl rfl (by kernel_rfl) ?_
   simp only[List.take_succ_cons,List.take_zero]
   iterate 8(refine tk 0 rfl (by kernel_rfl) (fun _ _ _ h=>h) hHeld (fun w hSw=>by go_simp;try with_reducible rfl) (by simp only[pA,pB,pC,pD,pE,pF,pG,pH];exact rfl) ?_)
   refine rdy 8 (by kernel_rfl) rfl fun K hK=>?_
   go_simp
   refine(hasE _ VF.onb k (onB C.P) HFi.out.on (by omega)).mono ?_
   rintro e w2 ⟨rfl,rfl⟩
   refine hK.out _ _ hHeld (fun hHeld=>?_)
   clear hK K
   cases hon:onB C.P k
   ·have REL:=zH (show AbR C wf VF sb V cb w st Bs M (C.P.code.length-(k+1)) (.int .i64 ((k+1:Nat):Int)) wi.drew from⟨k+1,s2,rfl,rfl,hlt,HPi.out.drew.p,by have:=HMd.out;rw[hon]at this;exact this⟩)
    clear hon
    iterate 2(refine tk 9 rfl (by kernel_rfl) (fun _ _ _ h=>h) hHeld (fun w hSw=>by go_simp;try with_reducible rfl) (by simp only[pA,pB,pC,pD,pE,pF,pG,pH];exact rfl) ?_)
    iterate 13(refine sk 11 rfl (by kernel_rfl) (fun _ _ _ h=>h) hHeld (by simp only[pA,pB,pC,pD,pE,pF,pG,pH];exact rfl) ?_)
    refine lst (by kernel_rfl) rfl fun K hK=>?_
    go_simp
    refine hK _ _ ?_
    clear hK K hHeld HFi HPi
    go_wp2_with fail
    go_roundg (C.P.code.length-(k+1))
    case measure=>have:=HG.out;omega
    case rel=>rw[show((k:Int)+1)=((k+1:Nat):Int) by omega];exact REL.out
   ·iterate 13(refine tk 9 rfl (by kernel_rfl) (fun _ _ _ h=>h) hHeld (fun w hSw=>by go_simp;try with_reducible rfl) (by simp only[pA,pB,pC,pD,pE,pF,pG,pH];exact rfl) ?_)
    refine rdy 22 (by kernel_rfl) rfl fun K hK=>?_
    go_simp
    refine(hasE _ r0 i.fn (rsB C.P 0) HFi.out.r0 (by omega)).mono ?_
    rintro e w2 ⟨rfl,rfl⟩
    refine hK.out _ _ hHeld (fun hHeld=>?_)
    clear hK K
    refine tk 23 rfl (by kernel_rfl) (fun _ _ _ h=>h) hHeld (fun w hSw=>by go_simp;try with_reducible rfl) (by simp only[pA,pB,pC,pD,pE,pF,pG,pH];exact rfl) ?_
    refine lst (by kernel_rfl) rfl fun K hK=>?_
    go_simp
    refine hK _ _ ?_
    clear hK K hHeld HFi
    have HPj:=zH HPi.out.drew
    clear HPi
    generalize wi.drew=wj at HPj ⊢
    cases hrt:rsB C.P 0 i.fn
    ·have REL:=zH (show AbR C wf VF sb V cb w st Bs M (C.P.code.length-(k+1)) (.int .i64 ((k+1:Nat):Int)) wj from⟨k+1,s2,rfl,rfl,hlt,HPj.out.p,by have:=HMd.out;rw[hon,hrt]at this;exact this⟩)
     clear hon hrt HPj
     go_wp2_with fail
     go_roundg (C.P.code.length-(k+1))
     case measure=>have:=HG.out;omega
     case rel=>rw[show((k:Int)+1)=((k+1:Nat):Int) by omega];exact REL.out
    ·have HMe:=zH (show zer C.P st Bs (C.P.code.drop (k+1)) (k+1) (zew 4 (zb7 C.P st Bs (zdo C.P s2 k i) k i).2 (zap C.P k) (zb7 C.P st Bs (zdo C.P s2 k i) k i).1)=M from by have:=HMd.out;rw[hon,hrt]at this;exact this)
     clear hon hrt HMd
     go_wp2_with fail
     have HFj:=zH (HSEE.out wj.drew (HON.out _ _ HPj.out.drew.p))
     obtain⟨fu,hfu⟩:∃ fu,C.P.fs[i.fn]? = some fu:=⟨_,List.getElem?_eq_getElem hfn⟩
     have hHeld:=And.intro (show ∀ j,wj.drew.cell? ⟨V.xb,j,none⟩=#[.pointer (some ⟨VF.fb,0,none⟩),.pointer (some ⟨sb,0,none⟩),.slice (some ⟨V.g 0,0,none⟩) C.P.code.length C.P.code.length,.slice (some ⟨V.g 1,0,none⟩) C.P.fs.length C.P.fs.length,.slice (some ⟨V.g 2,0,none⟩) C.P.fs.length C.P.fs.length,.slice (some ⟨V.g 3,0,none⟩) C.P.fs.length C.P.fs.length,.slice (some ⟨V.g 4,0,none⟩) C.P.code.length C.P.code.length,.slice (some ⟨V.g 5,0,none⟩) C.P.fs.length C.P.fs.length,.slice (some ⟨V.g 6,0,none⟩) C.P.fs.length C.P.fs.length][j]? from HPj.out.drew.p.k.m.x.cell) (And.intro HFj.out.f (And.intro HFj.out.p (And.intro (show wj.drew.cell? ⟨C.fg,i.fn*5+3,none⟩=some (.int .i64 (fu.from_:Int))from HC.fcell HFj.out.onw hfu 3 (by omega)) (HPj.out.drew.i.cell 2))))
     refine zah 16 (fun(W':World)=>(∀ j,W'.cell? ⟨V.xb,j,none⟩=#[.pointer (some ⟨VF.fb,0,none⟩),.pointer (some ⟨sb,0,none⟩),.slice (some ⟨V.g 0,0,none⟩) C.P.code.length C.P.code.length,.slice (some ⟨V.g 1,0,none⟩) C.P.fs.length C.P.fs.length,.slice (some ⟨V.g 2,0,none⟩) C.P.fs.length C.P.fs.length,.slice (some ⟨V.g 3,0,none⟩) C.P.fs.length C.P.fs.length,.slice (some ⟨V.g 4,0,none⟩) C.P.code.length C.P.code.length,.slice (some ⟨V.g 5,0,none⟩) C.P.fs.length C.P.fs.length,.slice (some ⟨V.g 6,0,none⟩) C.P.fs.length C.P.fs.length][j]?)∧(∀ i,W'.cell? ⟨VF.fb,i,none⟩=#[.pointer (some ⟨C.pb,0,none⟩),.map (some VF.onb),.slice sa C.P.gos.length sc,.slice (some ⟨rg,0,none⟩) (C.P.gos.length+1) rc,.slice ba C.P.gos.length bc,.map (some VF.lob),.map (some VF.mab)][i]?)∧(∀ i,W'.cell? ⟨C.pb,i,none⟩=#[.pointer (some ⟨C.X.tb,0,none⟩),.int .i64 C.P.nv,.int .i64 C.P.nm,.slice (some ⟨C.fg,0,none⟩) C.P.fs.length C.fcap,.slice (some ⟨C.cg,0,none⟩) C.P.code.length C.ccap,C.X.av,C.X.nv,C.X.gv,.int .i64 C.P.main][i]?)∧W'.cell? ⟨C.fg,i.fn*5+3,none⟩=some (.int .i64 (fu.from_:Int))∧W'.cell? ⟨ib,2,none⟩=some (.int .i64 (i.fn:Int))) (by kernel_rfl) rfl rfl (by kernel_rfl) ?_
     simp only[List.take_succ_cons,List.take_zero]
     iterate 16(refine tk 0 rfl (by kernel_rfl) (fun _ _ _ h=>h) hHeld (fun w hSw=>by go_simp;try with_reducible rfl) (by simp only[pA,pB,pC,pD,pE,pF,pG,pH];exact rfl) ?_)
     refine lst (by kernel_rfl) rfl fun K hK=>?_
     go_simp
     refine hK _ _ ?_
     clear hK K hHeld HFj
     have HPk:=zH HPj.out.drew
     clear HPj
     generalize wj.drew=wk at HPk ⊢
     go_upto_if 71 with fail
     go_cut [] (fun wx=>AbI ib #[.int .i64 (i.op:Int),.int .i64 i.place,.int .i64 (i.fn:Int),.int .i64 i.x,.bool i.y.c,.int .i64 (i.y.n:Int),.bool i.z.c,.int .i64 (i.z.n:Int),.int .i64 (i.bin:Int),.int .i64 (i.var:Int),.int .i64 (i.site:Int),.int .i64 (i.call:Int),.slice aa i.args.length ac,.int .i64 (i.to:Int)] C wf VF sb V cb w (zdo C.P s2 k i) wx)
     case first =>
      by_cases hkf:k=fu.from_
      ·have okf:((k:Int)==(fu.from_:Int))=true:=by simp[hkf]
       have HA:=zH (show zdo C.P s2 k i=za7 s2 4 k (s2.1 5 i.fn) by unfold zdo;rw[hfu];exact if_pos hkf)
       clear hkf hfu
       go_wp2_with fail
       have hHeld:=And.intro (show ∀ j,wk.drew.cell? ⟨V.xb,j,none⟩=#[.pointer (some ⟨VF.fb,0,none⟩),.pointer (some ⟨sb,0,none⟩),.slice (some ⟨V.g 0,0,none⟩) C.P.code.length C.P.code.length,.slice (some ⟨V.g 1,0,none⟩) C.P.fs.length C.P.fs.length,.slice (some ⟨V.g 2,0,none⟩) C.P.fs.length C.P.fs.length,.slice (some ⟨V.g 3,0,none⟩) C.P.fs.length C.P.fs.length,.slice (some ⟨V.g 4,0,none⟩) C.P.code.length C.P.code.length,.slice (some ⟨V.g 5,0,none⟩) C.P.fs.length C.P.fs.length,.slice (some ⟨V.g 6,0,none⟩) C.P.fs.length C.P.fs.length][j]? from HPk.out.drew.p.k.m.x.cell) (And.intro (HPk.out.drew.i.cell 2) (HPk.out.drew.p.k.m.cell (r:=5) (i:=i.fn) (by omega) (by unfold za8;simpa using hfn)))
       refine zah 15 (fun(W':World)=>(∀ j,W'.cell? ⟨V.xb,j,none⟩=#[.pointer (some ⟨VF.fb,0,none⟩),.pointer (some ⟨sb,0,none⟩),.slice (some ⟨V.g 0,0,none⟩) C.P.code.length C.P.code.length,.slice (some ⟨V.g 1,0,none⟩) C.P.fs.length C.P.fs.length,.slice (some ⟨V.g 2,0,none⟩) C.P.fs.length C.P.fs.length,.slice (some ⟨V.g 3,0,none⟩) C.P.fs.length C.P.fs.length,.slice (some ⟨V.g 4,0,none⟩) C.P.code.length C.P.code.length,.slice (some ⟨V.g 5,0,none⟩) C.P.fs.length C.P.fs.length,.slice (some ⟨V.g 6,0,none⟩) C.P.fs.length C.P.fs.length][j]?)∧W'.cell? ⟨ib,2,none⟩=some (.int .i64 (i.fn:Int))∧W'.cell? ⟨V.g 5,i.fn,none⟩=some (zaa (s2.1 5 i.fn))) (by kernel_rfl) rfl rfl (by kernel_rfl) ?_
       simp only[List.take_succ_cons,List.take_zero]
       iterate 15(refine tk 0 rfl (by kernel_rfl) (fun _ _ _ h=>h) hHeld (fun w hSw=>by go_simp;try with_reducible rfl) (by simp only[pA,pB,pC,pD,pE,pF,pG,pH];exact rfl) ?_)
       refine lst (by kernel_rfl) rfl fun K hK=>?_
       go_simp
       have HPd:=HPk.out.drew
       have hm48:=HPd.p.k.m.sm 5 i.fn
       refine(zlx _ _ _ _ _ cb s2 wk.drew 4 k (s2.1 5 i.fn) HPd.p.k (by omega) (by unfold za8;simpa using hlt) hm48).mono ?_
       intro e w5 hst
       obtain⟨rfl,hP5⟩:=HPd.step hst
       refine hK _ _ ?_
       clear hK K hHeld hst hm48 HPd
       have HP5:=zH hP5
       clear hP5
       go_wp2_with fail
       go_meet
       rw[HA.out]
       exact HP5.out
      ·have okf:((k:Int)==(fu.from_:Int))=false:=zai (by omega)
       have HA:=zH (show zdo C.P s2 k i=s2 by unfold zdo;rw[hfu];exact if_neg hkf)
       clear hkf hfu
       go_wp2_with fail
       go_meet
       rw[HA.out]
       exact HPk.out
     case rest =>
      generalize zdo C.P s2 k i=s3 at hcut HMe
      have HPc:=zH hcut
      clear hcut HPk hfu
      have hibc:=HPc.out.i.cell
      have hibl:=HPc.out.i.lt
      have hxc:=HPc.out.p.k.m.x.cell
      unfold zcl at hxc
      have hxl:=HPc.out.p.k.m.x.lt
      have hg4:wc.cell? ⟨V.g 4,k,none⟩=some (zaa (s3.1 4 k)):=HPc.out.p.k.m.cell (r:=4) (i:=k) (by omega) (by unfold za8;simpa using hlt)
      have hh48:s3.1 4 k<2 ^ 48:=HPc.out.p.k.m.sm 4 k
      go_upto_block 2 with fail
      clear hibc hibl hxc hxl hg4
      go_cut [7] (fun v7 wx=>∃ (s4:LS) (h:Nat),v7=zaa h∧h<2 ^ 48∧PsW C wf VF sb V cb w s4 wx∧zb7 C.P st Bs s3 k i=(s4,h))
      case rest =>
       obtain⟨s4,h,rfl,h48,hP3,hmid⟩:=hcut
       have HP3:=zH hP3
       have HMn:=zH (show zer C.P st Bs (C.P.code.drop (k+1)) (k+1) (zew 4 h (zap C.P k) s4)=M from by have:=HMe.out;rw[hmid]at this;exact this)
       clear hP3 hmid hh48 HMe HPc
       have HF3:=zH (HSEE.out _ (HON.out _ _ HP3.out))
       have hfc:=HF3.out.f
       have hfl:=HF3.out.fl
       have hxc:=HP3.out.k.m.x.cell
       unfold zcl at hxc
       have hxl:=HP3.out.k.m.x.lt
       go_wp2_with fail
       refine(zkf C HC _ VF.fb k i HF3.out.onw (hfc 0) HI.out).mono ?_
       rintro e w5 ⟨v,rfl,hrow,hnil,hb5⟩
       obtain⟨va,vc,rfl,hrw⟩:=zr4 HP3.out.k hrow
       have HRW:=zH hrw
       have HP5:=zH (HP3.out.below hb5)
       have hln:=zls C.P k
       have HLT:=zH (zi1 HC.wf k)
       obtain⟨l,hl⟩:∃ l,l=zap C.P k:=⟨_,rfl⟩
       rw[← hl]at HRW hln HMn HLT ⊢
       obtain⟨M3,hM3⟩:∃ M3,M3=zew 4 h l s4:=⟨_,rfl⟩
       have ST3:=zH (show AbN C wf VF sb V cb w w5 l h M3 l.length (.int .i64 (0:Int)) w5 from⟨0,s4,rfl,rfl,Nat.zero_le _,HP5.out,LkFr.refl _ _ _,by rw[List.drop_zero];exact hM3.symm⟩)
       rw[← hM3]at HMn
       clear hl hM3 hrow hnil hrw hb5 HP3 HP5 HF3 hfc hfl hxc hxl
       go_wp2_with fail
       go_loopg [194] l.length (fun gk v194 wr=>AbN C wf VF sb V cb w w5 l h M3 gk v194 wr)
       case atStart=>exact ST3.out
       case round =>
        obtain⟨j,s5,rfl,hg3,hj,hP,hfr5,hM⟩:=hrel
        have HG3:=zH hg3
        have HP:=zH hP
        have HM:=zH hM
        have hxc:=hP.k.m.x.cell
        unfold zcl at hxc
        have hxl:=hP.k.m.x.lt
        clear hP hM hg3
        by_cases hltj:j<l.length
        ·obtain⟨x,hx⟩:∃ x,l[j]? = some x:=⟨_,List.getElem?_eq_getElem hltj⟩
         obtain⟨gb,hva,hgc⟩:=HRW.out j x hx
         subst hva
         have hgx:=hgc wr hfr5
         have hxlt:=HLT.out x (List.mem_of_getElem? hx)
         have HM3:=zH (show zew 4 h (l.drop (j+1)) (za7 s5 4 x h)=M3 from by rw[← HM.out,zcc hx,zew])
         have HFR5:=zH hfr5
         clear hgc hx hfr5
         go_wp2_with fail
         refine(zlx _ _ _ _ _ cb s5 wr 4 x h HP.out.k (by omega) (by unfold za8;simpa using hxlt) h48).mono ?_
         intro e w6 hst
         have HFR6:=zH (HFR5.out.trans hst.2.2)
         obtain⟨rfl,hP6⟩:=HP.out.step hst
         have REL:=zH (show AbN C wf VF sb V cb w w5 l h M3 (l.length-(j+1)) (.int .i64 ((j+1:Nat):Int)) w6 from⟨j+1,_,rfl,rfl,hltj,hP6,HFR6.out,HM3.out⟩)
         clear hst hP6 hxc hxl hgx
         go_wp2_with fail
         go_roundg (l.length-(j+1))
         case measure=>have:=HG3.out;omega
         case rel=>rw[show((j:Int)+1)=((j+1:Nat):Int) by omega];exact REL.out
        ·obtain rfl:j=l.length:=by omega
         have hs:s5=M3:=by rw[← HM.out,List.drop_length,zew]
         subst hs
         have REL:=zH (show AbR C wf VF sb V cb w st Bs M (C.P.code.length-(k+1)) (.int .i64 ((k+1:Nat):Int)) wr from⟨k+1,_,rfl,rfl,hlt,HP.out,HMn.out⟩)
         clear hxc hxl HRW
         go_wp2_with fail
         go_roundg (C.P.code.length-(k+1))
         case measure=>have:=HG.out;omega
         case rel=>rw[show((k:Int)+1)=((k+1:Nat):Int) by omega];exact REL.out
      case first =>
       refine zvn Y HSEE HSB HON HPT HI hlt HPc ?_
       intros
       rename_i W s4 h h48 hp hm
       go_wp2_with fail
       go_meet
       exact⟨s4,h,rfl,h48,hp,hm⟩
  ·obtain rfl:k=C.P.code.length:=by omega
   have hs:s2=M:=by rw[← HM.out,List.drop_length,zer]
   subst hs
   have FIN:=zH (HP.out.post HCB.out)
   have hcc:=HP.out.k.c.cell
   have hcl2:=HP.out.k.c.lt
   clear hfc hpc hfl hxc hxl HFr HP
   go_wp2_with fail
   go_ret
   exact FIN.out
end
end Go.Proofs.YtkmcihhndgdhpaaGreat
