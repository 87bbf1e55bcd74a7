/- RpE: parts of the walk. -/
import Derived.Test.YtkmcihhndgdhpaaGreatWB5
set_option maxRecDepth 100000
set_option maxHeartbeats 4000000
set_option linter.unusedSimpArgs false
set_option linter.unusedVariables false
namespace Go.Proofs.YtkmcihhndgdhpaaGreat
section
open Go.RowKit Go.Maps Go.ChangeMaps Go.Shelf
set_option linter.unusedSimpArgs false
structure Rp where
 a:Int
 b:Int
 new:Int
 field:Nat
 ra:Nat
 rb:Nat
 la:List Nat
 lb:List Nat
def pairR (ia ib:In)(la lb:List Nat):Option (Int×Nat)→Option (Nat×Nat)→Option Rp
 | some (o,u),some (r,t)=>some ⟨ia.place,ib.place,o,u,r,t,la,lb⟩
 | _,_=>none
noncomputable def zj8 (P:Pr)(st:PS)(x:Nat)(f:LF)(a b:Nat)(ia ib:In):Option Rp :=
 if(!zc7 ia.op && !zc7 ib.op)=true∨f 0 a&&&f 0 b≠0 then none
 else pairR ia ib (mems (f 0 a)) (mems (f 0 b)) (zgx (zc0 P st x ia) (zc0 P st x ib)) (zjr P f a b)
def zbt (r:Rp)(va vb:Value):Array Value:=#[.int .i64 r.a,.int .i64 r.b,.int .i64 r.new,.int .i64 (r.field:Int),.int .i64 (r.ra:Int),.int .i64 (r.rb:Int),va,vb]
def zbj:Array Value:=#[.int .i64 0,.int .i64 0,.int .i64 0,.int .i64 0,.int .i64 0,.int .i64 0,.slice none 0 0,.slice none 0 0]
def zsm (o:Option Rp)(w:World)(e:Ending)(w':World):Prop:=Below w.heap.size w w'∧match o with
 | none=>e=.returned (.tuple #[.agg zbj,.bool false])
 | some r=>∃ va vb,e=.returned (.tuple #[.agg (zbt r va vb),.bool true])∧w'.ownsRow w.heap.size 3 1 va r.la.length (ints r.la)∧w'.ownsRow w.heap.size 3 1 vb r.lb.length (ints r.lb)
theorem zp7 {C:AX}(HC:AXok C){k:Nat}{i:In}(hi:C.P.code[k]? = some i):∃ aa ac,∀ W,C.on W→(
W.cell? ⟨C.cg,k*14,none⟩=some (.int .i64 i.op)∧W.cell? ⟨C.cg,k*14+1,none⟩=some (.int .i64 i.place)∧W.cell? ⟨C.cg,k*14+2,none⟩=some (.int .i64 i.fn)∧W.cell? ⟨C.cg,k*14+3,none⟩=some (.int .i64 i.x)∧W.cell? ⟨C.cg,k*14+4,none⟩=some (.bool i.y.c)∧W.cell? ⟨C.cg,k*14+5,none⟩=some (.int .i64 i.y.n)∧W.cell? ⟨C.cg,k*14+6,none⟩=some (.bool i.z.c)∧W.cell? ⟨C.cg,k*14+7,none⟩=some (.int .i64 i.z.n)∧W.cell? ⟨C.cg,k*14+8,none⟩=some (.int .i64 i.bin)∧W.cell? ⟨C.cg,k*14+9,none⟩=some (.int .i64 i.var)∧W.cell? ⟨C.cg,k*14+10,none⟩=some (.int .i64 i.site)∧W.cell? ⟨C.cg,k*14+11,none⟩=some (.int .i64 i.call)∧W.cell? ⟨C.cg,k*14+12,none⟩=some (.slice aa i.args.length ac)∧W.cell? ⟨C.cg,k*14+13,none⟩=some (.int .i64 i.to)
):=by
 obtain⟨aa,ac,hic,_,_⟩:=HC.icells (Below.refl C.w0.heap.size C.w0) hi
 have hr:=HC.prog.cr
 rw[HC.cv]at hr
 refine⟨aa,ac,fun W2 hW2=>?_⟩
 have hh:∀ j,j<14→W2.cell? ⟨C.cg,k*14+j,none⟩=(zas i (.slice aa i.args.length ac))[j]? := fun j hj=>by
  rw[hW2.cell (p:=⟨C.cg,k*14+j,none⟩) (hr.lt C.cg rfl).2]
  exact hic j hj
 exact⟨hh 0 (by omega),hh 1 (by omega),hh 2 (by omega),hh 3 (by omega),hh 4 (by omega),hh 5 (by omega),hh 6 (by omega),hh 7 (by omega),hh 8 (by omega),hh 9 (by omega),hh 10 (by omega),hh 11 (by omega),hh 12 (by omega),hh 13 (by omega)⟩
theorem zl5 {w0 w:World}{B g:Nat}(hb:Below B w0 w)(hg:B≤g)(cs:Array Value):Below B w0 (w.setRow g cs) :=
 ⟨hb.os,hb.tape,hb.output,by simpa using hb.size,fun k hk=>(setRow_other _ _ _ _ (by omega)).trans (hb.block k hk)⟩
theorem pair_any (J:JV)(wj w:World)(a b:Nat)(ia ib:In)(H:JgOn J wj)(hb:Below wj.heap.size wj w)(ha:J.C.P.code[a]? = some ia)(hb':J.C.P.code[b]? = some ib)(hoa:2≤ia.op∧ia.op≤5)(hob:2≤ib.op∧ib.op≤5) :
  Calls Tryz.prog 155 #[.pointer (some ⟨J.jb,0,none⟩),.int .i64 (a:Int),.int .i64 (b:Int)] w (zsm (zj8 J.C.P J.st J.x J.f a b ia ib) w):=by
 have HCO:=zH (fun(W:World) (hW:Below w.heap.size w W)=>zu4 J wj W a b ia ib H (hb.trans (hW.mono hb.size)) ha hb' hoa hob)
 have hal:a<J.C.P.code.length:=(List.getElem?_eq_some_iff.1 ha).1
 have hbl:b<J.C.P.code.length:=(List.getElem?_eq_some_iff.1 hb').1
 have HRO:=zH (fun(W:World) (hW:Below w.heap.size w W)=>zwh J wj W a b H (hb.trans (hW.mono hb.size)) hal hbl)
 obtain⟨C,VF,VP,V,wp,st,x,Rs,Bs,f,jb,B,sa,sc,rg,rc,ba,bc,r0,ga,gc⟩:=J
 dsimp only at ha hb' hal hbl HCO HRO ⊢
 obtain⟨XC,hXC⟩:∃ XC,XC=zgx (zc0 C.P st x ia) (zc0 C.P st x ib):=⟨_,rfl⟩
 obtain⟨XR,hXR⟩:∃ XR,XR=zjr C.P f a b:=⟨_,rfl⟩
 obtain⟨M,hM⟩:∃ M,M=zj8 C.P st x f a b ia ib:=⟨_,rfl⟩
 rw[← hXC]at HCO
 rw[← hXR]at HRO
 rw[← hM]
 unfold zj8 at hM
 rw[← hXC,← hXR]at hM
 have HM0:=zH (show((!zc7 ia.op && !zc7 ib.op)=true∨f 0 a&&&f 0 b≠0)→M=none from fun h=>by rw[hM,if_pos h])
 have HM1:=zH (show ¬ ((!zc7 ia.op && !zc7 ib.op)=true∨f 0 a&&&f 0 b≠0)→M=pairR ia ib (mems (f 0 a)) (mems (f 0 b)) XC XR from fun h=>by rw[hM,if_neg h])
 have HCO:=zH HCO.out
 have HRO:=zH HRO.out
 clear hXC hXR hM
 have H0:=zH (fun(W:World) (hW:Below w.heap.size w W)=>H W (hb.trans (hW.mono hb.size)))
 clear H hb
 go_enter Tryz.func155,Tryz.ntmps155
 go_upto_region 1 with fail
 have hb1:Below w.heap.size w (w.alloc (.cells zbj 69)):=(Below.refl _ _).alloc (Nat.le_refl _) _
 have h6:Blk (w.alloc (.cells zbj 69)) w.heap.size 69 zbj:=Blk.newAt rfl
 change Code.wp _ _ _ _ (w.alloc (.cells zbj 69))
 generalize w.alloc (.cells zbj 69)=w1 at hb1 h6 ⊢
 have HS:=zH (H0.out w1.drew hb1.drew)
 have HC:=HS.out.c
 obtain⟨aa,ac,hica⟩:=zp7 HC ha
 obtain⟨ba2,bc2,hicb⟩:=zp7 HC hb'
 have hcl:=HC.wf.cl
 have hHeld:=And.intro HS.out.j.cell (And.intro HS.out.l.p (And.intro (hica _ HS.out.l.onw) (hicb _ HS.out.l.onw)))
 have HSS:=zH (show ∀ W',Below w1.heap.size w1 W'→(∀ j,W'.cell? ⟨jb,j,none⟩=#[.pointer (some ⟨C.pb,0,none⟩),.pointer (some ⟨VF.fb,0,none⟩),.pointer (some ⟨VP.sb,0,none⟩),.pointer (some ⟨V.xb,0,none⟩)][j]?)∧(∀ i,W'.cell? ⟨C.pb,i,none⟩=#[.pointer (some ⟨C.X.tb,0,none⟩),.int .i64 C.P.nv,.int .i64 C.P.nm,.slice (some ⟨C.fg,0,none⟩) C.P.fs.length C.fcap,.slice (some ⟨C.cg,0,none⟩) C.P.code.length C.ccap,C.X.av,C.X.nv,C.X.gv,.int .i64 C.P.main][i]?)∧(
  W'.cell? ⟨C.cg,a*14,none⟩=some (.int .i64 ia.op)∧W'.cell? ⟨C.cg,a*14+1,none⟩=some (.int .i64 ia.place)∧W'.cell? ⟨C.cg,a*14+2,none⟩=some (.int .i64 ia.fn)∧W'.cell? ⟨C.cg,a*14+3,none⟩=some (.int .i64 ia.x)∧W'.cell? ⟨C.cg,a*14+4,none⟩=some (.bool ia.y.c)∧W'.cell? ⟨C.cg,a*14+5,none⟩=some (.int .i64 ia.y.n)∧W'.cell? ⟨C.cg,a*14+6,none⟩=some (.bool ia.z.c)∧W'.cell? ⟨C.cg,a*14+7,none⟩=some (.int .i64 ia.z.n)∧W'.cell? ⟨C.cg,a*14+8,none⟩=some (.int .i64 ia.bin)∧W'.cell? ⟨C.cg,a*14+9,none⟩=some (.int .i64 ia.var)∧W'.cell? ⟨C.cg,a*14+10,none⟩=some (.int .i64 ia.site)∧W'.cell? ⟨C.cg,a*14+11,none⟩=some (.int .i64 ia.call)∧W'.cell? ⟨C.cg,a*14+12,none⟩=some (.slice aa ia.args.length ac)∧W'.cell? ⟨C.cg,a*14+13,none⟩=some (.int .i64 ia.to)
  )∧(
  W'.cell? ⟨C.cg,b*14,none⟩=some (.int .i64 ib.op)∧W'.cell? ⟨C.cg,b*14+1,none⟩=some (.int .i64 ib.place)∧W'.cell? ⟨C.cg,b*14+2,none⟩=some (.int .i64 ib.fn)∧W'.cell? ⟨C.cg,b*14+3,none⟩=some (.int .i64 ib.x)∧W'.cell? ⟨C.cg,b*14+4,none⟩=some (.bool ib.y.c)∧W'.cell? ⟨C.cg,b*14+5,none⟩=some (.int .i64 ib.y.n)∧W'.cell? ⟨C.cg,b*14+6,none⟩=some (.bool ib.z.c)∧W'.cell? ⟨C.cg,b*14+7,none⟩=some (.int .i64 ib.z.n)∧W'.cell? ⟨C.cg,b*14+8,none⟩=some (.int .i64 ib.bin)∧W'.cell? ⟨C.cg,b*14+9,none⟩=some (.int .i64 ib.var)∧W'.cell? ⟨C.cg,b*14+10,none⟩=some (.int .i64 ib.site)∧W'.cell? ⟨C.cg,b*14+11,none⟩=some (.int .i64 ib.call)∧W'.cell? ⟨C.cg,b*14+12,none⟩=some (.slice ba2 ib.args.length bc2)∧W'.cell? ⟨C.cg,b*14+13,none⟩=some (.int .i64 ib.to)
  )from fun W' hW=>by
  have hs:=H0.out W' (hb1.trans (hW.mono hb1.size))
  exact⟨hs.j.cell,hs.l.p,hica _ hs.l.onw,hicb _ hs.l.onw⟩)
 go_cut [8,9] (fun v8 v9 wx=>∃ c8 c9:Nat,v8=.pointer (some ⟨c8,0,none⟩)∧v9=.pointer (some ⟨c9,0,none⟩)∧Blk wx c8 309 #[.int .i64 (ia.op:Int),.int .i64 ia.place,.int .i64 (ia.fn:Int),.int .i64 ia.x,.bool ia.y.c,.int .i64 (ia.y.n:Int),.bool ia.z.c,.int .i64 (ia.z.n:Int),.int .i64 (ia.bin:Int),.int .i64 (ia.var:Int),.int .i64 (ia.site:Int),.int .i64 (ia.call:Int),.slice aa ia.args.length ac,.int .i64 (ia.to:Int)]∧Blk wx c9 309 #[.int .i64 (ib.op:Int),.int .i64 ib.place,.int .i64 (ib.fn:Int),.int .i64 ib.x,.bool ib.y.c,.int .i64 (ib.y.n:Int),.bool ib.z.c,.int .i64 (ib.z.n:Int),.int .i64 (ib.bin:Int),.int .i64 (ib.var:Int),.int .i64 (ib.site:Int),.int .i64 (ib.call:Int),.slice ba2 ib.args.length bc2,.int .i64 (ib.to:Int)]∧Blk wx w.heap.size 69 zbj∧Below w.heap.size w wx)
 case rest =>
  obtain⟨c8,c9,rfl,rfl,h8,h9,h6,hbx⟩:=hcut
  have H8:=zH h8
  have H9:=zH h9
  have H6:=zH h6
  have HBX:=zH hbx
  clear h8 h9 h6 hbx hb1 HSS hHeld HS
  have hioa:=(H0.out _ HBX.out).w.io a ia ha
  have hiob:=(H0.out _ HBX.out).w.io b ib hb'
  go_upto_region 2 with fail
  go_cut [70] (fun v70 wx=>∃ bb:Bool,v70=.bool bb∧(bb=true↔((!zc7 ia.op && !zc7 ib.op)=true∨f 0 a&&&f 0 b≠0))∧Blk wx c8 309 #[.int .i64 (ia.op:Int),.int .i64 ia.place,.int .i64 (ia.fn:Int),.int .i64 ia.x,.bool ia.y.c,.int .i64 (ia.y.n:Int),.bool ia.z.c,.int .i64 (ia.z.n:Int),.int .i64 (ia.bin:Int),.int .i64 (ia.var:Int),.int .i64 (ia.site:Int),.int .i64 (ia.call:Int),.slice aa ia.args.length ac,.int .i64 (ia.to:Int)]∧Blk wx c9 309 #[.int .i64 (ib.op:Int),.int .i64 ib.place,.int .i64 (ib.fn:Int),.int .i64 ib.x,.bool ib.y.c,.int .i64 (ib.y.n:Int),.bool ib.z.c,.int .i64 (ib.z.n:Int),.int .i64 (ib.bin:Int),.int .i64 (ib.var:Int),.int .i64 (ib.site:Int),.int .i64 (ib.call:Int),.slice ba2 ib.args.length bc2,.int .i64 (ib.to:Int)]∧Blk wx w.heap.size 69 zbj∧Below w.heap.size w wx)
  case rest =>
   obtain⟨bb,rfl,hbb,h8,h9,h6,hbx2⟩:=hcut
   have HBX2:=zH hbx2
   have H8b:=zH h8
   have H9b:=zH h9
   have H6b:=zH h6
   clear h8 h9 h6 hbx2 H8 H9 H6 HBX
   cases bb
   ·have HN:=zH (show ¬ ((!zc7 ia.op && !zc7 ib.op)=true∨f 0 a&&&f 0 b≠0)from fun h=>by have:=hbb.2 h;cases this)
    clear hbb
    have HM:=zH (HM1.out HN.out)
    go_wp2_with fail
    refine(HCO.out _ HBX2.out).mono ?_
    rintro e w5 ⟨rfl,hb5⟩
    have HB5:=zH (HBX2.out.trans (hb5.mono HBX2.out.size))
    have H65:=zH (H6b.out.below hb5 H6b.out.lt)
    have H85:=zH (H8b.out.below hb5 H8b.out.lt)
    have H95:=zH (H9b.out.below hb5 H9b.out.lt)
    clear hb5
    cases XC with
    | none =>
     unfold comV
     go_wp2_with (refine wpList_store_row rfl 69 _ _ rfl w.heap.size _ rfl rfl _ _ H65.out (by kernel_rfl) rfl (by simp[Value.oneCell']) ?_)
     have k6:Blk (w5.setRow w.heap.size zbj) w.heap.size 69 zbj:=setRow_heap _ _ _ _ _ _ H65.out
     have kb:Below w.heap.size w (w5.setRow w.heap.size zbj):=zl5 HB5.out (Nat.le_refl _) _
     change bodyPost _ _ _ _ _ (w5.setRow w.heap.size zbj)
     generalize w5.setRow w.heap.size zbj=wz at k6 kb ⊢
     have q0:=k6.cell 0
     have q1:=k6.cell 1
     have q2:=k6.cell 2
     have q3:=k6.cell 3
     have q4:=k6.cell 4
     have q5:=k6.cell 5
     have q6:=k6.cell 6
     have q7:=k6.cell 7
     refine bodyPost_ret (v:=.tuple #[.agg zbj,.bool false]) (by simp[results,Tryz.results155,go_sem,q0,q1,q2,q3,q4,q5,q6,q7,zbt,zbj]) rfl ?_
     rw[HM.out]
     exact⟨kb,rfl⟩
    | some ou =>
     obtain⟨o,u⟩:=ou
     unfold comV
     go_wp2_with fail
     refine(HRO.out _ HB5.out).mono ?_
     rintro e w6 ⟨rfl,hb6⟩
     have HB6:=zH (HB5.out.trans (hb6.mono HB5.out.size))
     have H66:=zH (H65.out.below hb6 H65.out.lt)
     have H86:=zH (H85.out.below hb6 H85.out.lt)
     have H96:=zH (H95.out.below hb6 H95.out.lt)
     clear hb6
     cases XR with
     | none =>
      unfold znv
      go_wp2_with (refine wpList_store_row rfl 69 _ _ rfl w.heap.size _ rfl rfl _ _ H66.out (by kernel_rfl) rfl (by simp[Value.oneCell']) ?_)
      have k6:Blk (w6.setRow w.heap.size zbj) w.heap.size 69 zbj:=setRow_heap _ _ _ _ _ _ H66.out
      have kb:Below w.heap.size w (w6.setRow w.heap.size zbj):=zl5 HB6.out (Nat.le_refl _) _
      change bodyPost _ _ _ _ _ (w6.setRow w.heap.size zbj)
      generalize w6.setRow w.heap.size zbj=wz at k6 kb ⊢
      have q0:=k6.cell 0
      have q1:=k6.cell 1
      have q2:=k6.cell 2
      have q3:=k6.cell 3
      have q4:=k6.cell 4
      have q5:=k6.cell 5
      have q6:=k6.cell 6
      have q7:=k6.cell 7
      refine bodyPost_ret (v:=.tuple #[.agg zbj,.bool false]) (by simp[results,Tryz.results155,go_sem,q0,q1,q2,q3,q4,q5,q6,q7,zbt,zbj]) rfl ?_
      rw[HM.out]
      exact⟨kb,rfl⟩
     | some rt =>
      obtain⟨r,t⟩:=rt
      unfold znv
      go_wp2_with fail
      have HSD:=zH (show ∀ W',Below w6.heap.size w6 W'→(∀ j,W'.cell? ⟨jb,j,none⟩=#[.pointer (some ⟨C.pb,0,none⟩),.pointer (some ⟨VF.fb,0,none⟩),.pointer (some ⟨VP.sb,0,none⟩),.pointer (some ⟨V.xb,0,none⟩)][j]?)∧(∀ j,W'.cell? ⟨V.xb,j,none⟩=#[.pointer (some ⟨VF.fb,0,none⟩),.pointer (some ⟨VP.sb,0,none⟩),.slice (some ⟨V.g 0,0,none⟩) C.P.code.length C.P.code.length,.slice (some ⟨V.g 1,0,none⟩) C.P.fs.length C.P.fs.length,.slice (some ⟨V.g 2,0,none⟩) C.P.fs.length C.P.fs.length,.slice (some ⟨V.g 3,0,none⟩) C.P.fs.length C.P.fs.length,.slice (some ⟨V.g 4,0,none⟩) C.P.code.length C.P.code.length,.slice (some ⟨V.g 5,0,none⟩) C.P.fs.length C.P.fs.length,.slice (some ⟨V.g 6,0,none⟩) C.P.fs.length C.P.fs.length][j]?)∧W'.cell? ⟨V.g 0,a,none⟩=some (zaa (f 0 a))∧W'.cell? ⟨V.g 0,b,none⟩=some (zaa (f 0 b))from fun W' hW=>by
       have hs:=H0.out W' (HB6.out.trans (hW.mono HB6.out.size))
       exact⟨hs.j.cell,hs.k.x.cell,hs.k.cell (r:=0) (i:=a) (by omega) (by unfold za8;simpa using hal),hs.k.cell (r:=0) (i:=b) (by omega) (by unfold za8;simpa using hbl)⟩)
      have hHeld:=HSD.out w6.drew (Below.refl _ _).drew
      have HSM:=zH (show f 0 a<2 ^ 48∧f 0 b<2 ^ 48 from⟨(H0.out _ HB6.out).k.sm 0 a,(H0.out _ HB6.out).k.sm 0 b⟩)
      refine zah 25 (fun(W':World)=>(∀ j,W'.cell? ⟨jb,j,none⟩=#[.pointer (some ⟨C.pb,0,none⟩),.pointer (some ⟨VF.fb,0,none⟩),.pointer (some ⟨VP.sb,0,none⟩),.pointer (some ⟨V.xb,0,none⟩)][j]?)∧(∀ j,W'.cell? ⟨V.xb,j,none⟩=#[.pointer (some ⟨VF.fb,0,none⟩),.pointer (some ⟨VP.sb,0,none⟩),.slice (some ⟨V.g 0,0,none⟩) C.P.code.length C.P.code.length,.slice (some ⟨V.g 1,0,none⟩) C.P.fs.length C.P.fs.length,.slice (some ⟨V.g 2,0,none⟩) C.P.fs.length C.P.fs.length,.slice (some ⟨V.g 3,0,none⟩) C.P.fs.length C.P.fs.length,.slice (some ⟨V.g 4,0,none⟩) C.P.code.length C.P.code.length,.slice (some ⟨V.g 5,0,none⟩) C.P.fs.length C.P.fs.length,.slice (some ⟨V.g 6,0,none⟩) C.P.fs.length C.P.fs.length][j]?)∧W'.cell? ⟨V.g 0,a,none⟩=some (zaa (f 0 a))∧W'.cell? ⟨V.g 0,b,none⟩=some (zaa (f 0 b))) (by kernel_rfl) rfl rfl (by kernel_rfl) ?_
      simp only[List.take_succ_cons,List.take_zero]
      iterate 11(refine tk 0 rfl (by kernel_rfl) (fun _ _ _ h=>h) hHeld (fun w hSw=>by go_simp;try with_reducible rfl) (by simp only[pA,pB,pC,pD,pE,pF,pG,pH];exact rfl) ?_)
      iterate 11(refine tk 12 rfl (by kernel_rfl) (fun _ _ _ h=>h) hHeld (fun w hSw=>by go_simp;try with_reducible rfl) (by simp only[pA,pB,pC,pD,pE,pF,pG,pH];exact rfl) ?_)
      refine rdy 11 (by kernel_rfl) rfl fun K hK=>?_
      go_simp
      refine(zrz (f 0 a) HSM.out.1 _).mono ?_
      rintro e w7 ⟨va,rfl,hva,_,hb7⟩
      obtain⟨ga1,ca1,rfl⟩:=zbx hva
      have HB7:=zH (show Below w6.heap.size w6 w7 from(Below.refl _ w6).drew.trans hb7)
      have HVA:=zH hva
      refine hK.out _ _ (HSD.out _ HB7.out) (fun hHeld=>?_)
      clear hK K hb7 hva
      refine rdy 23 (by kernel_rfl) rfl fun K hK=>?_
      go_simp
      refine(zrz (f 0 b) HSM.out.2 _).mono ?_
      rintro e w8 ⟨vb,rfl,hvb,_,hb8⟩
      obtain⟨gb1,cb1,rfl⟩:=zbx hvb
      have HB8:=zH (HB7.out.trans (hb8.mono HB7.out.size))
      have HVA8:=zH (zbz HVA.out hb8 fun k e=>(HVA.out.lt k e).2)
      have HVB:=zH hvb
      refine hK.out _ _ (HSD.out _ HB8.out) (fun hHeld=>?_)
      clear hK K hb8 hvb
      refine tk 24 rfl (by kernel_rfl) (fun _ _ _ h=>h) hHeld (fun w hSw=>by go_simp;try with_reducible rfl) (by simp only[pA,pB,pC,pD,pE,pF,pG,pH];exact rfl) ?_
      refine lst (by kernel_rfl) rfl fun K hK=>?_
      go_simp
      refine hK _ _ ?_
      clear hK K hHeld
      have HB9:=zH (HB6.out.trans (HB8.out.mono HB6.out.size))
      have H68:=zH (H66.out.below HB8.out H66.out.lt)
      have h88:w8.cell? ⟨c8,1,none⟩=some (.int .i64 ia.place):=(H86.out.below HB8.out H86.out.lt).cell 1
      have h98:w8.cell? ⟨c9,1,none⟩=some (.int .i64 ib.place):=(H96.out.below HB8.out H96.out.lt).cell 1
      have HROWS:=zH (And.intro HVA8.out HVB.out)
      have HZ:=zH (show w.heap.size<w6.heap.size∧w6.heap.size≤w7.heap.size from⟨H66.out.lt,HB7.out.size⟩)
      go_wp2_with (refine wpList_store_row rfl 69 _ _ rfl w.heap.size _ rfl rfl _ _ H68.out (by kernel_rfl) rfl (by simp[Value.oneCell']) ?_)
      have kr:(w8.setRow w.heap.size (zbt ⟨ia.place,ib.place,o,u,r,t,mems (f 0 a),mems (f 0 b)⟩ (.slice ga1 (mems (f 0 a)).length ca1) (.slice gb1 (mems (f 0 b)).length cb1))).ownsRow w.heap.size 3 1 (.slice ga1 (mems (f 0 a)).length ca1) (mems (f 0 a)).length (ints (mems (f 0 a)))∧(w8.setRow w.heap.size (zbt ⟨ia.place,ib.place,o,u,r,t,mems (f 0 a),mems (f 0 b)⟩ (.slice ga1 (mems (f 0 a)).length ca1) (.slice gb1 (mems (f 0 b)).length cb1))).ownsRow w.heap.size 3 1 (.slice gb1 (mems (f 0 b)).length cb1) (mems (f 0 b)).length (ints (mems (f 0 b))):=by
       obtain⟨h1,h2⟩:=HROWS.out
       have hz1:=HZ.out.1
       have hz2:=HZ.out.2
       have e6:w6.drew.heap.size=w6.heap.size:=rfl
       exact⟨zbn (zcr h1 fun k hk=>setRow_other _ _ _ _ (by have:=(h1.lt k hk).1;omega)) (by omega),zbn (zcr h2 fun k hk=>setRow_other _ _ _ _ (by have:=(h2.lt k hk).1;omega)) (by omega)⟩
      have k6:Blk (w8.setRow w.heap.size (zbt ⟨ia.place,ib.place,o,u,r,t,mems (f 0 a),mems (f 0 b)⟩ (.slice ga1 (mems (f 0 a)).length ca1) (.slice gb1 (mems (f 0 b)).length cb1))) w.heap.size 69 (zbt ⟨ia.place,ib.place,o,u,r,t,mems (f 0 a),mems (f 0 b)⟩ (.slice ga1 (mems (f 0 a)).length ca1) (.slice gb1 (mems (f 0 b)).length cb1)):=setRow_heap _ _ _ _ _ _ H68.out
      have kb:Below w.heap.size w (w8.setRow w.heap.size (zbt ⟨ia.place,ib.place,o,u,r,t,mems (f 0 a),mems (f 0 b)⟩ (.slice ga1 (mems (f 0 a)).length ca1) (.slice gb1 (mems (f 0 b)).length cb1))):=zl5 HB9.out (Nat.le_refl _) _
      change bodyPost _ _ _ _ _ (w8.setRow w.heap.size (zbt ⟨ia.place,ib.place,o,u,r,t,mems (f 0 a),mems (f 0 b)⟩ (.slice ga1 (mems (f 0 a)).length ca1) (.slice gb1 (mems (f 0 b)).length cb1)))
      generalize w8.setRow w.heap.size (zbt ⟨ia.place,ib.place,o,u,r,t,mems (f 0 a),mems (f 0 b)⟩ (.slice ga1 (mems (f 0 a)).length ca1) (.slice gb1 (mems (f 0 b)).length cb1))=wz at k6 kb kr ⊢
      have q0:=k6.cell 0
      have q1:=k6.cell 1
      have q2:=k6.cell 2
      have q3:=k6.cell 3
      have q4:=k6.cell 4
      have q5:=k6.cell 5
      have q6:=k6.cell 6
      have q7:=k6.cell 7
      refine bodyPost_ret (v:=.tuple #[.agg (zbt ⟨ia.place,ib.place,o,u,r,t,mems (f 0 a),mems (f 0 b)⟩ (.slice ga1 (mems (f 0 a)).length ca1) (.slice gb1 (mems (f 0 b)).length cb1)),.bool true]) (by simp[results,Tryz.results155,go_sem,q0,q1,q2,q3,q4,q5,q6,q7,zbt]) rfl ?_
      rw[HM.out]
      exact⟨kb,_,_,rfl,kr.1,kr.2⟩
   ·have HM:=zH (HM0.out (hbb.1 rfl))
    clear hbb
    go_wp2_with (refine wpList_store_row rfl 69 _ _ rfl w.heap.size _ rfl rfl _ _ H6b.out (by kernel_rfl) rfl (by simp[Value.oneCell']) ?_)
    have k6:Blk (wc.setRow w.heap.size zbj) w.heap.size 69 zbj:=setRow_heap _ _ _ _ _ _ H6b.out
    have kb:Below w.heap.size w (wc.setRow w.heap.size zbj):=zl5 HBX2.out (Nat.le_refl _) _
    change bodyPost _ _ _ _ _ (wc.setRow w.heap.size zbj)
    generalize wc.setRow w.heap.size zbj=wz at k6 kb ⊢
    have q0:=k6.cell 0
    have q1:=k6.cell 1
    have q2:=k6.cell 2
    have q3:=k6.cell 3
    have q4:=k6.cell 4
    have q5:=k6.cell 5
    have q6:=k6.cell 6
    have q7:=k6.cell 7
    refine bodyPost_ret (v:=.tuple #[.agg zbj,.bool false]) (by simp[results,Tryz.results155,go_sem,q0,q1,q2,q3,q4,q5,q6,q7,zbt,zbj]) rfl ?_
    rw[HM.out]
    exact⟨kb,rfl⟩
  case first =>
   have HS2:=zH (H0.out _ HBX.out.drew)
   have k8:=H8.out.drew
   have k9:=H9.out.drew
   have hm:=HS2.out.k
   dsimp only at hm
   have hsa:=hm.sm 0 a
   have hsb:=hm.sm 0 b
   have HAND:=ziw (f 0 a) (f 0 b) hsa hsb
   have hHeld:=And.intro (k8.cell 0) (And.intro (k9.cell 0) (And.intro HS2.out.j.cell (And.intro hm.x.cell (And.intro (hm.cell (r:=0) (i:=a) (by omega) (by unfold za8;simpa using hal)) (hm.cell (r:=0) (i:=b) (by omega) (by unfold za8;simpa using hbl))))))
   have FIN:=zH (And.intro k8 (And.intro k9 (And.intro H6.out.drew HBX.out.drew)))
   clear k8 k9 hm
   refine zah 33 (fun(W':World)=>W'.cell? ⟨c8,0,none⟩=some (.int .i64 (ia.op:Int))∧W'.cell? ⟨c9,0,none⟩=some (.int .i64 (ib.op:Int))∧(∀ j,W'.cell? ⟨jb,j,none⟩=#[.pointer (some ⟨C.pb,0,none⟩),.pointer (some ⟨VF.fb,0,none⟩),.pointer (some ⟨VP.sb,0,none⟩),.pointer (some ⟨V.xb,0,none⟩)][j]?)∧(∀ j,W'.cell? ⟨V.xb,j,none⟩=#[.pointer (some ⟨VF.fb,0,none⟩),.pointer (some ⟨VP.sb,0,none⟩),.slice (some ⟨V.g 0,0,none⟩) C.P.code.length C.P.code.length,.slice (some ⟨V.g 1,0,none⟩) C.P.fs.length C.P.fs.length,.slice (some ⟨V.g 2,0,none⟩) C.P.fs.length C.P.fs.length,.slice (some ⟨V.g 3,0,none⟩) C.P.fs.length C.P.fs.length,.slice (some ⟨V.g 4,0,none⟩) C.P.code.length C.P.code.length,.slice (some ⟨V.g 5,0,none⟩) C.P.fs.length C.P.fs.length,.slice (some ⟨V.g 6,0,none⟩) C.P.fs.length C.P.fs.length][j]?)∧W'.cell? ⟨V.g 0,a,none⟩=some (zaa (f 0 a))∧W'.cell? ⟨V.g 0,b,none⟩=some (zaa (f 0 b))) (by kernel_rfl) rfl rfl (by kernel_rfl) ?_
   simp only[List.take_succ_cons,List.take_zero]
   iterate 2(refine tk 0 rfl (by kernel_rfl) (fun _ _ _ h=>h) hHeld (fun w hSw=>by go_simp;try with_reducible rfl) (by simp only[pA,pB,pC,pD,pE,pF,pG,pH];exact rfl) ?_)
   refine rdy 2 (by kernel_rfl) rfl fun K hK=>?_
   go_simp
   refine(zql ia.op _ hioa.op).mono ?_
   rintro e w7 ⟨rfl,rfl⟩
   refine hK.out _ _ hHeld (fun hHeld=>?_)
   clear hK K
   cases hwa:zc7 ia.op
   ·iterate 4(refine tk 3 rfl (by kernel_rfl) (fun _ _ _ h=>h) hHeld (fun w hSw=>by go_simp;try with_reducible rfl) (by simp only[pA,pB,pC,pD,pE,pF,pG,pH];exact rfl) ?_)
    refine rdy 7 (by kernel_rfl) rfl fun K hK=>?_
    go_simp
    refine(zql ib.op _ hiob.op).mono ?_
    rintro e w7 ⟨rfl,rfl⟩
    refine hK.out _ _ hHeld (fun hHeld=>?_)
    clear hK K
    cases hwb:zc7 ib.op
    ·iterate 3(refine tk 8 rfl (by kernel_rfl) (fun _ _ _ h=>h) hHeld (fun w hSw=>by go_simp;try with_reducible rfl) (by simp only[pA,pB,pC,pD,pE,pF,pG,pH];exact rfl) ?_)
     iterate 22(refine sk 11 rfl (by kernel_rfl) (fun _ _ _ h=>h) hHeld (by simp only[pA,pB,pC,pD,pE,pF,pG,pH];exact rfl) ?_)
     refine lst (by kernel_rfl) rfl fun K hK=>?_
     go_simp
     refine hK _ _ ?_
     clear hK K hHeld
     go_wp2_with fail
     go_meet
     exact⟨true,rfl,by simp[hwa,hwb],FIN.out⟩
    ·iterate 25(refine tk 8 rfl (by kernel_rfl) (fun _ _ _ h=>h) hHeld (fun w hSw=>by go_simp;try with_reducible rfl) (by simp only[pA,pB,pC,pD,pE,pF,pG,pH];exact rfl) ?_)
     refine lst (by kernel_rfl) rfl fun K hK=>?_
     go_simp
     refine hK _ _ ?_
     clear hK K hHeld
     go_wp2_with fail
     go_meet
     exact⟨((f 0 a&&&f 0 b:Nat):Int) != 0,rfl,by simp[hwb],FIN.out⟩
   ·iterate 2(refine tk 3 rfl (by kernel_rfl) (fun _ _ _ h=>h) hHeld (fun w hSw=>by go_simp;try with_reducible rfl) (by simp only[pA,pB,pC,pD,pE,pF,pG,pH];exact rfl) ?_)
    iterate 4(refine sk 5 rfl (by kernel_rfl) (fun _ _ _ h=>h) hHeld (by simp only[pA,pB,pC,pD,pE,pF,pG,pH];exact rfl) ?_)
    iterate 24(refine tk 9 rfl (by kernel_rfl) (fun _ _ _ h=>h) hHeld (fun w hSw=>by go_simp;try with_reducible rfl) (by simp only[pA,pB,pC,pD,pE,pF,pG,pH];exact rfl) ?_)
    refine lst (by kernel_rfl) rfl fun K hK=>?_
    go_simp
    refine hK _ _ ?_
    clear hK K hHeld
    go_wp2_with fail
    go_meet
    exact⟨((f 0 a&&&f 0 b:Nat):Int) != 0,rfl,by simp[hwa],FIN.out⟩
 refine zah 23 (fun(W':World)=>(∀ j,W'.cell? ⟨jb,j,none⟩=#[.pointer (some ⟨C.pb,0,none⟩),.pointer (some ⟨VF.fb,0,none⟩),.pointer (some ⟨VP.sb,0,none⟩),.pointer (some ⟨V.xb,0,none⟩)][j]?)∧(∀ i,W'.cell? ⟨C.pb,i,none⟩=#[.pointer (some ⟨C.X.tb,0,none⟩),.int .i64 C.P.nv,.int .i64 C.P.nm,.slice (some ⟨C.fg,0,none⟩) C.P.fs.length C.fcap,.slice (some ⟨C.cg,0,none⟩) C.P.code.length C.ccap,C.X.av,C.X.nv,C.X.gv,.int .i64 C.P.main][i]?)∧(
  W'.cell? ⟨C.cg,a*14,none⟩=some (.int .i64 ia.op)∧W'.cell? ⟨C.cg,a*14+1,none⟩=some (.int .i64 ia.place)∧W'.cell? ⟨C.cg,a*14+2,none⟩=some (.int .i64 ia.fn)∧W'.cell? ⟨C.cg,a*14+3,none⟩=some (.int .i64 ia.x)∧W'.cell? ⟨C.cg,a*14+4,none⟩=some (.bool ia.y.c)∧W'.cell? ⟨C.cg,a*14+5,none⟩=some (.int .i64 ia.y.n)∧W'.cell? ⟨C.cg,a*14+6,none⟩=some (.bool ia.z.c)∧W'.cell? ⟨C.cg,a*14+7,none⟩=some (.int .i64 ia.z.n)∧W'.cell? ⟨C.cg,a*14+8,none⟩=some (.int .i64 ia.bin)∧W'.cell? ⟨C.cg,a*14+9,none⟩=some (.int .i64 ia.var)∧W'.cell? ⟨C.cg,a*14+10,none⟩=some (.int .i64 ia.site)∧W'.cell? ⟨C.cg,a*14+11,none⟩=some (.int .i64 ia.call)∧W'.cell? ⟨C.cg,a*14+12,none⟩=some (.slice aa ia.args.length ac)∧W'.cell? ⟨C.cg,a*14+13,none⟩=some (.int .i64 ia.to)
  )∧(
  W'.cell? ⟨C.cg,b*14,none⟩=some (.int .i64 ib.op)∧W'.cell? ⟨C.cg,b*14+1,none⟩=some (.int .i64 ib.place)∧W'.cell? ⟨C.cg,b*14+2,none⟩=some (.int .i64 ib.fn)∧W'.cell? ⟨C.cg,b*14+3,none⟩=some (.int .i64 ib.x)∧W'.cell? ⟨C.cg,b*14+4,none⟩=some (.bool ib.y.c)∧W'.cell? ⟨C.cg,b*14+5,none⟩=some (.int .i64 ib.y.n)∧W'.cell? ⟨C.cg,b*14+6,none⟩=some (.bool ib.z.c)∧W'.cell? ⟨C.cg,b*14+7,none⟩=some (.int .i64 ib.z.n)∧W'.cell? ⟨C.cg,b*14+8,none⟩=some (.int .i64 ib.bin)∧W'.cell? ⟨C.cg,b*14+9,none⟩=some (.int .i64 ib.var)∧W'.cell? ⟨C.cg,b*14+10,none⟩=some (.int .i64 ib.site)∧W'.cell? ⟨C.cg,b*14+11,none⟩=some (.int .i64 ib.call)∧W'.cell? ⟨C.cg,b*14+12,none⟩=some (.slice ba2 ib.args.length bc2)∧W'.cell? ⟨C.cg,b*14+13,none⟩=some (.int .i64 ib.to)
  )) (by kernel_rfl) rfl rfl (by kernel_rfl) ?_
 simp only[List.take_succ_cons,List.take_zero]
 iterate 20(refine tk 0 rfl (by kernel_rfl) (fun _ _ _ h=>h) hHeld (fun w hSw=>by go_simp;try with_reducible rfl) (by simp only[pA,pB,pC,pD,pE,pF,pG,pH];exact rfl) ?_)
 refine wpAnyH_ready (rs:=[20,21]) (by kernel_rfl) (by simp) ?_
 refine AllReadyH.cons rfl (fun K hK=>?_) (AllReadyH.cons rfl (fun K hK=>?_) AllReadyH.nil)
 ·go_simp
  refine hK.out _ _ (HSS.out _ (((Below.refl _ _).alloc (Nat.le_refl _) _).drew)) (fun hHeld=>?_)
  clear hK K
  refine rdy 21 (by kernel_rfl) rfl fun K hK=>?_
  go_simp
  refine hK.out _ _ (HSS.out _ (((Below.refl _ _).alloc (Nat.le_refl _) _).alloc (by simp) _).drew) (fun hHeld=>?_)
  clear hK K
  refine rdy 22 (by kernel_rfl) rfl fun K hK=>?_
  go_simp
  refine hK.out _ _ (HSS.out _ (((Below.refl _ _).alloc (Nat.le_refl _) _).alloc (by simp) _).drew) (fun hHeld=>?_)
  clear hK K
  refine lst (by kernel_rfl) rfl fun K hK=>?_
  go_simp
  refine hK _ _ ?_
  clear hK K hHeld
  have hbB:Below w1.heap.size w1 ((w1.alloc (.cells #[.int .i64 (ia.op:Int),.int .i64 ia.place,.int .i64 (ia.fn:Int),.int .i64 ia.x,.bool ia.y.c,.int .i64 (ia.y.n:Int),.bool ia.z.c,.int .i64 (ia.z.n:Int),.int .i64 (ia.bin:Int),.int .i64 (ia.var:Int),.int .i64 (ia.site:Int),.int .i64 (ia.call:Int),.slice aa ia.args.length ac,.int .i64 (ia.to:Int)] 309)).alloc (.cells #[.int .i64 (ib.op:Int),.int .i64 ib.place,.int .i64 (ib.fn:Int),.int .i64 ib.x,.bool ib.y.c,.int .i64 (ib.y.n:Int),.bool ib.z.c,.int .i64 (ib.z.n:Int),.int .i64 (ib.bin:Int),.int .i64 (ib.var:Int),.int .i64 (ib.site:Int),.int .i64 (ib.call:Int),.slice ba2 ib.args.length bc2,.int .i64 (ib.to:Int)] 309)).drew:=(((Below.refl _ _).alloc (Nat.le_refl _) _).alloc (by simp) _).drew
  go_wp2_with fail
  go_meet
  exact⟨w1.heap.size,(w1.heap.size+1),rfl,rfl,((Blk.newAt rfl).alloc _).drew,(Blk.newAt (by simp)).drew,h6.below hbB h6.lt,hb1.trans (hbB.mono hb1.size)⟩
 ·go_simp
  refine hK.out _ _ (HSS.out _ (((Below.refl _ _).alloc (Nat.le_refl _) _).drew)) (fun hHeld=>?_)
  clear hK K
  refine rdy 20 (by kernel_rfl) rfl fun K hK=>?_
  go_simp
  refine hK.out _ _ (HSS.out _ (((Below.refl _ _).alloc (Nat.le_refl _) _).alloc (by simp) _).drew) (fun hHeld=>?_)
  clear hK K
  refine rdy 22 (by kernel_rfl) rfl fun K hK=>?_
  go_simp
  refine hK.out _ _ (HSS.out _ (((Below.refl _ _).alloc (Nat.le_refl _) _).alloc (by simp) _).drew) (fun hHeld=>?_)
  clear hK K
  refine lst (by kernel_rfl) rfl fun K hK=>?_
  go_simp
  refine hK _ _ ?_
  clear hK K hHeld
  have hbB:Below w1.heap.size w1 ((w1.alloc (.cells #[.int .i64 (ib.op:Int),.int .i64 ib.place,.int .i64 (ib.fn:Int),.int .i64 ib.x,.bool ib.y.c,.int .i64 (ib.y.n:Int),.bool ib.z.c,.int .i64 (ib.z.n:Int),.int .i64 (ib.bin:Int),.int .i64 (ib.var:Int),.int .i64 (ib.site:Int),.int .i64 (ib.call:Int),.slice ba2 ib.args.length bc2,.int .i64 (ib.to:Int)] 309)).alloc (.cells #[.int .i64 (ia.op:Int),.int .i64 ia.place,.int .i64 (ia.fn:Int),.int .i64 ia.x,.bool ia.y.c,.int .i64 (ia.y.n:Int),.bool ia.z.c,.int .i64 (ia.z.n:Int),.int .i64 (ia.bin:Int),.int .i64 (ia.var:Int),.int .i64 (ia.site:Int),.int .i64 (ia.call:Int),.slice aa ia.args.length ac,.int .i64 (ia.to:Int)] 309)).drew:=(((Below.refl _ _).alloc (Nat.le_refl _) _).alloc (by simp) _).drew
  go_wp2_with fail
  go_meet
  exact⟨(w1.heap.size+1),w1.heap.size,rfl,rfl,(Blk.newAt (by simp)).drew,((Blk.newAt rfl).alloc _).drew,h6.below hbB h6.lt,hb1.trans (hbB.mono hb1.size)⟩
end
end Go.Proofs.YtkmcihhndgdhpaaGreat
