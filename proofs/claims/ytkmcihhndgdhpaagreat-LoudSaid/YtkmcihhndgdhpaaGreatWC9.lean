/- KpC: parts of the walk. -/
import Derived.Test.YtkmcihhndgdhpaaGreatWC8
set_option maxRecDepth 100000
set_option maxHeartbeats 4000000
set_option linter.unusedSimpArgs false
set_option linter.unusedVariables false
namespace Go.Proofs.YtkmcihhndgdhpaaGreat
section
open Go.RowKit Go.Maps Go.ChangeMaps Go.Shelf
set_option linter.unusedSimpArgs false
def RcAt (r:Rp)(W:World)(g o:Nat)(va vb:Value):Prop:=W.cell? ⟨g,o,none⟩=some (.int .i64 r.a)∧W.cell? ⟨g,o+1,none⟩=some (.int .i64 r.b)∧W.cell? ⟨g,o+2,none⟩=some (.int .i64 r.new)∧W.cell? ⟨g,o+3,none⟩=some (.int .i64 (r.field:Int))∧W.cell? ⟨g,o+4,none⟩=some (.int .i64 (r.ra:Int))∧W.cell? ⟨g,o+5,none⟩=some (.int .i64 (r.rb:Int))∧W.cell? ⟨g,o+6,none⟩=some va∧W.cell? ⟨g,o+7,none⟩=some vb
def AlPost (w:World)(e:Ending)(w':World):Prop:=e=.returned (.bool true)∧Below w.heap.size w w'
theorem zx9 (r:Rp)(ga oa gb ob:Nat)(va vb va' vb':Value)(w:World)(ha:∀ W,Below w.heap.size w W→RcAt r W ga oa va vb)(hb:∀ W,Below w.heap.size w W→RcAt r W gb ob va' vb')(hl:r.la.length≤1000∧r.lb.length≤1000)
  (h1:w.ownsRow 0 3 1 va r.la.length (ints r.la)) (h2:w.ownsRow 0 3 1 vb r.lb.length (ints r.lb)) (h3:w.ownsRow 0 3 1 va' r.la.length (ints r.la)) (h4:w.ownsRow 0 3 1 vb' r.lb.length (ints r.lb)) :
  Calls Tryz.prog 33 #[.pointer (some ⟨ga,oa,none⟩),.pointer (some ⟨gb,ob,none⟩)] w (AlPost w):=by
 unfold RcAt at ha hb
 have HAB:=zH (fun(W:World) (hW:Below w.heap.size w W)=>And.intro (ha W hW) (hb W hW))
 have HR:=zH (fun(W:World) (hW:Below w.heap.size w W)=>And.intro (And.intro (zbz h1 hW fun k e=>(h1.lt k e).2) (zbz h3 hW fun k e=>(h3.lt k e).2)) (And.intro (zbz h2 hW fun k e=>(h2.lt k e).2) (zbz h4 hW fun k e=>(h4.lt k e).2)))
 have HL:=zH hl
 clear ha hb h1 h2 h3 h4 hl
 go_enter Tryz.func33,Tryz.ntmps33
 go_wp2_with fail
 have hHeld:=HAB.out w.drew (Below.refl _ _).drew
 refine zah 9 (fun(W':World)=>(W'.cell? ⟨ga,oa,none⟩=some (.int .i64 r.a)∧W'.cell? ⟨ga,oa+1,none⟩=some (.int .i64 r.b)∧W'.cell? ⟨ga,oa+2,none⟩=some (.int .i64 r.new)∧W'.cell? ⟨ga,oa+3,none⟩=some (.int .i64 (r.field:Int))∧W'.cell? ⟨ga,oa+4,none⟩=some (.int .i64 (r.ra:Int))∧W'.cell? ⟨ga,oa+5,none⟩=some (.int .i64 (r.rb:Int))∧W'.cell? ⟨ga,oa+6,none⟩=some va∧W'.cell? ⟨ga,oa+7,none⟩=some vb)∧W'.cell? ⟨gb,ob,none⟩=some (.int .i64 r.a)∧W'.cell? ⟨gb,ob+1,none⟩=some (.int .i64 r.b)∧W'.cell? ⟨gb,ob+2,none⟩=some (.int .i64 r.new)∧W'.cell? ⟨gb,ob+3,none⟩=some (.int .i64 (r.field:Int))∧W'.cell? ⟨gb,ob+4,none⟩=some (.int .i64 (r.ra:Int))∧W'.cell? ⟨gb,ob+5,none⟩=some (.int .i64 (r.rb:Int))∧W'.cell? ⟨gb,ob+6,none⟩=some va'∧W'.cell? ⟨gb,ob+7,none⟩=some vb') (by kernel_rfl) rfl rfl (by kernel_rfl) ?_
 simp only[List.take_succ_cons,List.take_zero]
 iterate 8(refine tk 0 rfl (by kernel_rfl) (fun _ _ _ h=>h) hHeld (fun w hSw=>by go_simp;try with_reducible rfl) (by simp only[pA,pB,pC,pD,pE,pF,pG,pH];exact rfl) ?_)
 refine rdy 8 (by kernel_rfl) rfl fun K hK=>?_
 go_simp
 refine(zrq 0 0 va va' r.la r.la _ (HR.out _ (Below.refl _ _).drew).1.1 (HR.out _ (Below.refl _ _).drew).1.2 HL.out.1).mono ?_
 rintro e w1 ⟨he,hb1⟩
 rw[decide_eq_true rfl]at he
 subst he
 have HB1:=zH (show Below w.heap.size w w1 from(Below.refl _ w).drew.trans hb1)
 refine hK.out _ _ (HAB.out _ HB1.out) (fun hHeld=>?_)
 clear hK K hb1
 refine lst (by kernel_rfl) rfl fun K hK=>?_
 go_simp
 refine hK _ _ ?_
 clear hK K hHeld
 go_wp2_with fail
 have hHeld:=HAB.out w1.drew HB1.out.drew
 refine zah 9 (fun(W':World)=>(W'.cell? ⟨ga,oa,none⟩=some (.int .i64 r.a)∧W'.cell? ⟨ga,oa+1,none⟩=some (.int .i64 r.b)∧W'.cell? ⟨ga,oa+2,none⟩=some (.int .i64 r.new)∧W'.cell? ⟨ga,oa+3,none⟩=some (.int .i64 (r.field:Int))∧W'.cell? ⟨ga,oa+4,none⟩=some (.int .i64 (r.ra:Int))∧W'.cell? ⟨ga,oa+5,none⟩=some (.int .i64 (r.rb:Int))∧W'.cell? ⟨ga,oa+6,none⟩=some va∧W'.cell? ⟨ga,oa+7,none⟩=some vb)∧W'.cell? ⟨gb,ob,none⟩=some (.int .i64 r.a)∧W'.cell? ⟨gb,ob+1,none⟩=some (.int .i64 r.b)∧W'.cell? ⟨gb,ob+2,none⟩=some (.int .i64 r.new)∧W'.cell? ⟨gb,ob+3,none⟩=some (.int .i64 (r.field:Int))∧W'.cell? ⟨gb,ob+4,none⟩=some (.int .i64 (r.ra:Int))∧W'.cell? ⟨gb,ob+5,none⟩=some (.int .i64 (r.rb:Int))∧W'.cell? ⟨gb,ob+6,none⟩=some va'∧W'.cell? ⟨gb,ob+7,none⟩=some vb') (by kernel_rfl) rfl rfl (by kernel_rfl) ?_
 simp only[List.take_succ_cons,List.take_zero]
 iterate 8(refine tk 0 rfl (by kernel_rfl) (fun _ _ _ h=>h) hHeld (fun w hSw=>by go_simp;try with_reducible rfl) (by simp only[pA,pB,pC,pD,pE,pF,pG,pH];exact rfl) ?_)
 refine rdy 8 (by kernel_rfl) rfl fun K hK=>?_
 go_simp
 refine(zrq 0 0 vb vb' r.lb r.lb _ (HR.out _ HB1.out.drew).2.1 (HR.out _ HB1.out.drew).2.2 HL.out.2).mono ?_
 rintro e w2 ⟨he,hb2⟩
 rw[decide_eq_true rfl]at he
 subst he
 have HB2:=zH (show Below w.heap.size w w2 from HB1.out.drew.trans (hb2.mono HB1.out.drew.size))
 refine hK.out _ _ (HAB.out _ HB2.out) (fun hHeld=>?_)
 clear hK K hb2
 refine lst (by kernel_rfl) rfl fun K hK=>?_
 go_simp
 refine hK _ _ ?_
 clear hK K hHeld
 go_wp2_with fail
 have hHeld:=HAB.out w2.drew HB2.out.drew
 refine zah 27 (fun(W':World)=>(W'.cell? ⟨ga,oa,none⟩=some (.int .i64 r.a)∧W'.cell? ⟨ga,oa+1,none⟩=some (.int .i64 r.b)∧W'.cell? ⟨ga,oa+2,none⟩=some (.int .i64 r.new)∧W'.cell? ⟨ga,oa+3,none⟩=some (.int .i64 (r.field:Int))∧W'.cell? ⟨ga,oa+4,none⟩=some (.int .i64 (r.ra:Int))∧W'.cell? ⟨ga,oa+5,none⟩=some (.int .i64 (r.rb:Int))∧W'.cell? ⟨ga,oa+6,none⟩=some va∧W'.cell? ⟨ga,oa+7,none⟩=some vb)∧W'.cell? ⟨gb,ob,none⟩=some (.int .i64 r.a)∧W'.cell? ⟨gb,ob+1,none⟩=some (.int .i64 r.b)∧W'.cell? ⟨gb,ob+2,none⟩=some (.int .i64 r.new)∧W'.cell? ⟨gb,ob+3,none⟩=some (.int .i64 (r.field:Int))∧W'.cell? ⟨gb,ob+4,none⟩=some (.int .i64 (r.ra:Int))∧W'.cell? ⟨gb,ob+5,none⟩=some (.int .i64 (r.rb:Int))∧W'.cell? ⟨gb,ob+6,none⟩=some va'∧W'.cell? ⟨gb,ob+7,none⟩=some vb') (by kernel_rfl) rfl rfl (by kernel_rfl) ?_
 simp only[List.take_succ_cons,List.take_zero]
 iterate 27(refine tk 0 rfl (by kernel_rfl) (fun _ _ _ h=>h) hHeld (fun w hSw=>by go_simp;try with_reducible rfl) (by simp only[pA,pB,pC,pD,pE,pF,pG,pH];exact rfl) ?_)
 refine lst (by kernel_rfl) rfl fun K hK=>?_
 go_simp
 refine hK _ _ ?_
 clear hK K hHeld
 go_wp2_with fail
 have hHeld:=HAB.out w2.drew.drew HB2.out.drew.drew
 refine zah 42 (fun(W':World)=>(W'.cell? ⟨ga,oa,none⟩=some (.int .i64 r.a)∧W'.cell? ⟨ga,oa+1,none⟩=some (.int .i64 r.b)∧W'.cell? ⟨ga,oa+2,none⟩=some (.int .i64 r.new)∧W'.cell? ⟨ga,oa+3,none⟩=some (.int .i64 (r.field:Int))∧W'.cell? ⟨ga,oa+4,none⟩=some (.int .i64 (r.ra:Int))∧W'.cell? ⟨ga,oa+5,none⟩=some (.int .i64 (r.rb:Int))∧W'.cell? ⟨ga,oa+6,none⟩=some va∧W'.cell? ⟨ga,oa+7,none⟩=some vb)∧W'.cell? ⟨gb,ob,none⟩=some (.int .i64 r.a)∧W'.cell? ⟨gb,ob+1,none⟩=some (.int .i64 r.b)∧W'.cell? ⟨gb,ob+2,none⟩=some (.int .i64 r.new)∧W'.cell? ⟨gb,ob+3,none⟩=some (.int .i64 (r.field:Int))∧W'.cell? ⟨gb,ob+4,none⟩=some (.int .i64 (r.ra:Int))∧W'.cell? ⟨gb,ob+5,none⟩=some (.int .i64 (r.rb:Int))∧W'.cell? ⟨gb,ob+6,none⟩=some va'∧W'.cell? ⟨gb,ob+7,none⟩=some vb') (by kernel_rfl) rfl rfl (by kernel_rfl) ?_
 simp only[List.take_succ_cons,List.take_zero]
 iterate 42(refine tk 0 rfl (by kernel_rfl) (fun _ _ _ h=>h) hHeld (fun w hSw=>by go_simp;try with_reducible rfl) (by simp only[pA,pB,pC,pD,pE,pF,pG,pH];exact rfl) ?_)
 refine lst (by kernel_rfl) rfl fun K hK=>?_
 go_simp
 refine hK _ _ ?_
 clear hK K hHeld
 go_wp2_with fail
 go_ret
 exact⟨rfl,HB2.out.drew.drew⟩
theorem zgg (a b f ra rb:Int)(w:World):Calls Tryz.prog 67 #[.int .i64 a,.int .i64 b,.int .i64 f,.int .i64 ra,.int .i64 rb] w fun e w'=>e=.returned (.agg #[.int .i64 a,.int .i64 b,.int .i64 (-1),.int .i64 f,.int .i64 ra,.int .i64 rb,.slice none 0 0,.slice none 0 0])∧w'=w.alloc (.cells #[.int .i64 a,.int .i64 b,.int .i64 (-1),.int .i64 f,.int .i64 ra,.int .i64 rb,.slice none 0 0,.slice none 0 0] 69):=by
 go_enter Tryz.func67,Tryz.ntmps67
 go_wp2_with fail
 exact bodyPost_ret (v:=.agg #[.int .i64 a,.int .i64 b,.int .i64 (-1),.int .i64 f,.int .i64 ra,.int .i64 rb,.slice none 0 0,.slice none 0 0]) (by simp[results,Tryz.results67,go_sem]) rfl ⟨rfl,rfl⟩
end
end Go.Proofs.YtkmcihhndgdhpaaGreat
