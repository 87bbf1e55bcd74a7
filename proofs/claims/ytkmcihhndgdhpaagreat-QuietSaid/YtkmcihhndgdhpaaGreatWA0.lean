/- Parts of the walk. -/
import Derived.OrdersHeld
import Derived.Below
import Derived.WalkKit
import Derived.Deep.Draws
import Derived.Deep.AppendLies
import Derived.Maps.AppendAt
import Derived.Lib.Hide
import Derived.KernelRfl
import Derived.Deep.QuietTactic
import Derived.Maps.RangeWalk
import Derived.Maps.OwnOps
import Derived.Test.YtkmcihhndgdhpaaGreatProg
import Derived.DeepKeys4
import Derived.Maps.RangeRun
import Derived.IntWalk
import Derived.RangeFuncNested
import Derived.RangeFuncBound
import Derived.RangeFuncCalls
import Derived.RangeFuncLeaves
import Derived.Deep.RegionHeld3
import Derived.StillTail
import Derived.Deep.LoopGhost
import Derived.Laws.AppendOwnNone
import Derived.RegionTactic
import Derived.WideKeyEntry
import Derived.WalkLawsBesides
import Derived.BigQuiet
set_option maxRecDepth 100000
set_option maxHeartbeats 4000000
set_option linter.unusedSimpArgs false
set_option linter.unusedVariables false
open Go.ChangeMaps Go.Maps Go.RowKit Go.Proofs.Tryz
namespace Go.Proofs.YtkmcihhndgdhpaaGreat
inductive Ji | mk (n:Int)
inductive Ju | mk (n:Int)
inductive Jp | mk (b:Nat)
inductive Jq | mk (b i:Nat)
inductive Js | mk (b n c:Nat)
inductive Jt | mk (b i n c:Nat)
inductive Jm | mk (b:Nat)
inductive Ja | mk (b i:Nat)
inductive Jn | mk (b k i:Nat)
inductive Jz | mk
inductive Jo | mk (c:Array Value) (t:TypeId)
inductive Je | mk
inductive Jr | mk (v:Value)
instance {n:Int}:CoeDep Ji (.mk n) Value:=⟨.int .i64 n⟩
instance {n:Int}:CoeDep Ju (.mk n) Value:=⟨.int .u8 n⟩
instance {n:Int}:CoeDep Ji (.mk n) Lit:=⟨.int .i64 n⟩
instance {n:Int}:CoeDep Ju (.mk n) Lit:=⟨.int .u8 n⟩
instance {b:Nat}:CoeDep Jp (.mk b) Value:=⟨.pointer (some ⟨b,0,none⟩)⟩
instance {b i:Nat}:CoeDep Jq (.mk b i) Value:=⟨.pointer (some ⟨b,i,none⟩)⟩
instance {b n c:Nat}:CoeDep Js (.mk b n c) Value:=⟨.slice (some ⟨b,0,none⟩) n c⟩
instance {b i n c:Nat}:CoeDep Jt (.mk b i n c) Value:=⟨.slice (some ⟨b,i,none⟩) n c⟩
instance {b:Nat}:CoeDep Jm (.mk b) Value:=⟨.map (some b)⟩
instance {b i:Nat}:CoeDep Ja (.mk b i) Addr:=⟨⟨b,i,none⟩⟩
instance {b k i:Nat}:CoeDep Jn (.mk b k i) Addr:=⟨⟨b,k*14+i,none⟩⟩
instance {c:Array Value} {t:TypeId}:CoeDep Jo (.mk c t) Obj:=⟨.cells c t⟩
instance:CoeDep Jz .mk Value:=⟨.slice none 0 0⟩
instance:CoeDep Je .mk Ending:=⟨.returned (.tuple #[])⟩
instance {v:Value}:CoeDep Jr (.mk v) Ending:=⟨.returned v⟩
theorem r1 {a b:Prop}(h:b):a\/b:=.inr h
theorem r2 {a0 a1 c:Prop}(h:c):a0\/a1\/c:=.inr (r1 h)
theorem r3 {a0 a1 a2 c:Prop}(h:c):a0\/a1\/a2\/c:=.inr (r2 h)
theorem r4 {a0 a1 a2 a3 c:Prop}(h:c):a0\/a1\/a2\/a3\/c:=.inr (r3 h)
theorem r5 {a0 a1 a2 a3 a4 c:Prop}(h:c):a0\/a1\/a2\/a3\/a4\/c:=.inr (r4 h)
theorem r6 {a0 a1 a2 a3 a4 a5 c:Prop}(h:c):a0\/a1\/a2\/a3\/a4\/a5\/c:=.inr (r5 h)
theorem r7 {a0 a1 a2 a3 a4 a5 a6 c:Prop}(h:c):a0\/a1\/a2\/a3\/a4\/a5\/a6\/c:=.inr (r6 h)
theorem r8 {a0 a1 a2 a3 a4 a5 a6 a7 c:Prop}(h:c):a0\/a1\/a2\/a3\/a4\/a5\/a6\/a7\/c:=.inr (r7 h)
theorem r9 {a0 a1 a2 a3 a4 a5 a6 a7 a8 c:Prop}(h:c):a0\/a1\/a2\/a3\/a4\/a5\/a6\/a7\/a8\/c:=.inr (r8 h)
theorem yE {p:Prop}(h:p:=by simp[Value.oneCell']):p:=h
theorem yo {p:Prop}(h:p:=by omega):p:=h
theorem yy {p:Prop}(h:p:=by simp):p:=h
theorem yd {p:Prop}(h:p:=by decide):p:=h
theorem yk {p:Prop}(h:p:=by kernel_rfl):p:=h
theorem yv {p:Prop}(h:p:=by simp <;> omega):p:=h
theorem yq {a p:Prop}(h:a)(k:a->p:=by intro _;omega):p:=k h
theorem yw {a b p:Prop}(h:a)(h':b)(k:a->b->p:=by intro _ _;omega):p:=k h h'
end Go.Proofs.YtkmcihhndgdhpaaGreat
namespace Go.Value
open Go.Proofs.YtkmcihhndgdhpaaGreat
abbrev i:=Ji.mk
abbrev u:=Ju.mk
abbrev p:=Jp.mk
abbrev q:=Jq.mk
abbrev s:=Js.mk
abbrev t:=Jt.mk
abbrev m:=Jm.mk
abbrev z:=Jz.mk
end Go.Value
namespace Go.Lit
open Go.Proofs.YtkmcihhndgdhpaaGreat
abbrev i:=Ji.mk
abbrev u:=Ju.mk
end Go.Lit
namespace Go.Obj
abbrev k:=Go.Proofs.YtkmcihhndgdhpaaGreat.Jo.mk
end Go.Obj
namespace Go.Ending
open Go.Proofs.YtkmcihhndgdhpaaGreat
abbrev e:=Je.mk
abbrev r:=Jr.mk
end Go.Ending
namespace Go.Addr
abbrev a:=Go.Proofs.YtkmcihhndgdhpaaGreat.Ja.mk
abbrev n:=Go.Proofs.YtkmcihhndgdhpaaGreat.Jn.mk
end Go.Addr
namespace Go.Proofs.YtkmcihhndgdhpaaGreat
abbrev ya:=@Nat.le_trans
abbrev yc:=@List.getElem?_eq_getElem
abbrev yg:=@if_neg
abbrev yh:=@List.getElem?_eq_some_iff
abbrev yi:=@Nat.lt_of_lt_of_le
abbrev yj:=@if_pos
abbrev yl:=@List.mem_of_getElem?
abbrev ym:=@bodyPost_ret
abbrev yn:=@Below.refl
abbrev yp:=@results_none
abbrev yr:=@Nat.le_refl
abbrev yt:=@Below.heap_setCell
abbrev yu:=@List.mem_append
abbrev yx:=@List.length_append
abbrev yz:=@List.getElem?_append_left
abbrev yA:=@World.ownsRow_nil
abbrev yC:=@List.getElem?_append_right
abbrev yD:=@Nat.zero_le
abbrev yF:=@Nat.lt_or_ge
abbrev yG:=@List.mem_singleton
abbrev yH:=@Bool.and_eq_true
abbrev yI:=@Bool.false_eq_true
abbrev yJ:=@Nat.or_lt_two_pow
abbrev yK:=@List.setIfInBounds_toArray
abbrev yM:=@List.take_succ_cons
abbrev yO:=@Nat.pow_le_pow_right
abbrev yP:=@Array.getElem?_eq_some_iff
abbrev yQ:=@Bool.or_eq_true
abbrev yR:=@List.set_cons_succ
abbrev yS:=@Bool.eq_iff_iff
abbrev yT:=@List.map_cons
abbrev yU:=@List.set_cons_zero
abbrev yV:=@List.getElem?_map
abbrev yW:=@List.mem_cons
abbrev yX:=@MapKept.run_getObj_map
abbrev yY:=@List.take_zero
abbrev yaa:=@List.drop_length
abbrev yab:=@List.getD_eq_getElem?_getD
abbrev yac:=@Nat.mul_le_mul_right
abbrev yad:=@List.mem_cons_of_mem
abbrev yae:=@List.mem_map
abbrev yaf:=@List.mem_range
abbrev yag:=@Nat.lt_of_le_of_lt
abbrev yah:=@List.length_take
abbrev yai:=@List.length_cons
abbrev yaj:=@List.all_eq_true
abbrev yak:=@Below.heap_alloc
abbrev yal:=@List.drop_zero
abbrev yam:=@List.take_add_one
abbrev yan:=@MapKept.run_setObj_map
abbrev yao:=@Bool.or_true
abbrev yap:=@Nat.pow_lt_pow_right
abbrev yaq:=@Nat.le_of_not_lt
abbrev yar:=@List.getLast?_eq_getElem?
abbrev yas:=@List.nil_append
abbrev yat:=@List.map_append
abbrev yau:=@Nat.testBit_or
abbrev yav:=@Bool.or_false
abbrev yaw:=@Nat.le_of_lt
abbrev yax:=@List.flatMap_cons
abbrev yay:=@List.drop_eq_getElem_cons
abbrev yaz:=@List.take_length
abbrev ya0:=@List.nodup_cons
abbrev ya1:=@List.cons_append
abbrev ya2:=@List.mem_or_eq_of_mem_set
abbrev ya3:=@Nat.le_succ
abbrev ya4:=@Nat.add_sub_cancel
abbrev ya5:=@World.putObj_heap_other
abbrev ya6:=@Nat.testBit_lt_two_pow
abbrev ya7:=@List.append_assoc
abbrev ya8:=@List.length_nil
abbrev ya9:=@List.append_nil
abbrev yba:=@Array.getElem?_setIfInBounds_ne
abbrev ybb:=@Option.getD_some
abbrev ybc:=@Bool.true_or
abbrev ybd:=@List.length_map
abbrev ybe:=@World.cell?_alloc_some
abbrev ybf:=@Nat.zero_add
abbrev ybg:=@List.drop_eq_nil_of_le
abbrev ybh:=@List.filter_cons
abbrev ybi:=@List.length_modify
abbrev ybj:=@Nat.shiftRight_eq_div_pow
abbrev ybk:=@Nat.ne_of_gt
abbrev ybl:=@Int.toNat_natCast
abbrev ybm:=@Array.replicate_zero
abbrev ybn:=@Array.replicate_succ
abbrev ybo:=@List.eq_of_mem_replicate
abbrev ybp:=@List.append_toArray
abbrev ybq:=@World.size_alloc
abbrev ybr:=@Nat.ne_of_lt
abbrev ybs:=@List.getElem?_take
abbrev ybt:=@List.getElem?_set_self
abbrev ybu:=@Bool.or_self
abbrev ybv:=@Option.map_some
abbrev ybw:=@List.length_set
abbrev ybx:=@List.mem_iff_getElem?
abbrev yby:=@List.length_singleton
abbrev ybz:=@List.length_replicate
abbrev yb0:=@List.getElem?_eq_none
abbrev yb1:=@Nat.lt_succ_of_lt
abbrev yb2:=@List.size_toArray
abbrev yb3:=@List.push_toArray
abbrev yb4:=@Bool.not_eq_true'
abbrev yb5:=@List.getElem?_set_ne
abbrev yb6:=@List.sum_cons
abbrev yb7:=@List.filter_append
abbrev yb8:=@Array.all_eq_true'
abbrev yb9:=@Nat.lt_trans
abbrev yca:=@Nat.le_succ_of_le
abbrev ycb:=@List.take_of_length_le
abbrev ycc:=@Bool.and_false
abbrev ycd:=@Array.toList_eraseIdxIfInBounds
abbrev yce:=@List.set_append_right
abbrev ycf:=@List.length_filter_le
abbrev ycg:=@Array.getElem?_modify
abbrev ych:=@Bool.not_true
abbrev yci:=@Nat.mul_one
abbrev ycj:=@Nat.eq_of_testBit_eq
abbrev yck:=@Bool.or_eq_false_iff
abbrev ycl:=@List.getElem_set_ne
abbrev ycm:=@Array.toList_modify
abbrev ycn:=@Nat.zero_mul
abbrev yco:=@List.map_set
abbrev ycp:=@World.grownBy.refl
abbrev ycq:=@Nat.mul_le_mul
abbrev ycr:=@Nat.left_le_or
abbrev ycs:=@List.mem_cons_self
abbrev yct:=@Bool.not_false
abbrev ycu:=@Array.ext'
abbrev ycv:=@Array.getElem?_eq_getElem
abbrev ycw:=@Nat.lt_of_succ_lt
abbrev ycx:=@Nat.add_mul
abbrev ycy:=@List.nodup_append
abbrev ycz:=@List.length_range
abbrev yc0:=@List.getElem?_set
abbrev yc1:=@List.ext_getElem?
abbrev yc2:=@Array.toList_push
abbrev yc3:=@World.setCell_alloc_past
abbrev yc4:=@Nat.add_assoc
abbrev yc5:=@Bool.false_or
abbrev yc6:=@Nat.mod_eq_of_lt
theorem yL {n:Nat}:n<=n:=Nat.le_refl n
theorem yZ {n:Nat}:0<=n:=Nat.zero_le n
theorem yB {n:Nat}{w:World}:Below n w w:=Below.refl n w
abbrev yN {w:World}{b t s}:=World.ownsRow_nil w b t s
end Go.Proofs.YtkmcihhndgdhpaaGreat
namespace Go.RowKit.Hid
theorem o {p : Prop} (h : Hid p) : p := h
end Go.RowKit.Hid
namespace Go.Shut
theorem o {p : Prop} (h : Go.Shut p) : p := h
end Go.Shut
namespace Go.Aside
theorem o {p : Prop} (h : Go.Aside p) : p := h
end Go.Aside
namespace Go.Proofs.YtkmcihhndgdhpaaGreat
variable {w W W' w1:World}{n k g N b B bytes x D B0 i mb:Nat}{v z:Value}{e t:TypeId}{m:List (Nat×Nat)}{S:Nat→Bool}{p:Addr}{l:List Oper}{cs:Array Value}{a:Act}{Q:Exit→Act→World→Prop}{xs ys:List Value}{P:Program}{ops:Array Oper}{o last:Oper}{start:List Nat}{row:Option Nat}{ts:List TypeId}{ds:List Deferred}
theorem mIc {p:Prop}(h:p:=by
  refine wpList_plain hg fun K' hK'=>?_;obtain⟨w',hrun,r1,r2,r3⟩:=hl.update K ht hok u;unfold Oper.wp;simp[execOp,hop,hm,hx,hv,hrun,Result.andThen];exact hK' _ _ (h w' r1 r2 r3)):p:=h
theorem mOc {p:Prop}(h:p:=by
  go_wp2;go_roundg (Cls.length-(j+1))
  case measure=>have:=HG2.o;omega
  case rel=>rw[show((j:Int)+1)=((j+1:Nat):Int) by omega];exact REL.o):p:=h
section
def Blk (w:World)(g:Nat)(t:TypeId)(cs:Array Value):Prop:=w.heap[g]?=some (.cells cs t (0,0))
section
variable {w w':World} {g:Nat} {t:TypeId} {cs cs':Array Value}
theorem Blk.lt (h:Blk w g t cs):g<w.heap.size:=by
 rcases yF g w.heap.size with D | A
 ·exact D
 ·unfold Blk at h;rw[Array.getElem?_eq_none A]at h;cases h
theorem Blk.cell (h:Blk w g t cs):∀ i,w.cell? (.a g i)=cs[i]? := fun i=>cell_of_row w g i cs t (0,0) h
theorem Blk.frozen (h:Blk w g t cs):∀ i,w.frozen? (.a g i)=false:=by
 intro i;unfold Blk at h;simp[World.frozen?,h]
theorem Blk.new (w:World)(t:TypeId)(cs:Array Value):Blk (w.alloc (.cells cs t)) w.heap.size t cs:=heap_alloc_new w _
theorem Blk.newAt {w:World}{g:Nat}{t:TypeId}{cs:Array Value}(h:g=w.heap.size):Blk (w.alloc (.cells cs t)) g t cs:=by subst h;exact Blk.new _ _ _
theorem Blk.drew (h:Blk w g t cs):Blk w.drew g t cs:=h
theorem Blk.drewN (h:Blk w g t cs)(n:Nat):Blk (w.drewN n) g t cs:=h
theorem Blk.alloc (h:Blk w g t cs)(o:Obj):Blk (w.alloc o) g t cs:=(yak w o g h.lt).trans h
theorem Blk.qe (h:Blk w g t cs)(i:Nat)(u:Value):Blk (w.setCell (.a g i) u) g t (cs.setIfInBounds i u):=by
 unfold Blk at h |-;simp[World.setCell,ycg,h]
theorem Blk.qi (h:Blk w g t cs)(hp:g≠p.block)(u:Value):Blk (w.setCell p u) g t cs:=(yt w p u g hp).trans h
theorem Blk.below {B:Nat}(h:Blk w g t cs)(hb:Below B w w')(hg:g<B):Blk w' g t cs:=(hb.block g hg).trans h
theorem Blk.grown (h:Blk w g t cs)(hb:w.grownBy w' row)(hg:some g≠row):Blk w' g t cs:=(hb.block g h.lt hg).trans h
theorem Blk.cast (h:Blk w g t cs)(e:cs=cs'):Blk w g t cs':=e ▸ h
theorem Blk.inj {t':TypeId}(h:Blk w g t cs)(h':Blk w g t' cs'):t=t'/\cs=cs':=by
 unfold Blk at h h';rw[h]at h';injection h' with h';injection h' with h1 h2;exact⟨h2,h1⟩
theorem Blk.qs {g':Nat}{t':TypeId}(h:Blk w g t cs)(h':Blk w g' t' cs')(hne:t≠t'):g≠g':=by
 rintro rfl;exact hne (h.inj h').1
end
def typOf:Obj->Option TypeId
 | .cells _ t _=>some t
 | _=>none
structure Chg (B:Nat)(ts:List TypeId)(xs:List Nat)(w w':World):Prop where
 os:w'.os=w.os
 tape:w'.tape=w.tape
 output:w'.output=w.output
 size:w.heap.size<=w'.heap.size
 block:∀ k o,w.heap[k]?=some o->(k<B\/((∀ t,typOf o=some t->t ∉ ts)/\k ∉ xs))->w'.heap[k]?=some o
section
variable {B:Nat} {ts ts':List TypeId} {xs xs':List Nat} {w w1 w2:World}
theorem Chg.refl (B:Nat)(ts:List TypeId)(xs:List Nat)(w:World):Chg B ts xs w w:=⟨rfl,rfl,rfl,yr _,fun _ _ h _=>h⟩
theorem Chg.trans (h:Chg B ts xs w w1)(k:Chg B ts xs w1 w2):Chg B ts xs w w2 :=
 ⟨k.os.trans h.os,k.tape.trans h.tape,k.output.trans h.output,ya h.size k.size,fun i o hi A=>k.block i o (h.block i o hi A) A⟩
theorem Chg.mono (h:Chg B ts xs w w1)(ht:∀ t ∈ ts,t ∈ ts')(hx:∀ x ∈ xs,x ∈ xs'):Chg B ts' xs' w w1 :=
 ⟨h.os,h.tape,h.output,h.size,fun i o hi A=>h.block i o hi (A.imp id fun⟨a,b⟩=>⟨fun t e m=>a t e (ht t m),fun m=>b (hx i m)⟩)⟩
theorem Chg.low {B':Nat}(h:Chg B ts xs w w1)(hB:B'<=B):Chg B' ts xs w w1 :=
 ⟨h.os,h.tape,h.output,h.size,fun i o hi A=>h.block i o hi (A.imp (fun q=>yi q hB) id)⟩
theorem Chg.drew (h:Chg B ts xs w w1):Chg B ts xs w w1.drew:=⟨h.os,h.tape,h.output,h.size,h.block⟩
theorem Chg.drewN (h:Chg B ts xs w w1)(n:Nat):Chg B ts xs w (w1.drewN n):=⟨h.os,h.tape,h.output,h.size,h.block⟩
theorem Chg.alloc (h:Chg B ts xs w w1)(o:Obj):Chg B ts xs w (w1.alloc o) :=
 ⟨h.os,h.tape,h.output,ya h.size (by simp),fun i D hi A=>by
  have h1:=h.block i D hi A;rw[yak _ _ _ (lt_of_block h1)];exact h1⟩
theorem Chg.setX (h:Chg B ts xs w w1)(hB:B<=p.block)(hx:p.block ∈ xs)(u:Value):Chg B ts xs w (w1.setCell p u) :=
 ⟨h.os,h.tape,h.output,by simpa [World.setCell] using h.size,fun i o hi A=>by
  rw[yt _ _ _ _ (by
   rintro rfl;rcases A with A | ⟨_,A⟩
   ·omega
   ·exact A hx)]
  exact h.block i o hi A⟩
theorem Chg.vi (h:Chg B ts xs w w1)(hn:w.heap.size<=p.block)(u:Value):Chg B ts xs w (w1.setCell p u) :=
 ⟨h.os,h.tape,h.output,by simpa [World.setCell] using h.size,fun i o hi A=>by
  rw[yt _ _ _ _ (by
   rintro rfl;have:=lt_of_block hi;omega)]
  exact h.block i o hi A⟩
theorem Chg.setT (h:Chg B ts xs w w1){t:TypeId}{cs:Array Value}(hb:Blk w1 p.block t cs)(hB:B<=p.block)(ht:t ∈ ts)(u:Value):Chg B ts xs w (w1.setCell p u) :=
 ⟨h.os,h.tape,h.output,by simpa [World.setCell] using h.size,fun i o hi A=>by
  rw[yt _ _ _ _ (by
   rintro rfl;rcases A with A | ⟨A,D⟩
   ·omega
   ·have h1:=h.block _ o hi (.inr ⟨A,D⟩);unfold Blk at hb;rw[hb]at h1;injection h1 with h1;exact A t (by rw[<- h1];rfl) ht)]
  exact h.block i o hi A⟩
theorem Chg.grown (h:Chg B ts xs w w1)(hg:w1.grownBy w2 row)
  (hr:∀ k,row=some k->w.heap.size<=k\/(B<=k/\(k ∈ xs\/∃ t cs,Blk w1 k t cs/\t ∈ ts))):Chg B ts xs w w2 :=
 ⟨hg.os.trans h.os,hg.tape.trans h.tape,hg.output.trans h.output,ya h.size hg.size,fun i o hi A=>by
  have h1:=h.block i o hi A;rw[hg.block i (lt_of_block h1) (by
   intro e;rcases hr i e.symm with D | ⟨E,D | ⟨t,cs,hb,ht⟩⟩
   ·have:=lt_of_block hi;omega
   ·rcases A with A | ⟨_,A⟩
    ·omega
    ·exact A D
   ·rcases A with A | ⟨A,_⟩
    ·omega
    ·unfold Blk at hb;rw[hb]at h1;injection h1 with h1;exact A t (by rw[<- h1];rfl) ht)]
  exact h1⟩
theorem Chg.below (h:Chg B ts xs w w1)(hB:B<=w.heap.size):Below B w w1 :=
 ⟨h.os,h.tape,h.output,h.size,fun k D=>by
  have A:k<w.heap.size:=yi D hB;have e:w.heap[k]?=some w.heap[k]:=ycv A;rw[e];exact h.block k _ e (.inl D)⟩
theorem Chg.qz (h:Below B w w1)(hB:w.heap.size<=B)(B':Nat)(ts:List TypeId)(xs:List Nat):Chg B' ts xs w w1 :=
 ⟨h.os,h.tape,h.output,h.size,fun i _ hi _=>(h.block i (yi (lt_of_block hi) hB)).trans hi⟩
theorem Blk.vh {g:Nat}{t:TypeId}{cs:Array Value}(hb:Blk w g t cs)(h:Chg B ts xs w w1)(ht:t ∉ ts)(hx:g ∉ xs):Blk w1 g t cs :=
 h.block g _ hb (.inr ⟨fun A e=>by
  injection e with e;exact e ▸ ht,hx⟩)
theorem za9 {base:Nat}{size:Nat}{v:Value}(h:w.ownsRow base e size v n ys)(hc:Chg B ts xs w w1)
  (ht:e ∉ ts) (hx:∀ k,v.ownBlock=some k->k ∉ xs):w1.ownsRow base e size v n ys:=by
 obtain⟨h1,h2⟩:=h;refine⟨h1,?_⟩;rcases h2 with h2 | ⟨g,cap,A,hv,D,E,r⟩
 ·exact .inl h2
 ·subst hv;exact .inr ⟨g,cap,A,rfl,D,hc.block g _ E (.inr ⟨fun G e'=>by
   injection e' with e';exact e' ▸ ht,hx g rfl⟩),r⟩
end
theorem zce {a b:Bool}(h:a=b):Ending.returned (.bool a)=.r (.bool b):=by rw[h]
theorem zs6 {k:IntKind}{a b:Int}(h:a=b):Ending.returned (.int k a)=.r (.int k b):=by rw[h]
def Here (p:Prop):Prop:=p
theorem zbj {p:Prop}(h:Here p):p:=h
theorem zbk {p:Prop}(h:p):Here p:=h
theorem xh {P:Program}{c:Code}{Q:Exit->Act->World->Prop}{a:Act}{w:World}(X:World->Prop)(hx:X w)(h:∀ w1,X w1->c.wp P Q a w1):c.wp P Q a w:=h w hx
theorem zuq {P:Program}{ops:Array Oper}{Q:Exit->Act->World->Prop}{a:Act}{w:World}(X:World->Prop)(hx:X w)(h:∀ w1,X w1->wpList P ops Q l a w1):wpList P ops Q l a w:=h w hx
theorem zav {P:Program}{f:FuncId}{args:Array Value}{w:World}{v:Value}
  (h:Calls P f args (w.drewN n) fun e w'=>e=.r v/\w.drewN n=w'):Calls P f args (w.drewN n) fun e w''=>e=.r v/\∃ m,w''=w.drewN m :=
 h.mono fun _ _ ⟨A,hm⟩=>⟨A,n,hm.symm⟩
theorem zbw {P:Program}{f:FuncId}{args:Array Value}{w:World}{a:Nat}{v:Value}
  (h:Calls P f args (w.drewN (a+n)) fun e w'=>e=.r v/\w.drewN (a+n)=w') :
  Calls P f args (w.drewN (a+n)) fun e A=>e=.r v/\∃ m,A=w.drewN (a+m) :=
 h.mono fun _ _ ⟨D,hm⟩=>⟨D,n,hm.symm⟩
structure Flt where
 e:Nat
 at_:Nat
 deriving DecidableEq,Repr
def zf (w:World)(b:Nat)(f:Flt):Prop:=Blk w b 323 #[.i f.e,.i f.at_]
theorem zf.new {w:World}{p:Nat}(h:b=w.heap.size):zf (w.alloc (.k #[.i k,.i p] 323)) b ⟨k,p⟩:=by
 subst h;exact Blk.new _ _ _
def zd6 (b:Nat):List PanicEntry:=[{ v:=.iface 206 (.p b),recovered:=false }]
def Post {α : Type}(B:Nat)(ts:List TypeId)(xs:List Nat)(w:World)(r:Except Flt α)(K:α -> Value->World->Prop)(e:Ending)(w':World):Prop :=
 (∃ a v,r=.ok a/\e=.r v/\K a v w'/\Chg B ts xs w w') \/
 (∃ f b,r=.error f/\e=.panicked (zd6 b)/\zf w' b f/\w.heap.size<=b/\Chg B ts xs w w')
theorem zH {p:Prop}(h:p):Go.RowKit.Hid p:=h
theorem pA (a:Act)(k:Nat)(v:Value):a.put (some k) v={ a with tmps:=a.tmps.setIfInBounds k v }:=rfl
theorem pB (a:Act)(v:Value):a.put none v=a:=rfl
theorem pC {α: Type}(l:List α)(i:Nat)(x:α):l.toArray.setIfInBounds i x=(l.set i x).toArray:=yK ..
theorem pD {α: Type}(a b:α)(l:List α):(a::l).set 0 b=b::l:=yU ..
theorem pE {α: Type}(a b:α)(l:List α)(n:Nat):(a::l).set (n+1) b=a::l.set n b:=yR ..
theorem pF {α: Type}(l:List α)(i:Nat)(h:i<l.toArray.size):l.toArray[i]=l[i]'(by simpa using h):=rfl
theorem pG {α: Type}(a:α)(l:List α)(h:0<(a::l).length):(a::l)[0]=a:=rfl
theorem pH {α: Type}(a:α)(l:List α)(n:Nat)(h:n+1<(a::l).length):(a::l)[n+1]=l[n]'(by simpa using h):=rfl
section
variable {P:Program} {md:Region.Mode} {ops:Array Oper} {Q:Exit->Act->World->Prop} {S:World->Prop} {fuel i:Nat} {listed:Array Bool} {a a':Act} {w:World} {oi:Oper} {v:Value}
def nxO (ops:Array Oper)(listed:Array Bool):Nat->Nat->Option (Nat×Oper)
 | 0,_=>none
 | n+1,k=>if listed.getD k true then nxO ops listed n (k+1)else match ops[k]? with | some o=>some (k,o) | none=>none
theorem zn6:∀ {n k:Nat},nxO ops listed n k=some (i,oi)->ops[i]?=some oi
 | 0,_,h=>by cases h
 | n+1,k,h=>by
  unfold nxO at h;split at h
  ·exact zn6 h
  ·split at h
   ·rename_i o ho;injection h with h;injection h with h1 h2;subst h1 h2;exact ho
   ·cases h
theorem tK (k:Nat)(hi:nxO ops listed 100 k=some (i,oi))(hS:S w)(h:wpAnyH P md ops Q S fuel (listed.setIfInBounds i true) a' w)
  (hb:(Region.noSelect ops&&Region.free md ops listed i&&(Region.ready md ops listed).contains i&&Region.wanted oi (yielded ops a.tmps))=true:=by kernel_rfl)
  (hQ:∀ c a w,Q (.panic c) (a.put oi.dst v) w->Q (.panic c) a w:=by exact fun _ _ _ h=>h) (hy:∀ w,S w->(execOp a.eval oi).run P w=.ok (.value v) w:=by intro w hSw;go_simp;try with_reducible rfl)
  (ha:a.put oi.dst v=a':=by simp only[pA,pB,pC,pD,pE,pF,pG,pH];exact rfl):wpAnyH P md ops Q S (fuel+1) listed a w:=by
 simp only[yH]at hb;exact wpAnyH_take (zn6 hi) hb.1.1.1 hb.1.1.2 hb.1.2 hQ (.inl ⟨hb.2,hy⟩) hS (ha ▸ h)
theorem sK (k:Nat)(hi:nxO ops listed 100 k=some (i,oi))(hS:S w)(h:wpAnyH P md ops Q S fuel (listed.setIfInBounds i true) a' w)
  (hb:(Region.noSelect ops&&Region.free md ops listed i&&(Region.ready md ops listed).contains i && !Region.wanted oi (yielded ops a.tmps))=true:=by kernel_rfl)
  (hQ:∀ c a w,Q (.panic c) (a.put oi.dst undef) w->Q (.panic c) a w:=by exact fun _ _ _ h=>h)
  (ha:a.put oi.dst undef=a':=by simp only[pA,pB,pC,pD,pE,pF,pG,pH];exact rfl):wpAnyH P md ops Q S (fuel+1) listed a w:=by
 simp only[yH,yb4]at hb;exact wpAnyH_take (zn6 hi) hb.1.1.1 hb.1.1.2 hb.1.2 hQ (.inr ⟨hb.2,rfl⟩) hS (ha ▸ h)
end
end
section
structure zaw (P:Program)(k:TypeId){κ : Type}(enc:κ -> Value)(ok:κ -> Prop):Prop where
 keyed:Maps.Keyed P k
 reads:∀ x,ok x->∃ l,keyOf P k (enc x)=some l
 inj:∀ x y,enc x=enc y->x=y
section
variable {κ ν : Type} [DecidableEq κ]
def mget:List (κ × ν)->κ -> Option ν
 | [],_=>none
 | p::r,x=>if p.1=x then some p.2 else mget r x
def mput:List (κ × ν)->κ -> ν -> List (κ × ν)
 | [],x,v=>[(x,v)]
 | p::r,x,v=>if p.1=x then(x,v)::r else p::mput r x v
def mdel (m:List (κ × ν))(x:κ):List (κ × ν):=m.filter fun p=>!decide (p.1=x)
theorem zhl {m:List (κ × ν)}{x:κ}:mget m x=none↔∀ p ∈ m,p.1≠x:=by
 induction m with
 | nil=>simp[mget]
 | cons p r ih =>
  unfold mget;by_cases h:p.1=x
  ·simp[h]
  ·rw[yg h,ih];simp[h]
theorem zdd {m:List (κ × ν)}{x:κ}{v:ν}(h:mget m x=some v):(x,v) ∈ m:=by
 induction m with
 | nil=>simp[mget]at h
 | cons p r ih =>
  unfold mget at h;by_cases h':p.1=x
  ·rw[yj h']at h;injection h with h;subst h' h;simp
  ·rw[yg h']at h;exact yad _ (ih h)
theorem zea {m:List (κ × ν)}{x:κ}{v:ν}(hn:(m.map Prod.fst).Nodup)(h:(x,v) ∈ m):mget m x=some v:=by
 induction m with
 | nil=>simp at h
 | cons p r ih =>
  simp only[yT,ya0]at hn;unfold mget;rcases yW.1 h with h | h
  ·subst h;simp
  ·rw[yg,ih hn.2 h];intro e;exact hn.1 (e ▸ yae.2 ⟨_,h,rfl⟩)
theorem xd (m:List (κ × ν))(x y:κ)(v:ν):mget (mput m x v) y=if x=y then some v else mget m y:=by
 induction m with
 | nil=>simp[mput,mget]
 | cons p r ih =>
  unfold mput;by_cases h:p.1=x
  ·rw[yj h];subst h;by_cases h2:p.1=y <;> simp[mget,h2]
  ·rw[yg h];by_cases h2:p.1=y
   ·subst h2;simp[mget,Ne.symm h]
   ·simp only[mget,yg h2,ih]
theorem zf3 {m:List (κ × ν)}{x:κ}{v:ν}{p:κ × ν}(h:p ∈ mput m x v):p=(x,v)\/p ∈ m:=by
 induction m with
 | nil=>simpa [mput] using h
 | cons q r ih =>
  unfold mput at h;by_cases h':q.1=x
  ·rw[yj h']at h;rcases yW.1 h with h | h
   ·exact .inl h
   ·exact .inr (yad _ h)
  ·rw[yg h']at h;rcases yW.1 h with h | h
   ·exact .inr (by simp[h])
   ·exact(ih h).imp id (yad _)
theorem zxz (m:List (κ × ν))(x:κ)(v:ν):(mput m x v).map Prod.fst=if x ∈ m.map Prod.fst then m.map Prod.fst else m.map Prod.fst++[x]:=by
 induction m with
 | nil=>simp[mput]
 | cons p r ih =>
  unfold mput;by_cases h:p.1=x
  ·rw[yj h];simp[h]
  ·rw[yg h,yT,ih];by_cases h2:x ∈ r.map Prod.fst
   ·rw[yj h2,yj (by simp[h2])];rfl
   ·rw[yg h2,yg (by simp only[yT,yW,not_or];exact⟨fun e=>h e.symm,h2⟩)];rfl
theorem zls {m:List (κ × ν)}(h:(m.map Prod.fst).Nodup)(x:κ)(v:ν):((mput m x v).map Prod.fst).Nodup:=by
 rw[zxz];split
 ·exact h
 ·rename_i h2;rw[ycy];refine⟨h,by simp,fun a A b hb e=>?_⟩;simp at hb;subst hb e;exact h2 A
theorem znu (m:List (κ × ν))(x:κ)(v:ν):(mput m x v).length=if mget m x=none then m.length+1 else m.length:=by
 induction m with
 | nil=>simp[mput,mget]
 | cons p r ih =>
  unfold mput mget;by_cases h:p.1=x
  ·simp[h]
  ·simp only[yg h,yai,ih];split <;> rfl
theorem mput_set (m:List (κ × ν))(x:κ)(v:ν):∀ (j:Nat) (u:ν),m[j]?=some (x,u)->(m.map Prod.fst).Nodup->mput m x v=m.set j (x,v):=by
 induction m with
 | nil=>intro j u h;simp at h
 | cons p r ih =>
  intro j u h hn;simp only[yT,ya0]at hn;cases j with
  | zero =>
   simp at h;subst h;simp[mput]
  | succ j =>
   have h':r[j]?=some (x,u):=by simpa using h
   have A:p.1≠x:=fun e=>hn.1 (e ▸ yae.2 ⟨_,yl h',rfl⟩);simp only[mput,yg A,yR,ih j u h' hn.2]
theorem zrz (m:List (κ × ν))(x:κ)(v:ν)(h:∀ p ∈ m,p.1≠x):mput m x v=m++[(x,v)]:=by
 induction m with
 | nil=>simp[mput]
 | cons p r ih =>
  simp only[mput,yg (h p yy),ih (fun q A=>h q (yad _ A)),ya1]
theorem zyg (m:List (κ × ν))(x:κ)(h:∀ p ∈ m,p.1≠x):mdel m x=m:=by
 unfold mdel;rw[List.filter_eq_self];intro p A;simp[h p A]
theorem zyf (m:List (κ × ν))(x:κ):∀ (j:Nat) (u:ν),m[j]?=some (x,u)->(m.map Prod.fst).Nodup->mdel m x=m.eraseIdx j:=by
 induction m with
 | nil=>intro j u h;simp at h
 | cons p r ih =>
  intro j u h hn;simp only[yT,ya0]at hn;cases j with
  | zero =>
   simp at h;subst h;simp only[mdel,ybh,decide_true,ych,yI,if_false,List.eraseIdx_cons_zero];rw[List.filter_eq_self];intro q D;have:q.1≠x:=fun e=>hn.1 (e ▸ yae.2 ⟨_,D,rfl⟩);simp[this]
  | succ j =>
   have h':r[j]?=some (x,u):=by simpa using h
   have A:p.1≠x:=fun e=>hn.1 (e ▸ yae.2 ⟨_,yl h',rfl⟩);have:=ih j u h' hn.2;unfold mdel at this |-;simp[A,this]
theorem zrw (m:List (κ × ν))(x y:κ):mget (mdel m x) y=if x=y then none else mget m y:=by
 induction m with
 | nil=>simp[mdel,mget]
 | cons p r ih =>
  unfold mdel at ih |-;by_cases h:p.1=x
  ·subst h;simp only[ybh,decide_true,ych,yI,if_false,ih];by_cases h2:p.1=y
   ·simp[h2]
   ·simp[h2,mget]
  ·simp only[ybh,h,decide_false,yct,if_true,mget,ih];by_cases h2:p.1=y
   ·subst h2;simp[Ne.symm h]
   ·simp[h2]
theorem zsg {m:List (κ × ν)}(h:(m.map Prod.fst).Nodup)(x:κ):((mdel m x).map Prod.fst).Nodup :=
 h.sublist (List.Sublist.map _ List.filter_sublist)
end
def zG (w:World)(b:Nat){κ ν : Type}(enc:κ -> Value)(ok:κ -> Prop)(encv:ν -> Value)(m:List (κ × ν)):Prop :=
 ∃ es clock,w.heap[b]?=some (.map es clock)/\es.toList.map (fun e=>(e.key,e.val))=m.map (fun p=>(enc p.1,encv p.2)) /\
  (m.map Prod.fst).Nodup/\(∀ p ∈ m,ok p.1)/\(∀ e ∈ es.toList,e.born<clock)/\(es.toList.map (·.born)).Nodup
def zY (w:World)(b r:Nat){κ ν : Type}(enc:κ -> Value)(ok:κ -> Prop)(encv:ν -> Value)(m left:List (κ × ν)):Prop :=
 ∃ es clock seen,w.heap[b]?=some (.map es clock)/\w.heap[r]?=some (.mapIter (some b) clock seen clock) /\
  es.toList.map (fun e=>(e.key,e.val))=m.map (fun p=>(enc p.1,encv p.2)) /\
  (m.map Prod.fst).Nodup/\(∀ p ∈ m,ok p.1)/\(∀ e ∈ es.toList,e.born<clock)/\(es.toList.map (·.born)).Nodup /\
  (es.toList.filter (fun e=>!seen.contains e.born)).map (fun e=>(e.key,e.val))=left.map (fun p=>(enc p.1,encv p.2))/\(∀ p ∈ left,p ∈ m)/\(left.map Prod.fst).Nodup
section
variable {P:Program} {k e t:TypeId} {κ ν : Type} {enc:κ -> Value} {ok:κ -> Prop} {encv:ν -> Value} {w w':World} {b:Nat} {m:List (κ × ν)}
theorem zG.lt (h:zG w b enc ok encv m):b<w.heap.size:=by
 obtain⟨A,clock,hb,_⟩:=h;exact lt_of_block hb
theorem zG.qa (h:zG w b enc ok encv m)(hb:w'.heap[b]? = w.heap[b]?):zG w' b enc ok encv m:=by
 obtain⟨A,clock,h1,h2⟩:=h;exact⟨A,clock,hb.trans h1,h2⟩
theorem zG.drew (h:zG w b enc ok encv m):zG w.drew b enc ok encv m:=h
theorem zG.drewN (h:zG w b enc ok encv m)(n:Nat):zG (w.drewN n) b enc ok encv m:=h
theorem zG.alloc (h:zG w b enc ok encv m)(o:Obj):zG (w.alloc o) b enc ok encv m:=h.qa (yak w o b h.lt)
theorem zG.qi (h:zG w b enc ok encv m)(hp:b≠p.block)(u:Value):zG (w.setCell p u) b enc ok encv m:=h.qa (yt w p u b hp)
theorem zG.qf (h:zG w b enc ok encv m){t:TypeId}(hg:Blk w g t cs):b≠g:=by
 rintro rfl;obtain⟨A,clock,h1,_⟩:=h;unfold Blk at hg;rw[h1]at hg;cases hg
theorem zG.vh {xs:List Nat}(h:zG w b enc ok encv m)(hc:Chg B ts xs w w')(hx:b ∉ xs):zG w' b enc ok encv m:=by
 obtain⟨A,clock,h1,h2⟩:=h;exact⟨A,clock,hc.block b _ h1 (.inr ⟨fun t e=>(by cases e),hx⟩),h2⟩
theorem zG.made (w:World)(enc:κ -> Value)(ok:κ -> Prop)(encv:ν -> Value):zG (w.alloc (.map #[] 0)) w.heap.size enc ok encv [] :=
 ⟨#[],0,heap_alloc_new w _,by simp,by simp,by simp,by simp,by simp⟩
theorem zk9 (K:zaw P k enc ok)(w:World){es:List MapEntry}(he:es.map (fun e=>(e.key,e.val))=m.map (fun p=>(enc p.1,encv p.2)))(hok:∀ p ∈ m,ok p.1){x:κ}(hx:ok x) :
  (((Instr.findKey k (enc x) es).run P w=.ok none w/\∀ p ∈ m,p.1≠x)\/∃ j u,(Instr.findKey k (enc x) es).run P w=.ok (some (j,encv u)) w/\m[j]?=some (x,u)/\∃ y,es[j]?=some y/\y.key=enc x):=by
 obtain⟨l,hl⟩:=K.reads x hx;have E:∀ y ∈ es,∃ l,keyOf P k y.key=some l:=by
  intro y H;have:(y.key,y.val) ∈ m.map (fun p=>(enc p.1,encv p.2)):=he ▸ yae.2 ⟨y,H,rfl⟩;obtain⟨p,G,D⟩:=yae.1 this;injection D with h1 h2;rw[<- h1];exact K.reads _ (hok p G)
 rcases K.keyed.find w hl es E with⟨h1,h2⟩ | ⟨j,y,h1,h2,h3⟩
 ·refine .inl ⟨h1,fun p G A=>?_⟩;have:(enc p.1,encv p.2) ∈ es.map (fun e=>(e.key,e.val)):=he ▸ yae.2 ⟨p,G,rfl⟩;obtain⟨y,H,I⟩:=yae.1 this;injection I with h4 h5;exact h2 y H (by rw[h4,A])
 ·have h4:(es.map (fun e=>(e.key,e.val)))[j]?=some (y.key,y.val):=by simp[h2]
  rw[he]at h4;simp only[yV,Option.map_eq_some_iff]at h4;obtain⟨p,G,D⟩:=h4;injection D with h5 h6;have A:p.1=x:=K.inj _ _ (h5.trans h3);obtain⟨L,J⟩:=p;simp only at A h6;subst A;exact .inr ⟨j,J,by rw[h6];exact h1,G,y,h2,h3⟩
theorem zG.len (h:zG w b enc ok encv m)(ht:P.underlying t=some (.map k e))(ty:TypeId) :
  (Builtin.len_ #[t] ty #[.m b]).run P w=.ok (.i m.length) w:=by
 obtain⟨A,clock,hb,D,_⟩:=h;have:A.size=m.length:=by simpa using congrArg List.length D
 simp[Builtin.len_,run_underlying ht,yX hb,Result.andThen,goInt,this]
variable [DecidableEq κ]
theorem zG.lookup (h:zG w b enc ok encv m)(K:zaw P k enc ok)(ht:P.underlying t=some (.map k e))(hz:(zeroValue e).run P w=.ok z w){x:κ}(hx:ok x)(c:Bool) :
  (Instr.lookup t (.m b) (enc x) c).run P w=.ok (match mget m x with | some u=>(if c then .tuple #[encv u,.bool true]else encv u) | none=>(if c then .tuple #[z,.bool false]else z)) w:=by
 obtain⟨H,clock,hb,D,hn,A,E,G⟩:=h;obtain⟨l,hl⟩:=K.reads x hx;rcases zk9 K w D A hx with⟨h1,h2⟩ | ⟨j,u,h1,h2,_⟩
 ·rw[zhl.2 h2];cases c <;> simp[Instr.lookup,run_underlying ht,yX hb,K.keyed.check w _ hl,h1,hz,Result.andThen]
 ·rw[zea hn (yl h2)];cases c <;> simp[Instr.lookup,run_underlying ht,yX hb,K.keyed.check w _ hl,h1,Result.andThen]
theorem zG.update (h:zG w b enc ok encv m)(K:zaw P k enc ok)(ht:P.underlying t=some (.map k e)){x:κ}(hx:ok x)(u:ν) :
  ∃ w',(Instr.mapUpdate t (.m b) (enc x) (encv u)).run P w=.ok () w'/\zG w' b enc ok encv (mput m x u)/\w.grownBy w' (some b)/\w'.heap.size=w.heap.size:=by
 obtain⟨H,clock,hb,Q,hn,N,D,O⟩:=h;obtain⟨l,hl⟩:=K.reads x hx;have S:=lt_of_block hb;have L:∀ o,w.grownBy (setBlock w b o) (some b):=fun o =>
  ⟨rfl,rfl,rfl,by simp[setBlock],fun i _ hi=>by
   simp only[setBlock];rw[yba (by intro e;exact hi (by rw[e]))]⟩
 have J:∀ o,(setBlock w b o).heap[b]?=some o:=fun o=>by simp[setBlock,S]
 have E:∀ p ∈ mput m x u,ok p.1:=by
  intro p U;rcases zf3 U with rfl | U
  ·exact hx
  ·exact N p U
 rcases zk9 K w Q N hx with⟨h1,h2⟩ | ⟨j,v,h1,h2,y,h3,h4⟩
 ·refine⟨setBlock w b (.map (H.push { key:=enc x,val:=encv u,born:=clock }) (clock+1)),?_,⟨_,_,J _,?_,zls hn x u,E,?_,?_⟩,L _,by simp[setBlock]⟩
  ·simp[Instr.mapUpdate,run_underlying ht,yX hb,K.keyed.check w _ hl,h1,yan _ hb,Result.andThen,setBlock]
  ·rw[zrz m x u h2];simp[Q]
  ·intro y I;simp at I;rcases I with I | rfl
   ·have:=D y (by simpa using I);omega
   ·simp
  ·simp only[yc2,yat,yT,List.map_nil];rw[ycy];refine⟨O,by simp,fun a Y c W e=>?_⟩;simp at W;subst W e;obtain⟨y,I,Z⟩:=yae.1 Y;have:=D y I;omega
 ·have R:j<H.size:=by
   have:=(yh.1 h3).1;simpa using this
  have G:H[j]?=some y:=by simpa using h3
  refine⟨setBlock w b (.map (H.modify j fun e=>{ e with key:=enc x,val:=encv u }) clock),?_,⟨_,_,J _,?_,zls hn x u,E,?_,?_⟩,L _,by simp[setBlock]⟩
  ·simp[Instr.mapUpdate,run_underlying ht,yX hb,K.keyed.check w _ hl,h1,G,h4,K.keyed.stays w hl,yan _ hb,Result.andThen,setBlock]
  ·rw[mput_set m x u j v h2 hn];rw[yco,<- Q];apply yc1;intro i;simp only[yV,Array.getElem?_toList,ycg,yc0,ybd,Array.length_toList];by_cases A:j=i
   ·subst A;simp[R]
   ·simp[A]
  ·intro z hz;obtain⟨i,hi⟩:=ybx.1 hz;simp only[Array.getElem?_toList,ycg]at hi;by_cases A:j=i
   ·subst A;simp[G]at hi;subst hi;exact D y (yl h3)
   ·simp[A]at hi;exact D z (yl (by simpa using hi))
  ·have:(H.modify j fun e=>{ e with key:=enc x,val:=encv u }).toList.map (·.born)=H.toList.map (·.born):=by
    apply yc1;intro i;simp only[yV,Array.getElem?_toList,ycg];by_cases A:j=i
    ·subst A;simp[G]
    ·simp[A]
   rw[this];exact O
theorem zG.delete (h:zG w b enc ok encv m)(K:zaw P k enc ok)(ht:P.underlying t=some (.map k e)){x:κ}(hx:ok x)(ty t':TypeId) :
  ∃ w',(Builtin.delete_ #[t,t'] ty #[.m b,enc x]).run P w=.ok (.tuple #[]) w'/\zG w' b enc ok encv (mdel m x)/\w.grownBy w' (some b)/\w'.heap.size=w.heap.size:=by
 obtain⟨N,clock,hb,J,hn,G,H,I⟩:=h;obtain⟨l,hl⟩:=K.reads x hx;have L:=lt_of_block hb;have E:∀ o,w.grownBy (setBlock w b o) (some b):=fun o =>
  ⟨rfl,rfl,rfl,by simp[setBlock],fun i _ hi=>by
   simp only[setBlock];rw[yba (by intro e;exact hi (by rw[e]))]⟩
 have D:∀ o,(setBlock w b o).heap[b]?=some o:=fun o=>by simp[setBlock,L]
 have A:∀ p ∈ mdel m x,ok p.1:=fun p Q=>G p (List.mem_filter.1 Q).1;rcases zk9 K w J G hx with⟨h1,h2⟩ | ⟨j,v,h1,h2,y,h3,h4⟩
 ·refine⟨setBlock w b (.map N clock),?_,⟨_,_,D _,?_,zsg hn x,A,H,I⟩,E _,by simp[setBlock]⟩
  ·simp[Builtin.delete_,run_underlying ht,yX hb,K.keyed.check w _ hl,h1,yan _ hb,Result.andThen,setBlock]
  ·rw[zyg m x h2];exact J
 ·refine⟨setBlock w b (.map (N.eraseIdxIfInBounds j) clock),?_,⟨_,_,D _,?_,zsg hn x,A,?_,?_⟩,E _,by simp[setBlock]⟩
  ·simp[Builtin.delete_,run_underlying ht,yX hb,K.keyed.check w _ hl,h1,yan _ hb,Result.andThen,setBlock]
  ·rw[zyf m x j v h2 hn];simp only[ycd];rw[map_eraseIdx,map_eraseIdx,J]
  ·intro z O;simp only[ycd]at O;exact H z ((List.eraseIdx_sublist _ _).subset O)
  ·simp only[ycd];exact I.sublist (List.Sublist.map _ (List.eraseIdx_sublist _ _))
end
theorem strKey {P:Program}{k:TypeId}(hk:P.underlying k=some .string):zaw P k (fun s:ByteArray=>Value.string s) (fun s=>s.size<=maxLen) where
 keyed:=string_keyed hk
 reads:=fun s A=>⟨.string s.data.toList,by simp[keyOf,hk,mapKey,A]⟩
 inj:=fun _ _ h=>by injection h
theorem intKey {P:Program}{k:TypeId}{q:IntKind}(hk:P.underlying k=some (.int q)):zaw P k (fun n:Int=>Value.int q n) (fun n=>(Lit.int q n).wf=true) where
 keyed:=int_keyed hk
 reads:=fun n hn=>⟨.int q n,keyOf_int_mk hk hn⟩
 inj:=fun _ _ h=>by injection h
theorem z1k {P:Program}{κ ν: Type} [DecidableEq κ] {enc:κ -> Value} {ok:κ -> Prop} {encv:ν -> Value}  {rest:List Oper}   
  (hg:o.guard=none) (m x v:Operand) (t k e:TypeId) (hop:o.op=Op.insert t m x v) (K:zaw P k enc ok) (ht:P.underlying t=some (.map k e))
  (b:Nat) (key:κ) (u:ν) (w:World) (l:List (κ × ν)) (hl:zG w b enc ok encv l)
  (hm:a.eval m=.m b) (hx:a.eval x=enc key) (hv:a.eval v=encv u) (hok:ok key)
  (h:∀ w',zG w' b enc ok encv (mput l key u)->w.grownBy w' (some b)->w'.heap.size=w.heap.size->wpList P ops Q rest (a.put o.dst undef) w'):wpList P ops Q (o::rest) a w:=by
 exact mIc
theorem z1l {P:Program}{κ ν: Type} [DecidableEq κ] {enc:κ -> Value} {ok:κ -> Prop} {encv:ν -> Value}  {rest:List Oper}   
  (hg:o.guard=none) (m x v:Operand) (t k e:TypeId) (hop:o.op=Op.mapUpdate t m x v) (K:zaw P k enc ok) (ht:P.underlying t=some (.map k e))
  (b:Nat) (key:κ) (u:ν) (w:World) (l:List (κ × ν)) (hl:zG w b enc ok encv l)
  (hm:a.eval m=.m b) (hx:a.eval x=enc key) (hv:a.eval v=encv u) (hok:ok key)
  (h:∀ w',zG w' b enc ok encv (mput l key u)->w.grownBy w' (some b)->w'.heap.size=w.heap.size->wpList P ops Q rest (a.put o.dst undef) w'):wpList P ops Q (o::rest) a w:=by
 exact mIc
end
structure Nd where
 k:Nat
 a:Nat
 b:Int
 deriving DecidableEq,Repr
abbrev ndV (n:Nd):Value:=.agg #[.u n.k,.i n.a,.i n.b]
def NdOk (n:Nd):Prop:=n.k<256/\n.a<1000000/\-1000000<n.b/\n.b<1000000
theorem zlf:laidOutB prog=true:=yk
theorem ndRow:(419:TypeId)<prog.types.size:=of_decide_eq_true yk
theorem ndLaw:WideMaps.KeyLaw prog 419:=deep_law_laid zlf (m:=2) yo ndRow yk (by rw[underlying419])
theorem zr9:prog.cellsOf 419=3:=yk
theorem wf_u8 (h:n<256):(Lit.int .u8 (n:Int)).wf=true:=by
 simp[Lit.wf,IntKind.min,IntKind.max,IntKind.bits,IntKind.signed];omega
theorem wf_i64 {n:Int}(h:-1000000<n/\n<1000000):(Lit.int .i64 n).wf=true:=by
 simp[Lit.wf,IntKind.min,IntKind.max,IntKind.bits,IntKind.signed];omega
theorem ndKeys (s:Nat)(n:Nd)(h:NdOk n)(hs:0<s):∃ l,prog.keyLits (s+1) 419 (ndV n).cells.toList=some l:=by
 obtain⟨d,rfl⟩:∃ d,s=d+1:=⟨s-1,by omega⟩;obtain⟨h1,h2,h3,h4⟩:=h;have D:=wf_u8 h1;have E:(Lit.int .i64 (n.a:Int)).wf=true:=wf_i64 yo;have w3:(Lit.int .i64 n.b).wf=true:=wf_i64 yo;have c1:prog.cellsOf 5=1:=yk;have A:prog.cellsOf 3=1:=yk;have u1:prog.underlying 5=some (.int .u8):=yk;have u2:prog.underlying 3=some (.int .i64):=yk;simp[Program.keyLits,Value.cells,underlying419,zr9,c1,A,u1,u2,D,E,w3]
theorem zdx:zaw prog 419 ndV NdOk where
 keyed:=Keyed.of_law ndLaw
 reads:=fun n h=>by
  obtain⟨l,hl⟩:=ndKeys prog.types.size n h (yag yZ ndRow);have h2:prog.keyType 419=true:=yk;have h3:(ndV n).formed prog 419=true:=by simp[Value.formed,underlying419,zr9]
  exact⟨_,by unfold keyOf;rw[underlying419];simp only[h2,h3,Bool.and_true,if_true,hl,ybv];rfl⟩
 inj:=fun x y h=>by
  obtain⟨k,a,b⟩:=x;obtain⟨A,a',b'⟩:=y;simp only[ndV]at h;injection h with h;simp at h;obtain⟨h1,h2,h3⟩:=h;rw[show k=A by omega,show a=a' by omega,h3]
section
def ziq:Obj->Bool
 | .loop _=>true
 | .deferred _=>true
 | _=>false
structure Recs (B:Nat)(W W':World):Prop where
 os:W'.os=W.os
 tape:W'.tape=W.tape
 output:W'.output=W.output
 size:W.heap.size<=W'.heap.size
 low:∀ k,k<B->W'.heap[k]? = W.heap[k]?
 same:∀ (k:Nat) (o:Obj),W.heap[k]?=some o->ziq o=false->W'.heap[k]?=some o
structure zP (W W':World):Prop where
 size:W.heap.size<=W'.heap.size
 same:∀ (k:Nat) (o:Obj),W.heap[k]?=some o->ziq o=true->W'.heap[k]?=some o
theorem zP.refl (W:World):zP W W:=⟨yr _,fun _ _ h _=>h⟩
theorem zP.trans {a b c:World}(h:zP a b)(k:zP b c):zP a c:=⟨ya h.size k.size,fun i o hi ho=>k.same i o (h.same i o hi ho) ho⟩
theorem zP.drew {a b:World}(h:zP a b):zP a b.drew:=⟨h.size,h.same⟩
theorem zP.drewN {a b:World}(h:zP a b)(n:Nat):zP a (b.drewN n):=⟨h.size,h.same⟩
theorem zP.alloc {a b:World}(h:zP a b)(o:Obj):zP a (b.alloc o) :=
 ⟨ya h.size yy,fun i p hi A=>(yak b o i (yP.1 (h.same i p hi A)).1).trans (h.same i p hi A)⟩
theorem zP.qz {w w':World}(h:Below w.heap.size w w'):zP w w':=⟨h.size,fun k _ A _=>(h.block k (yP.1 A).1).trans A⟩
theorem zP.of_grown {w w':World}(h:w.grownBy w' row)(hr:∀ k o,row=some k->w.heap[k]?=some o->ziq o=false):zP w w' :=
 ⟨h.size,fun k o A ho=>(h.block k (yP.1 A).1 (fun e=>by rw[hr k o e.symm A]at ho;cases ho)).trans A⟩
theorem zP.setCell {a b:World}(h:zP a b)(hb:Blk b p.block t cs)(u:Value):zP a (b.setCell p u) :=
 ⟨ya h.size yy,fun i o hi ho=>by
  have h1:=h.same i o hi ho;refine(yt b p u i (fun e=>?_)).trans h1;subst e;rw[show b.heap[p.block]? = _ from hb]at h1;injection h1 with h1;subst h1;cases ho⟩
theorem Recs.putObj {B l:Nat}{o o':Obj}(hB:B<=l)(h:W.heap[l]?=some o)(ho:ziq o=true):Recs B W (W.putObj l o') :=
 ⟨rfl,rfl,rfl,by simp,fun k A=>ya5 yo,fun k p A hp=>(ya5 (fun e=>by subst e;rw[h]at A;injection A with A;subst A;rw[ho]at hp;cases hp)).trans A⟩
theorem Recs.alloc (W:World)(o:Obj){B:Nat}(hB:B<=W.heap.size):Recs B W (W.alloc o) :=
 ⟨rfl,rfl,rfl,by simp,fun k A=>yak W o k yo,fun k p A _=>(yak W o k (yP.1 A).1).trans A⟩
theorem Recs.trans {B:Nat}{a b c:World}(h:Recs B a b)(k:Recs B b c):Recs B a c :=
 ⟨k.os.trans h.os,k.tape.trans h.tape,k.output.trans h.output,ya h.size k.size,fun i hi=>(k.low i hi).trans (h.low i hi),fun i o hi ho=>k.same i o (h.same i o hi ho) ho⟩
theorem Recs.below {B:Nat}{w w':World}(h:Recs B w w'):Below B w w':=⟨h.os,h.tape,h.output,h.size,h.low⟩
theorem Recs.mono {B B':Nat}{w w':World}(h:Recs B w w')(hB:B'<=B):Recs B' w w':=⟨h.os,h.tape,h.output,h.size,fun k A=>h.low k yo,h.same⟩
section
variable {w w':World} {B:Nat}
theorem Blk.qo (hg:Blk w g t cs)(h:Recs B w w'):Blk w' g t cs:=h.same g _ hg rfl
theorem zkh {size:Nat}(hr:w.ownsRow B0 e size v n xs)(h:Recs B w w'):w'.ownsRow B0 e size v n xs:=by
 obtain⟨h1,h2⟩:=hr;refine⟨h1,?_⟩;rcases h2 with h2 | ⟨g,cap,A,hv,D,E,r⟩
 ·exact .inl h2
 ·exact .inr ⟨g,cap,A,hv,D,h.same g _ E rfl,r⟩
end
theorem row_rec {w:World}{size:Nat}(hr:w.ownsRow B0 e size v n xs){o:Obj}(A:v.ownBlock=some k)(ho:w.heap[k]?=some o):ziq o=false:=by
 rcases hr.2 with⟨rfl,_⟩ | ⟨g,cap,D,rfl,_,E,_⟩
 ·cases A
 ·injection A with A;subst A;rw[E]at ho;injection ho with ho;rw[<- ho];rfl
def SeqOf (n:Nat)(P:Program)(gf:FuncId)(first cap:Array Value)(xs:List Value):Prop :=
 ∀ (l:Nat) (J:Nat->World->Prop) (Jx:World->Prop) (W:World),
  (∀ i x W1,xs[i]?=some x->J i W1->YieldAt Fence.wide (n-1) P l #[x] W1 fun e W'=>(e=.r (.bool true)/\J (i+1) W')\/(e=.r (.bool false)/\Jx W')) ->
  J 0 W->CallsIn Fence.wide n P gf (first++#[.func (.yield l) #[] #[]]++cap) W fun e W'=>(∃ v,e=.r v)/\(J xs.length W'\/Jx W')
def overPost (I:World->Prop)(Ix:Code->World->Prop)(W:World):Exit->Act->World->Prop
 | .normal,_,W'=>zP W W'/\I W'
 | .ret,_,W'=>zP W W'/\Ix .ret W'
 | .exit id,_,W'=>zP W W'/\Ix (.exit id) W'
 | .goto t,_,W'=>zP W W'/\Ix (.goto t) W'
 | .panic _,_,_=>False
 | .outgrown,_,_=>False
theorem zkq {g:Operand}{ps:Array Tmp}{assign body:Code}{w:World}
  {gf:Nat} {first cap:Array Value} (hg:a.eval g=.func (.func gf) first cap) (eg:∀ args w,(callFunc gf args).run P w=.ok (.enter gf args) w)
   (hseq:SeqOf (n-1) P gf first cap xs) (hps:ps.size=1)
  (I:Nat->World->Prop) (Ix:Code->World->Prop) (hI:∀ i W G,Recs w.heap.size W G->I i W->I i G) (hIx:∀ c W G,Recs w.heap.size W G->Ix c W->Ix c G) (h0:I 0 w) (a₁ : Value->Act)
  (hassign:∀ (l:Nat) (x:Value) (W:World) (K:Act->World->Prop),K (a₁ x) W ->
   assign.wpIn (Fence.wide.inRound l) (n-1-1) P (Exit.then K (fun _ _ _=>False)) { tmps:=(ps.zip #[x]).foldl (fun t (p,v)=>t.setIfInBounds p v) a.tmps,defers:=[] } W)
  (hbody:∀ (l:Nat) (i:Nat) (x:Value) (W:World),xs[i]?=some x->I i W->w.heap.size<=W.heap.size->body.wpIn (Fence.wide.inRound l) (n-1-1) P (overPost (I (i+1)) Ix W) (a₁ x) W)
  (hdone:∀ (W:World),I xs.length W->W.heap[w.heap.size]?=some (.deferred (some []))->Q .normal { a with defers:={ target:=.collected w.heap.size,args:=#[] }::a.defers } W)
  (hstop:∀ (c:Code) (W:World),Ix c W->W.heap[w.heap.size]?=some (.deferred (some []))->c.wpIn Fence.wide n P Q { a with defers:={ target:=.collected w.heap.size,args:=#[] }::a.defers } W) :
  (Code.rangeFunc g ps assign body).wpIn Fence.wide n P Q a w:=by
 refine wpIn_rangeFunc ?_;intro fn a6;obtain⟨A,E⟩:∃ A:LoopState->Option Code->Loop,A=fun st pe=>{ state:=st,pending:=pe,fn,tmps:=a.tmps,params:=ps,assign,body,defers:=w.heap.size }:=⟨_,rfl⟩
 obtain⟨D,Z⟩:∃ D,D=w.heap.size:=⟨_,rfl⟩;obtain⟨J,R⟩:∃ J,(w.alloc (.deferred (some []))).alloc (.loop (A .ready none))=J:=⟨_,rfl⟩;have a5:Recs D w J:=by
  rw[<- R,Z];exact(Recs.alloc w _ yL).trans (Recs.alloc _ _ yy)
 have a4:J.heap[D+1]?=some (.loop (A .ready none)):=by
  rw[<- R,Z];have:=World.alloc_heap_new (w.alloc (.deferred (some []))) (.loop (A .ready none));rwa [ybq]at this
 have a2:J.heap[D]?=some (.deferred (some [])):=by
  rw[<- R,Z];exact(yak _ _ _ yy).trans (World.alloc_heap_new w _)
 rw[<- Z]at hI hIx hdone hstop;have hy:∀ i x W,xs[i]?=some x->(I i W/\W.heap[D+1]?=some (.loop (A .ready none))/\W.heap[D]?=some (.deferred (some []))) ->
   YieldAt Fence.wide (n-1-1) P (D+1) #[x] W fun e G =>
    (e=.r (.bool true)/\(I (i+1) G/\G.heap[D+1]?=some (.loop (A .ready none))/\G.heap[D]?=some (.deferred (some [])))) \/
    (e=.r (.bool false)/\∃ c,Ix c G/\G.heap[D+1]?=some (.loop (A .done (some c)))/\G.heap[D]?=some (.deferred (some []))):=by
  rintro i x W hx ⟨hi,hl,hk⟩;have a8:D+1<W.heap.size:=(yP.1 hl).1;have a1:=run_yield (P:=P) (args:=#[x]) hl (by rw[E];exact hps.symm);rw[E]at a1;refine⟨fn,_,assign,body,a1,roundIn_of_wpIn a6 (hassign _ x W _ ?_)⟩;refine⟨_,run_beginRound hl (by rw[E]),?_⟩;have S:(W.putObj (D+1) (.loop { A .ready none with state:=.busy })).heap[D+1]?=some (.loop { A .ready none with state:=.busy }):=World.putObj_heap_same a8;have a7:(W.putObj (D+1) (.loop { A .ready none with state:=.busy })).heap[D]?=some (.deferred (some [])):=(ya5 yo).trans hk;refine wpIn_mono (hbody _ i x _ hx (hI i W _ (.putObj yo hl rfl) hi) (by rw[World.putObj_size];omega)) ?_;have O:∀ (jump:Option Code) (N:World),zP (W.putObj (D+1) (.loop { A .ready none with state:=.busy })) N ->
    ∃ H,(Instr.endRound (D+1) jump).run P N=.ok (.bool jump.isNone) H/\Recs D N H/\H.heap[D+1]?=some (.loop (A (if jump.isNone then .ready else .done) jump))/\H.heap[D]?=some (.deferred (some [])):=fun jump N a0=>by
   have Y:=a0.same _ _ S rfl;refine⟨_,run_endRound (P:=P) jump Y,.putObj yo Y rfl,?_,(ya5 yo).trans (a0.same _ _ a7 rfl)⟩;rw[World.putObj_heap_same (yP.1 Y).1,E]
  rintro e a3 N L;cases e with
  | normal =>
   obtain⟨H,h1,h2,h3,h4⟩:=O none N L.1;exact⟨_,H,h1,.inl ⟨rfl,hI _ _ _ h2 L.2,h3,h4⟩⟩
  | ret =>
   obtain⟨H,h1,h2,h3,h4⟩:=O (some .ret) N L.1;exact⟨_,H,h1,.inr ⟨rfl,.ret,hIx _ _ _ h2 L.2,h3,h4⟩⟩
  | exit id =>
   obtain⟨H,h1,h2,h3,h4⟩:=O (some (.exit id)) N L.1;exact⟨_,H,h1,.inr ⟨rfl,.exit id,hIx _ _ _ h2 L.2,h3,h4⟩⟩
  | goto t =>
   obtain⟨H,h1,h2,h3,h4⟩:=O (some (.goto t)) N L.1;exact⟨_,H,h1,.inr ⟨rfl,.goto t,hIx _ _ _ h2 L.2,h3,h4⟩⟩
  | panic ch=>exact L.elim
  | outgrown=>exact L.elim
 have U:=hseq (D+1) (fun i W=>I i W/\W.heap[D+1]?=some (.loop (A .ready none))/\W.heap[D]?=some (.deferred (some [])))
  (fun W=>∃ c,Ix c W/\W.heap[D+1]?=some (.loop (A .done (some c)))/\W.heap[D]?=some (.deferred (some []))) J hy ⟨hI 0 w J a5 h0,a4,a2⟩
 refine⟨D+1,[{ target:=.collected D,args:=#[] }],J,{ target:=.fn (.func gf) cap,args:=first++#[.func (.yield (D+1)) #[] #[]] },J,gf,first++#[.func (.yield (D+1)) #[] #[]]++cap,J,?_,?_,?_,?_,(fun h=>by simp[Fence.wide]at h),?_⟩
 ·rw[<- R,E,Z];exact run_enterLoop_outer _ _ _ _ _
 ·simp only[resolve,hg];simp[go_sem]
 ·intro f' _;trivial
 ·simp[invoke,go_sem,eg]
 ·refine U.mono ?_;rintro e W2 ⟨⟨v,rfl⟩,(⟨hi,hl,hk⟩ | ⟨c,hi,hl,hk⟩)⟩
  ·refine⟨none,_,by have:=run_endLoop (P:=P) hl (by rw[E];simp);rw[E]at this;exact this,hdone _ (hI _ _ _ (.putObj yo hl rfl) hi) ((ya5 yo).trans hk)⟩
  ·refine⟨some c,_,by have:=run_endLoop (P:=P) hl (by rw[E];simp);rw[E]at this;exact this,hstop c _ (hIx _ _ _ (.putObj yo hl rfl) hi) ((ya5 yo).trans hk)⟩
def xk (B:Nat)(W:World)(ds:List Deferred):Prop:=(∀ d ∈ ds,∃ D,B<=D/\d={ target:=.collected D,args:=#[] }/\W.heap[D]?=some (.deferred (some [])))/\ds.Nodup
theorem xk.nil (B:Nat)(W:World):xk B W []:=⟨by simp,List.nodup_nil⟩
theorem xk.kept {B:Nat}(h:xk B W ds)(hk:zP W W'):xk B W' ds :=
 ⟨fun d A=>by obtain⟨D,h0,h1,h2⟩:=h.1 d A;exact⟨D,h0,h1,hk.same _ _ h2 rfl⟩,h.2⟩
theorem xk.low {B:Nat}(h:xk B W ds)(hz:W.heap.size<=N)(hk:∀ k,k<N->W'.heap[k]? = W.heap[k]?):xk B W' ds :=
 ⟨fun d A=>by obtain⟨D,h0,h1,h2⟩:=h.1 d A;exact⟨D,h0,h1,(hk D (yi (yP.1 h2).1 hz)).trans h2⟩,h.2⟩
theorem xk.cons {B:Nat}(h:xk B W ds)(hz:W.heap.size<=N)(hB:B<=N)(hk:∀ k,k<N->W'.heap[k]? = W.heap[k]?)(hN:W'.heap[N]?=some (.deferred (some []))) :
  xk B W' ({ target:=.collected N,args:=#[] }::ds):=by
 have h':=h.low hz hk;refine⟨fun d A=>?_,ya0.2 ⟨fun A=>?_,h.2⟩⟩
 ·rcases yW.1 A with rfl | A
  ·exact⟨N,hB,rfl,hN⟩
  ·exact h'.1 d A
 ·obtain⟨D,_,h1,h2⟩:=h.1 _ A;have:=(yP.1 h2).1;injection h1 with h1;injection h1 with h1;omega
theorem zhj {P:Program}{n:Nat}{fn:Func}{tmps:Array Value}{R:Ending->World->Prop}{B:Nat}(X:World->Prop)(hX:∀ W W',Recs B W W'->X W->X W')
  (hfin:∀ W,X W->LeavesIn Fence.wide n P fn tmps R [] .returning W):∀ (ds:List Deferred) (W:World),xk B W ds->X W->LeavesInM Fence.wide n P fn tmps R ds .returning W
 | [],W,_,h=>hfin W h
 | d::ds,W,hm,h=>by
  obtain⟨D,K,L,J⟩:=hm.1 d yy;subst L;refine⟨by simp,.inl ⟨D,_,rfl,run_takeDeferred J,zhj X hX hfin ds _ ⟨fun e I=>?_,(ya0.1 hm.2).2⟩ (hX _ _ (.putObj K J rfl) h)⟩⟩;obtain⟨E,G,A,H⟩:=hm.1 e (yad _ I);refine⟨E,G,A,(ya5 (fun h=>?_)).trans H⟩;subst h A;exact(ya0.1 hm.2).1 I
end
section
section
variable {P:Program} {Q Q':Exit->Act->World->Prop} {md:Region.Mode} {S:World->Prop}
theorem zur {o:Oper}{a:Act}{w:World}{K:Act->World->Prop}(h:∀ e a w,e≠.normal->Q e a w->Q' e a w)(hh:o.wp P a w K Q):o.wp P a w K Q':=by
 unfold Oper.wp at *;generalize (execOp a.eval o).run P w=r at *;cases r with
 | ok n w' =>
  cases n <;> simp only[Oper.upon]at hh |- <;>
   first
    | exact hh
    | exact Calls.mono hh (fun e D A=>by
      cases e with
      | returned v=>exact A
      | panicked c=>exact h _ _ _ yy A
      | outgrown=>exact let ⟨a,w,q⟩:=A;⟨a,w,h _ _ _ yy q⟩)
    | exact h _ _ _ yy hh
 | halt x w' =>
  cases x <;> simp only[Oper.upon]at hh |- <;>
   first
    | exact hh
    | exact h _ _ _ yy hh
def zbx (P:Program)(ops:Array Oper)(n:Nat)(Q:Exit->Act->World->Prop):Exit->Act->World->Prop
 | .normal,a,w=>wpOp P ops Q n (fun a w=>Q .normal a w) a w
 | e,a,w=>Q e a w
theorem zbx.exits {ops:Array Oper}{n:Nat}:∀ e a w,e≠.normal->zbx P ops n Q e a w->Q e a w:=fun e a w A h=>by
 cases e <;> first | exact h | exact absurd rfl A
theorem zbx.normal {ops:Array Oper}{n:Nat}{a:Act}{w:World}(h:wpOp P ops Q n (fun a w=>Q .normal a w) a w):zbx P ops n Q .normal a w:=h
def zjx (md:Region.Mode)(l:List Oper)(last:Oper):Bool :=
 Region.sinkB md (l++[last]).toArray l.length&&Region.chainB md (l++[last]).toArray l.length&&last.after.all (fun e=>!Region.binds md e||decide (e.on<l.length)) &&
 (List.range l.length).all (fun j=>match l[j]? with | some o=>o.guard.isNone&&o.after.all (fun e=>!Region.binds md e||decide (e.on<j)) | none=>true)
structure Both (n:Nat)(L L':Array Bool):Prop where
 s:L.size=n
 s':L'.size=n+1
 eq:∀ i,i<n->L'.getD i false=L.getD i false
 last:L'.getD n false=false
theorem Both.set {n:Nat}{L L':Array Bool}(h:Both n L L')(hi:i<n):Both n (L.setIfInBounds i true) (L'.setIfInBounds i true):=by
 refine⟨by simp[h.s],by simp[h.s'],fun j D=>?_,?_⟩
 ·by_cases A:i=j
  ·subst A;simp[h.s,h.s',hi,yb1 hi]
  ·rw[getD_set_ne false A,getD_set_ne false A];exact h.eq j D
 ·rw[getD_set_ne false yo];exact h.last
theorem zda {L:Array Bool}(hi:i<L.size):L.getD i true=L.getD i false:=by simp[hi]
theorem zj4 (hi:i<l.length):(l++[last]).toArray[i]? = l.toArray[i]? := by
 simp[yz hi]
theorem zrj :(l++[last]).toArray[l.length]?=some last:=by simp
theorem zum (hB:zjx md l last=true):∀ (f:Nat) (L D:Array Bool) (a:Act) (w:World),Both l.length L D->HeadInv md (l++[last]).toArray l.length D ->
  wpAnyH P md l.toArray (zbx P (l++[last]).toArray l.length Q) S f L a w->wpAny P md (l++[last]).toArray Q (f+1) D a w:=by
 unfold zjx at hB;simp only[yH]at hB;obtain⟨⟨⟨hw,hc⟩,W⟩,hl⟩:=hB;have hn:l.length<(l++[last]).toArray.size:=by simp
 have h0:∀ e ∈ last.after,Region.binds md e=true->e.on<l.length:=fun e I hb=>by
  have:=yb8.1 W e I;simpa [hb] using this
 have h2:∀ j o,l[j]?=some o->o.guard=none/\∀ e ∈ o.after,Region.binds md e=true->e.on<j:=fun j o ho=>by
  have hj:j<l.length:=(yh.1 ho).1;have:=yaj.1 hl j (yaf.2 hj);rw[ho]at this;simp only[yH]at this;refine⟨by simpa using this.1,fun e I hb=>?_⟩;have h3:=yb8.1 this.2 e I;simpa [hb] using h3
 have Y:∀ {L D:Array Bool} {i:Nat},Both l.length L D->i<l.length->(i ∈ Region.ready md l.toArray L↔i ∈ Region.ready md (l++[last]).toArray D):=fun {L D i} hb hi=>by
  rw[mem_ready,mem_ready,zj4 hi,zda (by rw[hb.s];exact hi),zda (by rw[hb.s'];omega),hb.eq i hi];refine and_congr_right fun _=>exists_congr fun o=>and_congr_right fun ho=>forall_congr' fun e=>forall_congr' fun I=>forall_congr' fun J=>?_;have:=(h2 i o (by simpa using ho)).2 e I J;rw[hb.eq e.on yo]
 have a0:∀ {L:Array Bool},L.size=l.length->Region.ready md l.toArray L=[]->∀ i,i<l.length->L.getD i false=true:=fun {L} hs O i=>by
  induction i using Nat.strongRecOn with
  | _ i ih =>
   intro hi;cases hc:L.getD i false with
   | true=>rfl
   | false =>
    exfalso;have:i ∈ Region.ready md l.toArray L:=mem_ready.2 ⟨by rw[zda yo];exact hc,l[i],by simp[hi],fun e I hb=>by
     have:=(h2 i l[i] (yc hi)).2 e I hb;exact ih _ this yo⟩
    rw[O]at this;cases this
 have a2:∀ {L D:Array Bool},Both l.length L D->(∀ i,i<l.length->L.getD i false=true)->l.length ∈ Region.ready md (l++[last]).toArray D:=fun {L D} hb ha =>
  mem_ready.2 ⟨by rw[zda (by rw[hb.s'];omega)];exact hb.last,last,zrj,fun e I J=>by rw[hb.eq _ (h0 e I J)];exact ha _ (h0 e I J)⟩
 have K:∀ {D:Array Bool} {i:Nat},i ∈ Region.ready md (l++[last]).toArray D->i<=l.length:=fun {D i} hi=>by
  obtain⟨_,o,ho,_⟩:=mem_ready.1 hi;have:=(yP.1 ho).1;simp at this;omega
 have N:∀ {L D:Array Bool} {a:Act} {w:World} (g:Nat),Both l.length L D->Region.ready md l.toArray L=[]->zbx P (l++[last]).toArray l.length Q .normal a w->wpAny P md (l++[last]).toArray Q (g+1) D a w:=fun {L D a w} g hb O hq=>by
  have ha:=a0 hb.s O;have hn:=a2 hb ha;refine⟨fun h=>(by rw[h]at hn;cases hn),fun i hi=>?_⟩;have E:i=l.length:=by
   rcases yF i l.length with h | h
   ·have:=(Y hb h).2 hi;rw[O]at this;cases this
   ·have:=K hi;omega
  subst E;have H:Region.ready md (l++[last]).toArray (D.setIfInBounds l.length true)=[]:=by
   refine List.eq_nil_iff_forall_not_mem.2 fun j hj=>?_;have a5:=K hj;obtain⟨U,_⟩:=mem_ready.1 hj;by_cases Z:l.length=j
   ·subst Z;simp[hb.s']at U
   ·rw[getD_set_ne true Z,zda (by rw[hb.s'];omega),hb.eq j yo,ha j yo]at U;cases U
  refine wpOp_mono (fun a' w' q=>?_) hq;cases g with
  | zero=>exact⟨H,q⟩
  | succ g=>exact⟨fun _=>q,by rw[H];intro i hi;cases hi⟩
 intro f
 induction f with
 | zero =>
  intro L D a w hb _ h;exact N 0 hb h.1 h.2
 | succ f ih =>
  intro L D a w hb inv h;by_cases O:Region.ready md l.toArray L=[]
  ·exact N (f+1) hb O (h.1 O)
  ·obtain⟨i0,R⟩:=List.exists_mem_of_ne_nil _ O;have G:i0<l.length:=by
    obtain⟨_,o,ho,_⟩:=mem_ready.1 R;simpa using (yP.1 ho).1
   refine⟨fun hn=>?_,fun i hi=>?_⟩
   ·have:=(Y hb G).1 R;rw[hn]at this;cases this
   ·have E:i<l.length:=by
     rcases yF i l.length with h' | h'
     ·exact h'
     ·exfalso;obtain⟨h4,_⟩:=mem_ready.1 R;rw[zda (by rw[hb.s];exact G)]at h4;exact tail_waits hw hc hn inv _ i0 rfl G (by rw[zda (by rw[hb.s'];omega),hb.eq i0 G,h4]) i h' hi
    have A:=h.2 i ((Y hb E).2 hi);unfold wpOp at A |-;rw[zj4 E];obtain⟨o,ho⟩:∃ o,l[i]?=some o:=⟨_,yc E⟩;have a3:l.toArray[i]?=some o:=by simpa using ho
    rw[a3]at A |-;simp only at A |-;have hg:=(h2 i o ho).1;have a4:∀ y,Region.wanted o y=true:=fun y=>by simp[Region.wanted,hg]
    rw[yj (a4 _)]at A |-;rcases A with A | ⟨h5,h6⟩
    ·exact .inl (Oper.wp_mono (fun a' w' q=>ih _ _ a' w' (hb.set E) (inv.set hi E) q.2) (zur zbx.exits A))
    ·obtain⟨a1,w1,q⟩:=h6;exact .inr ⟨h5,a1,w1,q⟩
theorem z1n {id:Nat}{a:Act}{w:World}(S:World->Prop)(hm:P.follows .mixedOrders=true)(hB:zjx .any l last=true)
  (h:wpAnyH P .any l.toArray (zbx P (l++[last]).toArray l.length Q) S l.length (Array.replicate l.length false) a w.drew):(Code.region id (l++[last]).toArray true).wp P Q a w:=by
 refine wp_region_any hm ?_;have A:(l++[last]).toArray.size=l.length+1:=by simp
 rw[A];exact zum hB _ _ _ a w.drew ⟨by simp,by simp,fun i hi=>by simp[hi,yb1 hi],by simp⟩
  ⟨by simp,fun j D _ hl=>(by rw[getD_replicate_false]at hl;cases hl),fun t _ ht=>getD_in (by simpa using ht) (getD_replicate_false _ _)⟩ h
theorem zh2 {id:Nat}{a:Act}{w:World}(n:Nat)(S:World->Prop)(hm:P.follows .mixedOrders=true)(hn:l.length=n+1)(hlast:l[n]?=some last)(hB:zjx .any (l.take n) last=true)
  (h:wpAnyH P .any (l.take n).toArray (zbx P l.toArray n Q) S n (Array.replicate n false) a w.drew):(Code.region id l.toArray true).wp P Q a w:=by
 have hl:l=l.take n++[last]:=by
  have h1:=List.take_append_drop n l;rw[yay yo]at h1;have h2:l[n]=last:=by
   have:=yc (l:=l) (i:=n) yo;rw[this]at hlast;injection hlast
  rw[h2,ybg yo]at h1;exact h1.symm
 have A:(l.take n).length=n:=by rw[yah];omega
 have key:=z1n (Q:=Q) (id:=id) (a:=a) (w:=w) S hm hB (by rw[A,<- hl];exact h);rw[<- hl]at key;exact key
end
section
variable {P:Program} {md:Region.Mode} {ops ops':Array Oper} {Q:Exit->Act->World->Prop} {S:World->Prop} {fuel n:Nat} {listed:Array Bool} {a:Act} {w:World} {o:Oper}
theorem lst (ho:ops'[n]?=some o)(h:∀ K':Act->World->Prop,(∀ a w,Q .normal a w->K' a w)->if Region.wanted o (yielded ops' a.tmps)=true then Oper.wp P o a w K' Q else K' (a.put o.dst undef) w)(hr:Region.ready md ops listed=[]:=by kernel_rfl) :
  wpAnyH P md ops (zbx P ops' n Q) S fuel listed a w:=wpAnyH_done hr (zbx.normal (wpOp_step ho h)) _
theorem rdy (i:Nat)(ho:ops[i]?=some o)
  (h:∀ K':Act->World->Prop,Shut (∀ a w,S w->(S w->wpAnyH P md ops Q S fuel (listed.setIfInBounds i true) a w)->K' a w)->if Region.wanted o (yielded ops a.tmps)=true then Oper.wp P o a w K' Q else K' (a.put o.dst undef) w) (hr:Region.ready md ops listed=[i]:=by kernel_rfl) :
  wpAnyH P md ops Q S (fuel+1) listed a w:=wpAnyH_ready hr yy (AllReadyH.cons ho h AllReadyH.nil)
end
end
abbrev zA (s:Nat):Value:=.int .u64 (s:Int)
theorem zfj (a b:Nat)(ha:a<2 ^ 48)(hb:b<2 ^ 48):bits .or .u64 (a:Int) (b:Int)=((a|||b:Nat):Int):=by
 have h2:a|||b<2 ^ 48:=yJ ha hb;show IntKind.u64.wrap (((BitVec.ofInt 64 (a:Int))|||(BitVec.ofInt 64 (b:Int))).toNat:Int)=_;rw[BitVec.ofInt_natCast,BitVec.ofInt_natCast,BitVec.toNat_or,BitVec.toNat_ofNat,BitVec.toNat_ofNat,yc6 yo,yc6 yo];exact IntWalk.u64_in _ yo
theorem ziy (a b:Nat)(ha:a<2 ^ 48)(hb:b<2 ^ 48):bits .and .u64 (a:Int) (b:Int)=((a&&&b:Nat):Int):=by
 have h2:a&&&b<2 ^ 48:=Nat.and_lt_two_pow _ hb;show IntKind.u64.wrap (((BitVec.ofInt 64 (a:Int))&&&(BitVec.ofInt 64 (b:Int))).toNat:Int)=_;rw[BitVec.ofInt_natCast,BitVec.ofInt_natCast,BitVec.toNat_and,BitVec.toNat_ofNat,BitVec.toNat_ofNat,yc6 yo,yc6 yo];exact IntWalk.u64_in _ yo
theorem zt6 (a k:Nat):(a:Int) / 2 ^ k=((a >>> k:Nat):Int):=by
 rw[ybj];push_cast;rfl
theorem zph (a:Nat):a&&&1=a % 2:=Nat.and_one_is_mod a
theorem bit_eq (s k:Nat):((((s >>> k)&&&1:Nat):Int)==1)=s.testBit k:=by
 rw[Nat.testBit_eq_decide_div_mod_eq,zph,ybj,yS,beq_iff_eq,decide_eq_true_iff];omega
theorem zkm (s k:Nat)(w:World)(hs:s<2 ^ 48)(hk:k<48) :
  Calls prog 289 #[zA s,.i k] w fun e w'=>e=.r (.bool (s.testBit k))/\w=w':=by
 have h1:=zt6 s k;have A:s >>> k<2 ^ 48:=yag (by rw[ybj];exact Nat.div_le_self _ _) hs;have h3:bits .and .u64 ((s:Int) >>> k) 1=(((s >>> k)&&&1:Nat):Int):=ziy (s >>> k) 1 A yo;have h4:=zH (show(((s:Int) >>> k) % 2==1)=s.testBit k by rw[<- bit_eq s k,zph];rfl);clear A;go_enter func289,ntmps289;go_wp2;go_ret;exact⟨zce h4.o,rfl⟩
theorem zp1 (a b:Nat):((a:Int) != (b:Int))=(a != b):=by
 rw[yS];simp;omega
theorem zg0 (s t:Nat)(a:Addr)(w:World)(hs:s<2 ^ 48)(ht:t<2 ^ 48)(hc:w.cell? a=some (zA s))(hf:w.frozen? a=false) :
  Calls prog 277 #[.pointer (some a),zA t] w fun e w'=>e=.r (.bool ((s|||t) != s))/\w.setCell a (zA (s|||t))=w':=by
 have h1:=zfj s t hs ht;have h2:=zH (zp1 (s|||t) s);go_enter func277,ntmps277;go_wp2;go_ret;exact⟨zce h2.o,rfl⟩
theorem z0i (s t:Nat)(a:Addr)(w:World)(hs:s<2 ^ 48)(ht:t<2 ^ 48)(hc:w.cell? a=some (zA s))(hf:w.frozen? a=false) :
  Calls prog 284 #[.pointer (some a),zA t] w fun e w'=>e=.r (.bool ((s&&&t) != s))/\w.setCell a (zA (s&&&t))=w':=by
 have h1:=ziy s t hs ht;have h2:=zH (zp1 (s&&&t) s);go_enter func284,ntmps284;go_wp2;go_ret;exact⟨zce h2.o,rfl⟩
theorem zto (n:Nat)(w:World)(hn:n<=40) :
  Calls prog 228 #[.i n] w fun e w'=>e=.r (zA (2 ^ n-1))/\w=w':=by
 have A:2 ^ n<=2 ^ 40:=yO yo hn;have h1:1<=2 ^ n:=Nat.one_le_two_pow;have h2:IntKind.u64.wrap ((2:Int) ^ n)=(2:Int) ^ n:=by
  rw[show((2:Int) ^ n)=((2 ^ n:Nat):Int) by push_cast;rfl];exact IntWalk.u64_in _ yo
 have h3:IntKind.u64.wrap ((2:Int) ^ n-1)=(2:Int) ^ n-1:=by
  rw[show((2:Int) ^ n)=((2 ^ n:Nat):Int) by push_cast;rfl];exact IntWalk.u64_in _ yo
 have h4:=zH (show(2:Int) ^ n-1=((2 ^ n-1:Nat):Int) by rw[show((2:Int) ^ n)=((2 ^ n:Nat):Int) by push_cast;rfl];omega);clear A h1;go_enter func228,ntmps228;go_wp2;go_ret;exact⟨zs6 h4.o,rfl⟩
theorem zf9 (k g c:Nat)(w:World)(hk:k<40)(hc:w.cell? (.a g 0)=some (.i k)) :
  Calls prog 275 #[.s g 1 c] w fun e w'=>e=.r (zA (2 ^ k))/\w=w':=by
 have A:2 ^ k<=2 ^ 40:=yO yo yo;have h1:1<=2 ^ k:=Nat.one_le_two_pow;have h2:IntKind.u64.wrap ((2:Int) ^ k)=(2:Int) ^ k:=by
  rw[show((2:Int) ^ k)=((2 ^ k:Nat):Int) by push_cast;rfl];exact IntWalk.u64_in _ yo
 have h3:bits .or .u64 0 ((2:Int) ^ k)=(2:Int) ^ k:=by
  have:=zfj 0 (2 ^ k) yo yo;rw[Nat.zero_or]at this;rw[show((2:Int) ^ k)=((2 ^ k:Nat):Int) by push_cast;rfl];exact this
 clear A h1;go_enter func275,ntmps275;go_wp2_with fail;go_loopg [3,8] 2 (fun g s i wr=>∃ j:Nat,g=2-j/\i=.i j/\j<=1/\s=zA (if j=0 then 0 else 2 ^ k)/\wr=w)
 case atStart=>exact⟨0,rfl,rfl,by omega,rfl,rfl⟩
 case round =>
  obtain⟨j,D,rfl,E,rfl,rfl⟩:=hrel;rcases(by omega:j=0\/j=1)with rfl | rfl
  ·go_wp2;go_roundg 1
   case measure=>omega
   case rel=>exact⟨1,rfl,rfl,yr _,by show Value.int .u64 _=.int .u64 _;push_cast;rfl,rfl⟩
  ·go_wp2;go_ret;exact⟨rfl,rfl⟩
section
structure zj (P:Program)(t e:TypeId)(size bytes:Nat):Prop where
 ut:P.underlying t=some (.slice e)
 info:∃ i z,P.info? e=some i/\i.zero=some z/\i.size=size/\i.bytes=bytes/\z.cells.size=size
 pos:0<size
 small:bytes<=1000
theorem zj.mk' {e:TypeId}{size:Nat}(ut:P.underlying t=some (.slice e))(h:(P.info? e).map (fun i=>(i.zero,i.size,i.bytes))=some (some z,size,bytes))
  (hz:z.cells.size=size) (pos:0<size) (small:bytes<=1000):zj P t e size bytes:=by
 obtain⟨G,hi,A,D,E⟩:=info_parts h;exact⟨ut,⟨G,z,hi,A,D,E,hz⟩,pos,small⟩
theorem zsa {w:World}{e:TypeId}(h:Blk w g e cs):∀ j u,cs.toList[j]?=some u->w.cell? ((⟨g,0,none⟩:Addr).add j)=some u:=fun j u hu=>by
 have:((⟨g,0,none⟩:Addr).add j)=⟨g,j,none⟩:=by
  unfold Addr.add;split
  ·rename_i A;subst A;rfl
  ·simp
 rw[this,h.cell];simpa using hu
theorem ze2 {e:TypeId}{size:Nat}(T:zj P t e size bytes){w:World}{rest:List Oper}
  (hgd:o.guard=none) (s x:Operand) (ho:o.op=.call { callee:=.builtin .append,args:=#[s,x],argTypes:=#[t,t] })
  (B:Nat) (v:Value) (n:Nat) (xs:List Value) (g0 c:Nat) (cs:Array Value)
  (hown:w.ownsRow B e size v n xs) (hb:Blk w g0 e cs) (hs:a.eval s=v) (hx:a.eval x=.s g0 1 c)
  (hsz:cs.size=size) (h1:∀ u ∈ cs.toList,u.oneCell'=true) (hn:n<1000000) (hB:B<=w.heap.size)
  (h:∀ g cap w',w'.ownsRow B e size (.s g (n+1) cap) (n+1) (xs++cs.toList)->w.grownBy w' v.ownBlock->(v.ownBlock=some g\/g=w.heap.size)->wpList P ops Q rest (a.put o.dst (.s g (n+1) cap)) w') :
  wpList P ops Q (o::rest) a w:=by
 obtain⟨i,z,hi,H,A,D,E⟩:=T.info;have G:(n+1)*bytes<=1000000*1000:=ycq yo T.small;refine wpList_append_lies w hgd s x t ho B e i z size bytes T.ut hi H A D E T.pos v n xs hs hown ⟨g0,0,none⟩ 1 c cs.toList hx (by simp[hsz]) (zsa hb) h1 yo (by unfold maxLen;omega) yo hB w.heap.size rfl ?_;intro g cap w' h2 h3 h4 _;exact h g cap w' h2 h3 h4
theorem zan {e:TypeId}{size:Nat}(T:zj P t e size bytes){w:World}{K:Act->World->Prop}{E:Prop}
  (hgd:o.guard=none) (s x:Operand) (ho:o.op=.call { callee:=.builtin .append,args:=#[s,x],argTypes:=#[t,t] })
  (B:Nat) (v:Value) (n:Nat) (xs:List Value) (g0 c:Nat) (cs:Array Value)
  (hown:w.ownsRow B e size v n xs) (hb:Blk w g0 e cs) (hs:a.eval s=v) (hx:a.eval x=.s g0 1 c)
  (hsz:cs.size=size) (h1:∀ u ∈ cs.toList,u.oneCell'=true) (hn:n<1000000) (hB:B<=w.heap.size)
  (h:∀ g cap w',w'.ownsRow B e size (.s g (n+1) cap) (n+1) (xs++cs.toList)->w.grownBy w' v.ownBlock->(v.ownBlock=some g\/g=w.heap.size)->K (a.put o.dst (.s g (n+1) cap)) w') :
  if Region.wanted o (yielded ops a.tmps)=true then Oper.wp P o a w K Q else E:=by
 obtain⟨i,z,hi,I,A,D,G⟩:=T.info;have H:(n+1)*bytes<=1000000*1000:=ycq yo T.small;refine step_append_lies w hgd s x t ho B e i z size bytes T.ut hi I A D G T.pos v n xs hs hown ⟨g0,0,none⟩ 1 c cs.toList hx (by simp[hsz]) (zsa hb) h1 yo (by unfold maxLen;omega) yo hB w.heap.size rfl ?_;intro g cap w' h2 h3 h4 _;exact h g cap w' h2 h3 h4
section
variable {w w':World} {B:Nat} {e:TypeId} {size:Nat} {v:Value} {n:Nat} {xs:List Value}
theorem zz0 (h:w.ownsRow B e size v n xs)(k:Nat):(w.drewN k).ownsRow B e size v n xs:=h
theorem zi (h:w.ownsRow B e size v n xs):w.drew.ownsRow B e size v n xs:=h
theorem zL (h:w.ownsRow B e size v n xs)(hg:Blk w g t cs)(hne:e≠t)(i:Nat)(u:Value):(w.setCell (.a g i) u).ownsRow B e size v n xs:=by
 refine ownsRow_setCell_other h ?_ u;rcases h.2 with⟨rfl,_⟩ | ⟨D,cap,A,rfl,_,G,_⟩
 ·simp[Value.ownBlock]
 ·intro E;have:D=g:=by simpa [Value.ownBlock] using E
  subst this;exact hne (Blk.inj (cs:=A) G hg).1
theorem Chg.append {bs:List Nat}{w0:World}(hc:Chg B0 ts bs w0 w)(hown:w.ownsRow B e size v n xs)(hg:w.grownBy w' v.ownBlock)(hB:B0<=B)
  (A:e ∈ ts\/w0.heap.size<=B):Chg B0 ts bs w0 w':=by
 refine hc.grown hg fun k E=>?_;have h1:=(hown.lt k E).1;rcases A with A | A
 ·right;refine⟨ya hB h1,.inr ?_⟩;rcases hown.2 with⟨rfl,_⟩ | ⟨G,cap,D,rfl,_,H,_⟩
  ·simp[Value.ownBlock]at E
  ·have:G=k:=by simpa [Value.ownBlock] using E
   subst this;exact⟨e,D,H,A⟩
 ·left;omega
theorem Blk.append (hg:Blk w g t cs)(hown:w.ownsRow B e size v n xs)(h:w.grownBy w' v.ownBlock)(hne:e≠t):Blk w' g t cs:=by
 refine hg.grown h fun D=>?_;rcases hown.2 with⟨rfl,_⟩ | ⟨E,cap,A,rfl,_,G,_⟩
 ·simp[Value.ownBlock]at D
 ·have:g=E:=by simpa [Value.ownBlock] using D
  subst this;exact hne (Blk.inj (cs:=A) G hg).1
end
theorem zbn {w w':World}{B:Nat}{e:TypeId}{size:Nat}{v:Value}{n:Nat}{xs:List Value}(h:w.ownsRow B e size v n xs)(hb:Below N w w')(hk:∀ k,v.ownBlock=some k->k<N):w'.ownsRow B e size v n xs:=by
 obtain⟨h1,h2⟩:=h;refine⟨h1,?_⟩;rcases h2 with h2 | ⟨g,cap,A,hv,D,E,r⟩
 ·exact .inl h2
 ·subst hv;exact .inr ⟨g,cap,A,rfl,D,(hb.block g (hk g rfl)).trans E,r⟩
theorem zp9 {B:Nat}{bs:List Nat}{w w2:World}(h:Chg B ts bs w w1)(hb:Below N w1 w2)(hN:w.heap.size<=N):Chg B ts bs w w2 :=
 ⟨hb.os.trans h.os,hb.tape.trans h.tape,hb.output.trans h.output,ya h.size hb.size,fun i o hi A=>by
  have h1:=h.block i o hi A;rw[hb.block i (yi (lt_of_block hi) hN)];exact h1⟩
end
abbrev zdb:Nat->Value:=fun n=>Value.int .i64 (n:Int)
theorem natKey {k:TypeId}(hk:P.underlying k=some (.int .i64)):zaw P k zdb (fun n=>n<1000000) where
 keyed:=int_keyed hk
 reads:=fun n hn=>⟨.i n,keyOf_int_mk hk (WalkArith.wf_i64 yo)⟩
 inj:=fun x y h=>by injection h with _ h;omega
abbrev IM (w:World)(b:Nat)(m:List (Nat×Nat)):Prop:=zG w b zdb (fun n=>n<1000000) zdb m
theorem ikey:zaw prog 3 zdb (fun n=>n<1000000):=natKey underlying3
structure Mk (w:World)(b:Nat)(S:Nat->Bool)(m:List (Nat×Nat)):Prop where
 is:IM w b m
 one:∀ p ∈ m,p.2=1
 has:∀ k,(mget m k).isSome=S k
theorem Mk.get (h:Mk w b S m)(k:Nat):mget m k=if S k then some 1 else none:=by
 have:=h.has k;cases hg:mget m k with
 | none=>rw[hg]at this;rw[<- this];rfl
 | some u=>rw[hg]at this;have h1:=h.one _ (zdd hg);simp only at h1;rw[<- this,h1];rfl
theorem zye (h:Mk w b S m)(hk:k<1000000) :
  (Instr.lookup 310 (.m b) (.i k) false).run prog w=.ok (.i (if S k then 1 else 0)) w:=by
 have:=h.is.lookup (t:=310) (e:=3) ikey underlying310 (z:=.i 0) (zeroValue3 w) hk false;rw[this,h.get];cases S k <;> rfl
theorem zrb (w:World)(b k:Nat)(S:Nat->Bool)(m:List (Nat×Nat))(h:Mk w b S m)(hk:k<1000000) :
  Calls prog 154 #[.m b,.i k] w fun e w'=>e=.r (.bool (S k))/\w=w':=by
 have hl:=zye h hk;clear h;cases hS:S k
 all_goals
  rw[hS]at hl;clear hS;simp only[yI,if_true,if_false]at hl;go_enter func154,ntmps154;go_wp2;go_ret;exact⟨rfl,rfl⟩
theorem zZ {size:Nat}(h:w.ownsRow B e size v n ys):∃ b c,v=.slice b n c:=by
 rcases h.2 with⟨rfl,rfl⟩ | ⟨g,cap,_,rfl,_⟩
 ·exact⟨none,0,rfl⟩
 ·exact⟨_,cap,rfl⟩
theorem zuo {size:Nat}(T:zj P t e size bytes){rest:List Oper}
  (hgd:o.guard=none) (s x:Operand) (ho:o.op=.call { callee:=.builtin .append,args:=#[s,x],argTypes:=#[t,t] })
  (B B2:Nat) (v v2:Value) (n m:Nat) (xs ys:List Value) (hs:a.eval s=v) (hx:a.eval x=v2)
  (hown:w.ownsRow B e size v n xs) (hsrc:w.ownsRow B2 e size v2 m ys) (h0:m=0->v2=.z)
  (h1:∀ u ∈ ys,u.oneCell'=true) (hn:n+m<1000000) (hB:B<=w.heap.size)
  (h:∀ b c w',w'.ownsRow B e size (.slice b (n+m) c) (n+m) (xs++ys)->w.grownBy w' v.ownBlock->wpList P ops Q rest (a.put o.dst (.slice b (n+m) c)) w') :
  wpList P ops Q (o::rest) a w:=by
 obtain⟨i,z,hi,K,A,D,E⟩:=T.info;rcases Nat.eq_zero_or_pos m with hm | hm
 ·have G:=h0 hm;subst hm;have H:ys=[]:=by have:=hsrc.1;simpa using this
  subst H;obtain⟨b,c,rfl⟩:=zZ hown;rw[G]at hx;refine wpList_append_own_none hgd s x t ho B e i size T.ut hi _ n xs hs hown hx ?_;exact h b c w (by simpa using hown) (ycp _ _)
 ·obtain⟨g,cap,hv,hb,hl⟩:=hsrc.form hm;have J:(n+m)*bytes<=1000000*1000:=ycq yo T.small;subst hv;refine wpList_append_lies w hgd s x t ho B e i z size bytes T.ut hi K A D E T.pos v n xs hs hown ⟨g,0,none⟩ m cap ys hx hsrc.1 (hsrc.cells rfl) h1 hm (by unfold maxLen;omega) yo hB w.heap.size rfl ?_;intro L I w' h2 h3 _ _;exact h _ _ w' h2 h3
theorem zhx:zj prog 67 3 1 8:=zj.mk' underlying67 (z:=.i 0) yk rfl yd yd
abbrev ints (l:List Nat):List Value:=l.map zdb
theorem zrd (l:List Nat):∀ u ∈ ints l,u.oneCell'=true:=fun u hu=>by obtain⟨n,_,rfl⟩:=yae.1 hu;rfl
theorem IM.nodup (h:IM w b m):(m.map Prod.fst).Nodup:=by obtain⟨_,_,_,_,h,_⟩:=h;exact h
theorem row_pop {b:Option Addr}{c:Nat}{l:List Nat}(h:w.ownsRow B e 1 (.slice b (l.length+1) c) (l.length+1) (ints (l++[x]))):w.ownsRow B e 1 (.slice b l.length c) l.length (ints l):=by
 obtain⟨h1,h2⟩:=h;refine⟨by simp,?_⟩;rcases h2 with⟨h2,h3⟩ | ⟨g,cap,A,hv,H,I,hn,G,K,ht⟩
 ·omega
 ·injection hv with D J E;subst D E;refine .inr ⟨g,c,A,rfl,H,I,by omega,G,K,?_⟩;have:=congrArg (List.take l.length) ht;rw[List.take_take]at this;simp at this;rw[yci,this]
theorem xx {size:Nat}(h:w.ownsRow B e size v n xs)(hk:∀ k,v.ownBlock=some k->w1.heap[k]? = w.heap[k]?):w1.ownsRow B e size v n xs:=by
 obtain⟨h1,h2⟩:=h;refine⟨h1,?_⟩;rcases h2 with h2 | ⟨g,cap,A,hv,D,E,r⟩
 ·exact .inl h2
 ·subst hv;exact .inr ⟨g,cap,A,rfl,D,(hk g rfl).trans E,r⟩
inductive xq (next:Nat->List Nat)(start:List Nat):Nat->Prop
 | start {k:Nat}:k ∈ start->xq next start k
 | step {k j:Nat}:xq next start k->j ∈ next k->xq next start j
def zad (W:World)(l:List Nat)(e:Ending)(W':World):Prop :=
 ∃ v,e=.r v/\W'.ownsRow W.heap.size 3 1 v l.length (ints l)/\(l.length=0->v=.z)/\Below W.heap.size W W'
def zg5 (w:World)(next:Nat->List Nat)(start:List Nat)(e:Ending)(w':World):Prop :=
 ∃ mb S m,e=.r (.m mb)/\w.heap.size<=mb/\Mk w' mb S m/\(∀ k,S k=true↔xq next start k)/\Below w.heap.size w w'
structure zkt (w:World)(next:Nat->List Nat)(start:List Nat)(N D:Nat)(mb:Nat)(g:Nat)(v:Value)(W:World)(l:List Nat)(S:Nat->Bool)(m:List (Nat×Nat)):Prop where
 row:W.ownsRow w.heap.size 3 1 v l.length (ints l)
 mks:Mk W mb S m
 qk:Below w.heap.size w W
 lr:∀ k ∈ l,xq next start k
 mr:∀ k,S k=true->xq next start k
 st:∀ k ∈ start,k ∈ l\/S k=true
 cl:∀ k,S k=true->∀ j ∈ next k,j ∈ l\/S j=true
 len:l.length<=start.length+m.length*D
 g:g=(N-m.length)*(D+1)+l.length
 nd:m.length<=N
 hmb:w.heap.size<=mb
def zks (w:World)(next:Nat->List Nat)(start:List Nat)(N D:Nat)(mb:Nat)(g:Nat)(v:Value)(W:World):Prop:=∃ l S m,zkt w next start N D mb g v W l S m
theorem Mk.qa {w':World}(h:Mk w b S m)(hb:w'.heap[b]? = w.heap[b]?):Mk w' b S m:=⟨h.is.qa hb,h.one,h.has⟩
theorem Mk.lt (h:Mk w b S m):b<w.heap.size:=h.is.lt
theorem ztg {size:Nat}(h:w.ownsRow B e size v n ys)(hm:Mk w b S m):v.ownBlock≠some b:=by
 intro e;rcases h.2 with⟨rfl,_⟩ | ⟨g,cap,A,rfl,_,D,_⟩
 ·cases e
 ·injection e with e;subst e;exact hm.is.qf (g:=g) D rfl
theorem zlm (w:World):Mk (w.alloc (.map #[] 0)) w.heap.size (fun _=>false) []:=⟨zG.made _ _ _ _,by simp,fun _=>rfl⟩
theorem zxl {next:Nat->List Nat}(hrow:w1.ownsRow w.heap.size 3 1 v start.length (ints start))(hg:(w.alloc (.map #[] 0)).grownBy w1 none) :
  zks w next start N D w.heap.size (N*(D+1)+start.length) v w1 :=
 ⟨start,fun _=>false,[],hrow,(zlm w).qa (hg.block _ yy yy),((yn _ w).alloc yL _).grown hg yy yy,fun k hk=>.start hk,by simp,fun k hk=>.inl hk,by simp,by simp,by simp,yD _,yr _⟩
theorem zxk {next:Nat->List Nat}{l:List Nat}{v':Value}(R:zkt w next start N D mb g v W (l++[x]) S m)(hp:W.ownsRow w.heap.size 3 1 v' l.length (ints l))(hS:S x=true) :
  zks w next start N D mb ((N-m.length)*(D+1)+l.length) v' W :=
 ⟨l,S,m,hp,R.mks,R.qk,fun k A=>R.lr k (by simp[A]),R.mr,fun k A=>(R.st k A).elim (fun h=>by
  rcases yu.1 h with h | h
  ·exact .inl h
  ·rw[yG.1 h];exact .inr hS) .inr,fun k A j E=>(R.cl k A j E).elim (fun h=>by
  rcases yu.1 h with h | h
  ·exact .inl h
  ·rw[yG.1 h];exact .inr hS) .inr,by have:=R.len;simp at this;omega,rfl,R.nd,R.hmb⟩
theorem zq1 {next:Nat->List Nat}{l:List Nat}(R:zkt w next start N D mb g v W (l++[x]) S m)(hS:S x=false)(hx:x<N)(hNm:∀ k,S k=true->k<N):m.length+1<=N:=by
 have G:mget m x=none:=by have:=R.mks.has x;rw[hS]at this;simpa using this
 have A:(mput m x 1).length=m.length+1:=by rw[znu,yj G]
 rw[<- A,show(mput m x 1).length=((mput m x 1).map Prod.fst).length by simp];have:((mput m x 1).map Prod.fst).length<=(List.range N).length:=List.Nodup.length_le_of_subset (zls (IM.nodup R.mks.is) x 1) (fun k H=>by
  obtain⟨p,E,rfl⟩:=yae.1 H;rw[yaf];rcases zf3 E with rfl | E
  ·exact hx
  ·refine hNm p.1 ?_;rw[<- R.mks.has p.1,zea (v:=p.2) (IM.nodup R.mks.is) E];rfl)
 simpa using this
theorem zxi {W3 W4 W5:World}{next:Nat->List Nat}{l:List Nat}{v':Value}(R:zkt w next start N D mb g v W (l++[x]) S m)(hS:S x=false)(hx:x<N)(hNm:∀ k,S k=true->k<N)
  (hm3:IM W3 mb (mput m x 1)) (hg3:W.grownBy W3 (some mb)) (hb4:Below W3.heap.size W3 W4) (hrow5:W5.ownsRow w.heap.size 3 1 v' (l.length+(next x).length) (ints l++ints (next x))) (hg5:W4.grownBy W5 v.ownBlock) (hD:(next x).length<=D) :
  zks w next start N D mb ((N-(m.length+1))*(D+1)+(l.length+(next x).length)) v' W5:=by
 have U:mget m x=none:=by have:=R.mks.has x;rw[hS]at this;simpa using this
 have E:(mput m x 1).length=m.length+1:=by rw[znu,yj U]
 have K:=ztg R.row R.mks;have Y:=R.mks.lt;have Z:W.heap.size<=W3.heap.size:=hg3.size;have I:Mk W3 mb (fun k=>S k||decide (k=x)) (mput m x 1):=⟨hm3,fun p hp=>by rcases zf3 hp with rfl | hp;exact rfl;exact R.mks.one p hp,fun k=>by
  rw[xd];by_cases e:x=k
  ·subst e;simp
  ·rw[yg e,R.mks.has k];simp[show k≠x from fun h=>e h.symm]⟩
 have J:Mk W5 mb (fun k=>S k||decide (k=x)) (mput m x 1):=I.qa ((hg5.block mb (yq hb4.size) (fun e=>K e.symm)).trans (hb4.block mb yo));have O:m.length+1<=N:=zq1 R hS hx hNm;have H:Below w.heap.size w W3:=R.qk.grown hg3 R.qk.size (fun k e=>by cases e;exact R.hmb);have G:Below w.heap.size w W4:=H.trans (hb4.mono H.size);have L:Below w.heap.size w W5:=G.grown hg5 G.size (fun k e=>(R.row.lt k e).1);have ex:ints (l++next x)=ints l++ints (next x):=by simp[ints]
 refine⟨l++next x,_,mput m x 1,by rw[ex,yx];exact hrow5,J,L,?_,?_,?_,?_,?_,?_,by rw[E];exact O,R.hmb⟩
 ·intro k A;rcases yu.1 A with A | A
  ·exact R.lr k (by simp[A])
  ·exact .step (R.lr x yy) A
 ·intro k A;by_cases e:k=x
  ·subst e;exact R.lr k yy
  ·exact R.mr k (by simpa [e] using A)
 ·intro k A;rcases R.st k A with h | h
  ·rcases yu.1 h with h | h
   ·exact .inl (by simp[h])
   ·rw[yG.1 h];exact .inr yy
  ·exact .inr (by simp[h])
 ·intro k A j Q;by_cases e:k=x
  ·subst e;exact .inl (by simp[Q])
  ·rcases R.cl k (by simpa [e] using A) j Q with h | h
   ·rcases yu.1 h with h | h
    ·exact .inl (by simp[h])
    ·rw[yG.1 h];exact .inr yy
   ·exact .inr (by simp[h])
 ·have:=R.len;simp only[yx,yai,ya8]at this |-;rw[E,Nat.succ_mul];omega
 ·rw[E];simp
theorem znj (nf:FuncId)(first cap:Array Value)(next:Nat->List Nat)(start:List Nat)(b0:Option Addr)(c0 B0 N D:Nat)(w:World)
  (eg:∀ args w,(callFunc nf args).run prog w=.ok (.enter nf args) w)
  (hN:N<=1000) (hD:D<=300) (hs:start.length<=1000)
  (A:w.ownsRow B0 3 1 (.slice b0 start.length c0) start.length (ints start)) (h0:start.length=0->b0=none/\c0=0)
  (hb:∀ k,xq next start k->k<N/\(next k).length<=D)
  (hn:∀ k W,xq next start k->Below w.heap.size w W->Calls prog nf (first++#[.i k]++cap) W (zad W (next k))) :
  Calls prog 217 #[.func (.func nf) first cap,.slice b0 start.length c0] w (zg5 w next start):=by
 have ah:=@run_makeMap prog;have HR:=zH A;have HN:=zH hn;have H0:=zH h0;have HB:=zH hb;clear A hn h0 hb;go_enter func217,ntmps217;go_wp2_with (refine zuo zhx rfl _ _ rfl w.heap.size B0 (.z) (.slice b0 start.length c0) 0 start.length [] (ints start) rfl rfl yN (HR.o.alloc _) (fun h=>by obtain⟨h1,h2⟩:=H0.o h;rw[h1,h2,h]) (zrd _) yo yy ?_;intro b1 c1 w1 E a3);clear ah;simp only[ybf,yas]at E;have ST:=zH (zxl (next:=next) (N:=N) (D:=D) E a3);clear E a3;go_loopg [6] (N*(D+1)+start.length) (fun g v wr=>zks w next start N D w.heap.size g v wr)
 case atStart=>exact ST.o
 case round =>
  obtain⟨l,S,m,R⟩:=hrel;have G:=zH R;have ag:l.length<=301000:=by
   have h1:=R.len;have h2:=R.nd;have h3:m.length*D<=N*D:=yac _ h2;have h4:N*D<=1000*300:=ycq hN hD;omega
  rcases List.eq_nil_or_concat l with hl | ⟨J,x,hl⟩
  ·subst hl;obtain⟨rb,rc,hv⟩:=zZ R.row;rw[hv];have a8:=zH (show zg5 w next start (.r (.m w.heap.size)) wr from
    ⟨w.heap.size,S,m,rfl,yr _,R.mks,fun k=>⟨R.mr k,fun h=>by
     induction h with
     | start h=>exact(R.st _ h).resolve_left yy
     | step _ h2 ih=>exact(R.cl _ ih _ h2).resolve_left yy⟩,R.qk⟩)
   clear R;go_wp2;go_ret;exact a8.o
  ·rw[List.concat_eq_append]at hl;subst hl;obtain⟨gb,gc,hv,am,a5⟩:=R.row.form yy;subst hv;simp only[yx,yai,ya8,ybf]at ag |-;have A:=R.row;simp only[yx,yai,ya8,ybf]at A;have Y:wr.cell? (.a gb J.length)=some (.i x):=by
    rw[A.cellAt J.length yo];simp[ints,zdb]
   have ak:J.length+1<=gc:=by
    rcases A.2 with⟨h,_⟩ | ⟨_,cap,_,h,_,_,h2,_⟩
    ·cases h
    ·injection h with _ _ h3;omega
   have af:gc<=9223372036854775807:=by
    rcases A.2 with⟨h,_⟩ | ⟨_,cap,_,h,_,_,_,h2,_⟩
    ·cases h
    ·injection h with _ _ h3;unfold maxLen at h2;omega
   have hx:xq next start x:=R.lr x yy;have a7:=(HB.o x hx).1;have HP:=zH (row_pop A);have HX:=zH hx;clear R A hx;go_wp2_with fail;refine(zrb wr w.heap.size x S m G.o.mks yo).mono ?_;rintro e w2 ⟨rfl,rfl⟩;cases hS:S x
   ·obtain⟨w3,L,a6,Z,ai⟩:=G.o.mks.is.update (t:=310) (e:=3) ikey underlying310 (x:=x) yo 1;have a0:(Instr.mapUpdate 310 (.m w.heap.size) (.i x) (.i 1)).run prog wr=.ok () w3:=L;clear L;have U:Below w.heap.size w w3:=G.o.qk.grown Z G.o.qk.size (fun k e=>by cases e;exact yr _);have HC:=zH (HN.o x w3 HX.o U);have ab:=zH a6;have Q:=zH Z;have HS:=zH hS;have aa:=zH U;clear a6 Z U hS ai;go_wp2_with fail;refine HC.o.mono ?_;rintro e w4 ⟨v,rfl,H,a1,a2⟩;have ad:=zH H;have a9:=zH a1;have O:=zH a2;have ae:=(HB.o x HX.o).2;clear H a1 a2 a0 Y;have ac:=zH (show w4.ownsRow w.heap.size 3 1 (.s gb J.length gc) J.length (ints J)from
     xx HP.o fun k e=>by
      have hk:gb=k:=by simpa [Value.ownBlock] using e
      subst hk;exact(O.o.block gb (yi a5 Q.o.size)).trans (Q.o.block gb a5 (fun e=>ztg G.o.row G.o.mks (by rw[<- e];rfl))))
    have aj:w.heap.size<=w4.heap.size:=ya aa.o.size O.o.size;go_wp2_with (refine zuo zhx rfl _ _ rfl w.heap.size w3.heap.size (.s gb J.length gc) v J.length (next x).length (ints J) (ints (next x)) rfl rfl ac.o ad.o a9.o (zrd _) yo aj ?_;intro b5 c5 w5 I a4);have K:=zH (zxi G.o HS.o a7 (fun k hk=>(HB.o k (G.o.mr k hk)).1) ab.o Q.o O.o I a4 ae);clear I a4;go_roundg ((N-(m.length+1))*(D+1)+(J.length+(next x).length))
    case measure =>
     have h1:=G.o.g;obtain⟨l0,S0,m0,R0⟩:=K.o;have h2:=R0.g;simp at h1;have h3:m.length+1<=N:=zq1 G.o HS.o a7 (fun k hk=>(HB.o k (G.o.mr k hk)).1);obtain⟨q,hq⟩:∃ q,N-m.length=q+1:=⟨N-m.length-1,by omega⟩;rw[hq,Nat.succ_mul]at h1;rw[show N-(m.length+1)=q by omega];omega
    case rel=>exact K.o
   ·have HS:=zH hS;have K:=zH (zxk G.o HP.o HS.o);clear hS;go_wp2;go_roundg ((N-m.length)*(D+1)+J.length)
    case measure=>have:=G.o.g;simp at this;omega
    case rel=>exact K.o
structure Rule where
 f:FuncId
 first:Array Value
 cap:Array Value
def ruleV (r:Rule):Value:=.func (.func r.f) r.first r.cap
def zgi {σ : Type}(Inv:σ -> World->Prop)(μ : σ -> Nat)(Cl:σ -> Prop)(s:σ)(e:Ending)(W':World):Prop :=
 ∃ s' c,e=.r (.bool c)/\Inv s' W'/\(c=true->μ s' < μ s)/\(c=false->s'=s/\Cl s)
def zo7 {σ : Type}(Inv:σ -> World->Prop)(μ : σ -> Nat)(r:Rule)(Cl:σ -> Prop):Prop :=
 (∀ args w,(callFunc r.f args).run prog w=.ok (.enter r.f args) w)/\∀ s W,Inv s W->Calls prog r.f (r.first++r.cap) W (zgi Inv μ Cl s)
def zo0 {σ : Type}(Inv:σ -> World->Prop)(Cls:List (σ -> Prop))(e:Ending)(W':World):Prop:=∃ s,e=.e/\Inv s W'/\∀ C ∈ Cls,C s
def zkr {σ : Type}(Inv:σ -> World->Prop)(μ : σ -> Nat)(Cls:List (σ -> Prop))(g:Nat)(v:Value)(W:World):Prop :=
 ∃ s more,v=.bool more/\Inv s W/\(more=true->g=μ s+1)/\(more=false->g=0/\∀ C ∈ Cls,C s)
def FixIn {σ : Type}(Inv:σ -> World->Prop)(μ : σ -> Nat)(Cls:List (σ -> Prop))(m0:Nat)(g:Nat)(v iv:Value)(W:World):Prop :=
 ∃ (s:σ) (more:Bool) (j:Nat),v=.bool more/\iv=.i j/\g=Cls.length-j/\j<=Cls.length/\Inv s W/\(more=true->μ s<m0)/\(more=false->μ s<=m0/\∀ C ∈ Cls.take j,C s)
theorem zjo {σ: Type}(Inv:σ -> World->Prop)(μ : σ -> Nat)(rs:List Rule)(Cls:List (σ -> Prop))(rb:Nat)(c0:Nat)(w:World)(s:σ)
  (hl:Cls.length=rs.length) (h1:1<=rs.length/\rs.length<=10) (hs:Inv s w) (hrow:∀ s W,Inv s W->∀ (j:Nat) (r:Rule),rs[j]?=some r->W.cell? (.a rb j)=some (ruleV r))
  (hr:∀ (j:Nat) (r:Rule) (C:σ -> Prop),rs[j]?=some r->Cls[j]?=some C->zo7 Inv μ r C) :
  Calls prog 221 #[.s rb rs.length c0] w (zo0 Inv Cls):=by
 have ST:=zH (show zkr Inv μ Cls (μ s+1) (.bool true) w from⟨s,true,rfl,hs,fun _=>rfl,fun h=>by cases h⟩);have HL:=zH hl;have a0:=zH hrow;have HR:=zH hr;clear hs hrow hr hl;go_enter func221,ntmps221;go_wp2_with fail;go_loopg [2] (μ s+1) (fun g v wr=>zkr Inv μ Cls g v wr)
 case atStart=>exact ST.o
 case round =>
  obtain⟨s1,A,rfl,R,E,G⟩:=hrel;cases A
  ·have a2:=zH (show zo0 Inv Cls (.e) wr from⟨s1,rfl,R,(G rfl).2⟩);clear R E G;go_wp2_with fail
   first | go_end0 | refine ym (yp rfl _ _ _) rfl ?_
   exact a2.o
  ·have HG:=zH (E rfl);have a4:=zH (show FixIn Inv μ Cls (μ s1) Cls.length (.bool false) (.i 0) wr from⟨s1,false,0,rfl,rfl,rfl,yD _,R,fun h=>(by cases h),fun _=>⟨yr _,by simp⟩⟩);clear R E G;go_wp2_with fail;go_loopg [2,8] Cls.length (fun g v iv wr=>FixIn Inv μ Cls (μ s1) g v iv wr)
   case atStart=>exact a4.o
   case round =>
    rename_i a8;obtain⟨s2,A,j,rfl,rfl,hg,hj,R,E,G⟩:=hrel;have HG2:=zH hg;have O:=zH E;have J:=zH G;have HI:=zH R;have HJ:=zH hj;clear hg E G R hj;by_cases L:j<rs.length
    ·obtain⟨r,Y⟩:∃ r,rs[j]?=some r:=⟨_,yc L⟩;obtain⟨C,Q⟩:∃ C,Cls[j]?=some C:=⟨_,yc (by rw[HL.o];exact L)⟩;have I:wr.cell? (.a rb j)=some (.func (.func r.f) r.first r.cap):=a0.o s2 wr HI.o j r Y;obtain⟨eg,H⟩:=HR.o j r C Y Q;have HC:=zH (H s2 wr HI.o);have a3:=zH Q;clear Y Q H;go_wp2_with fail;refine HC.o.mono ?_;rintro e w5 ⟨s3,c,rfl,K,S,U⟩;have a6:Cls.length=rs.length:=HL.o;cases c
     ·obtain⟨e1,hC⟩:=U rfl;subst e1;have REL:=zH (show FixIn Inv μ Cls (μ s1) (Cls.length-(j+1)) (.bool A) (.i ((j+1:Nat):Int)) w5 from
       ⟨s3,A,j+1,rfl,rfl,rfl,by omega,K,O.o,fun hm=>⟨(J.o hm).1,fun D Z=>by
        rw[yam,a3.o]at Z;rcases yu.1 Z with Z | Z
        ·exact(J.o hm).2 D Z
        ·have a5:D=C:=by simpa using Z
         rw[a5];exact hC⟩⟩)
      clear K S U hC I;exact mOc
     ·have N:μ s3 < μ s1:=by
       have h3:=S rfl;cases A
       ·have:=(J.o rfl).1;omega
       ·have:=O.o rfl;omega
      have REL:=zH (show FixIn Inv μ Cls (μ s1) (Cls.length-(j+1)) (.bool true) (.i ((j+1:Nat):Int)) w5 from
       ⟨s3,true,j+1,rfl,rfl,rfl,by omega,K,fun _=>N,fun h=>by cases h⟩)
      clear K S U I N;exact mOc
    ·have hj:j=Cls.length:=by have:=HL.o;have:=HJ.o;omega
     have a1:j=rs.length:=yq HL.o;cases A
     ·have REL:=zH (show zkr Inv μ Cls 0 (.bool false) wr from⟨s2,false,rfl,HI.o,fun h=>(by cases h),fun _=>⟨rfl,by have:=(J.o rfl).2;rw[hj,yaz]at this;exact this⟩⟩);subst a1;clear hj L;go_wp2;go_roundg 0
      case measure=>have:=HG.o;omega
      case rel=>exact REL.o
     ·have REL:=zH (show zkr Inv μ Cls (μ s2+1) (.bool true) wr from⟨s2,true,rfl,HI.o,fun _=>rfl,fun h=>by cases h⟩);have a7:=O.o rfl;subst a1;clear hj L;go_wp2;go_roundg (μ s2+1)
      case measure=>have:=HG.o;omega
      case rel=>exact REL.o
section
structure Use where
 f:Nat
 n:Nd
 put:Bool
 deriving DecidableEq
structure PS where
 ho:Nd->Nat
 ht:Nd->Nat
 to:Nd->Nd->Bool
 us:Nd->List Use
def PS.none:PS:=⟨fun _=>0,fun _=>0,fun _ _=>false,fun _=>[]⟩
def zar (st:PS)(n:Nd)(o t:Nat):PS:={ st with ho:=fun x=>if x=n then st.ho x|||o else st.ho x,ht:=fun x=>if x=n then st.ht x|||t else st.ht x }
def zb3 (st:PS)(n:Nd)(o t:Nat):Bool:=((st.ho n|||o) != st.ho n)||((st.ht n|||t) != st.ht n)
def zx (st:PS)(a b:Nd):PS:={ st with to:=fun x y=>decide (x=a/\y=b)||st.to x y }
def useM (st:PS)(n:Nd)(u:Use):PS:={ st with us:=fun x=>if x=n then st.us x++[u]else st.us x }
theorem zxn {st:PS}{n:Nd}{o t:Nat}(h:zb3 st n o t=false):zar st n o t=st:=by
 simp only[zb3,yck,bne_eq_false_iff_eq]at h;obtain⟨h1,h2⟩:=h;cases st
 simp only[zar,PS.mk.injEq,and_true];refine⟨funext fun x=>?_,funext fun x=>?_⟩
 ·by_cases e:x=n
  ·subst e;rw[yj rfl];exact h1
  ·rw[yg e]
 ·by_cases e:x=n
  ·subst e;rw[yj rfl];exact h2
  ·rw[yg e]
theorem zm8 {st:PS}{a b:Nd}(h:st.to a b=true):zx st a b=st:=by
 cases st
 simp only[zx,PS.mk.injEq,and_true,true_and];refine funext fun x=>funext fun y=>?_;by_cases e:x=a/\y=b
 ·obtain⟨rfl,rfl⟩:=e;simpa using h
 ·rw[decide_eq_false e,yc5]
theorem zs8 {w:World}{B e size:Nat}(h:w.ownsRow B e size v n ys)(A:v.ownBlock=some k):∃ cs,Blk w k e cs:=by
 rcases h.2 with⟨rfl,_⟩ | ⟨g,cap,D,rfl,_,E,_⟩
 ·cases A
 ·injection A with A;subst A;exact⟨D,E⟩
theorem ztt {α β : Type}{a a':α}{b:β}:∀ {l:List (α × β)},(l.map Prod.snd).Nodup->(a,b) ∈ l->(a',b) ∈ l->a=a'
 | [],_,h,_=>by simp at h
 | p::l,hn,h,h'=>by
  simp only[yT,ya0]at hn;rcases yW.1 h with h | h <;> rcases yW.1 h' with h' | h'
  ·rw[<- h]at h';injection h' with h';exact h'.symm
  ·exact absurd (yae.2 ⟨_,h',by rw[<- h]⟩) hn.1
  ·exact absurd (yae.2 ⟨_,h,by rw[<- h']⟩) hn.1
  ·exact ztt hn.2 h h'
abbrev hdV (p:Nat×Nat):Value:=.agg #[zA p.1,zA p.2]
def zcq (u:Use):List Value:=[.i u.f,.u u.n.k,.i u.n.a,.i u.n.b,.bool u.put]
def NkE (w:World)(b:Nat)(S:Nd->Bool):Prop:=∃ m:List (Nd×Nat),zG w b ndV NdOk zdb m/\(∀ p ∈ m,p.2=1)/\∀ k,(mget m k).isSome=S k
structure PtV where
 sb:Nat
 hb:Nat
 tb:Nat
 ub:Nat
def zdf (fb:Nat)(V:PtV)(out:Nat):Array Value:=#[.p fb,.m V.hb,.m V.tb,.m V.ub,zA out]
structure PtM (w:World)(B fb:Nat)(V:PtV)(st:PS)(out:Nat)(mh:List (Nd×(Nat×Nat)))(mt:List (Nd×Nat))(mu:List (Nd×Value)):Prop where
 s:Blk w V.sb 383 (zdf fb V out)
 h:zG w V.hb ndV NdOk hdV mh
 hv:∀ n,(mget mh n).getD (0,0)=(st.ho n,st.ht n)
 t:zG w V.tb ndV NdOk (fun b=>.map (some b)) mt
 tn:(mt.map Prod.snd).Nodup
 ti:∀ n b,(n,b) ∈ mt->NkE w b (st.to n)/\B<=b/\b≠V.hb/\b≠V.tb/\b≠V.ub
 t0:∀ n,mget mt n=none->∀ y,st.to n y=false
 u:zG w V.ub ndV NdOk id mu
 ur:∀ n v,(n,v) ∈ mu->w.ownsRow B 427 5 v (st.us n).length ((st.us n).flatMap zcq)
 un:∀ n v n' v',(n,v) ∈ mu->(n',v') ∈ mu->v.ownBlock=v'.ownBlock->v.ownBlock≠none->n=n'
 u0:∀ n,mget mu n=none->st.us n=[]
 bB:B<=V.sb/\B<=V.hb/\B<=V.tb/\B<=V.ub
 ne:V.hb≠V.tb/\V.hb≠V.ub/\V.tb≠V.ub
 sm:∀ n,st.ho n<2 ^ 48/\st.ht n<2 ^ 48
def ptObj:Obj->Bool
 | .map _ _=>true
 | .cells _ t _=>t==383||t==427
 | _=>false
structure PtKp (w w':World):Prop where
 size:w.heap.size<=w'.heap.size
 same:∀ (k:Nat) (o:Obj),w.heap[k]?=some o->ptObj o=true->w'.heap[k]?=some o
section
variable {w w' w2:World} {B fb:Nat} {V:PtV} {st:PS} {out:Nat} {mh:List (Nd×(Nat×Nat))} {mt:List (Nd×Nat)} {mu:List (Nd×Value)} {N b g:Nat} {S:Nd->Bool} {t:TypeId} {cs:Array Value}
theorem PtKp.refl (w:World):PtKp w w:=⟨yr _,fun _ _ h _=>h⟩
theorem PtKp.trans (h:PtKp w w')(h':PtKp w' w2):PtKp w w2:=⟨ya h.size h'.size,fun k o a b=>h'.same k o (h.same k o a b) b⟩
theorem PtKp.below (h:Below N w w')(hN:w.heap.size<=N):PtKp w w':=⟨h.size,fun k o a _=>(h.block k (yi (lt_of_block a) hN)).trans a⟩
theorem PtKp.alloc (w:World)(o:Obj):PtKp w (w.alloc o):=PtKp.below ((yn w.heap.size w).alloc yL o) yL
theorem PtKp.drew (w:World):PtKp w w.drew:=⟨yr _,fun _ _ h _=>h⟩
theorem PtKp.drewN (w:World)(n:Nat):PtKp w (w.drewN n):=⟨yr _,fun _ _ h _=>h⟩
theorem PtKp.qo (h:Recs N w w'):PtKp w w':=⟨h.size,fun k _ a b=>h.same k _ a (by rename_i o;cases o <;> first | rfl | cases b)⟩
theorem PtKp.set (hb:Blk w g t cs)(h1:t≠383)(h2:t≠427)(i:Nat)(u:Value):PtKp w (w.setCell (.a g i) u) :=
 ⟨by simp[World.setCell],fun k _ a ho=>(yt w ⟨g,i,none⟩ u k (fun e=>by
  subst e;unfold Blk at hb;rw[hb]at a;injection a with a;subst a;simp[ptObj,h1,h2]at ho)).trans a⟩
theorem zG.pt {κ ν: Type}{enc:κ -> Value}{ok:κ -> Prop}{encv:ν -> Value}{m:List (κ × ν)}(h:zG w b enc ok encv m)(hk:PtKp w w'):zG w' b enc ok encv m:=by
 obtain⟨A,clock,h1,h2⟩:=h;exact⟨A,clock,hk.same b _ h1 rfl,h2⟩
theorem NkE.pt (h:NkE w b S)(hk:PtKp w w'):NkE w' b S:=by
 obtain⟨m,h1,h2⟩:=h;exact⟨m,h1.pt hk,h2⟩
theorem NkE.qa (h:NkE w b S)(hb:w'.heap[b]? = w.heap[b]?):NkE w' b S:=by
 obtain⟨m,h1,h2⟩:=h;exact⟨m,h1.qa hb,h2⟩
theorem NkE.lt (h:NkE w b S):b<w.heap.size:=by
 obtain⟨m,h1,h2⟩:=h;exact h1.lt
theorem row_pt (h:w.ownsRow B 427 5 v n xs)(hk:PtKp w w'):w'.ownsRow B 427 5 v n xs:=by
 obtain⟨h1,h2⟩:=h;refine⟨h1,?_⟩;rcases h2 with h2 | ⟨g,cap,A,hv,D,E,r⟩
 ·exact .inl h2
 ·exact .inr ⟨g,cap,A,hv,D,hk.same g _ E (by simp[ptObj]),r⟩
theorem PtM.kp (h:PtM w B fb V st out mh mt mu)(hk:PtKp w w'):PtM w' B fb V st out mh mt mu :=
 ⟨hk.same _ _ h.s rfl,h.h.pt hk,h.hv,h.t.pt hk,h.tn,fun n b hb=>⟨(h.ti n b hb).1.pt hk,(h.ti n b hb).2⟩,h.t0,h.u.pt hk,fun n v hv=>row_pt (h.ur n v hv) hk,h.un,h.u0,h.bB,h.ne,h.sm⟩
theorem zG.vw {κ ν: Type}{enc:κ -> Value}{ok:κ -> Prop}{encv:ν -> Value}{m:List (κ × ν)}{size:Nat}(h:zG w b enc ok encv m)(hr:w.ownsRow B e size v n xs):v.ownBlock≠some b:=by
 intro hv;obtain⟨cs,hb⟩:=zs8 hr hv;exact h.qf hb rfl
theorem PtM.setH {n:Nd}{o t:Nat}{p:Nat×Nat}(h:PtM w B fb V st out mh mt mu)(hm:zG w' V.hb ndV NdOk hdV (mput mh n p))(hg:w.grownBy w' (some V.hb))(hp:p=(st.ho n|||o,st.ht n|||t))(ho:o<2 ^ 48)(ht:t<2 ^ 48):PtM w' B fb V (zar st n o t) out (mput mh n p) mt mu:=by
 have A:∀ {g},g<w.heap.size->g≠V.hb->w'.heap[g]? = w.heap[g]? := fun h1 h2=>hg.block _ h1 (fun e=>h2 (by injection e));refine⟨(A h.s.lt (fun e=>h.h.qf h.s e.symm)).trans h.s,hm,fun x=>?_,h.t.qa (A h.t.lt h.ne.1.symm),h.tn,fun n b hb=>?_,h.t0,h.u.qa (A h.u.lt h.ne.2.1.symm),fun n v hv=>?_,h.un,h.u0,h.bB,h.ne,fun x=>?_⟩
 ·rw[xd];simp only[zar];by_cases e:n=x
  ·subst e;simp[hp]
  ·rw[yg e,yg (fun e'=>e e'.symm),yg (fun e'=>e e'.symm)];exact h.hv x
 ·obtain⟨a,E,c,d⟩:=h.ti n b hb;exact⟨a.qa (A a.lt c),E,c,d⟩
 ·exact xx (h.ur n v hv) fun k D=>A ((h.ur n v hv).lt k D).2 (fun e=>h.h.vw (h.ur n v hv) (by rw[D,e]))
 ·simp only[zar];have:=h.sm x;constructor
  ·split
   ·exact yJ this.1 ho
   ·exact this.1
  ·split
   ·exact yJ this.2 ht
   ·exact this.2
theorem PtM.setT {a c:Nd}(h:PtM w B fb V st out mh mt mu)(hb:(a,b) ∈ mt)(hm:NkE w' b (fun y=>decide (y=c)||st.to a y))(hg:w.grownBy w' (some b)):PtM w' B fb V (zx st a c) out mh mt mu:=by
 obtain⟨J,U,O,Q,R⟩:=h.ti a b hb;have D:∀ {g},g<w.heap.size->g≠b->w'.heap[g]? = w.heap[g]? := fun h1 h2=>hg.block _ h1 (fun e=>h2 (by injection e));have N:=h.t;have H:∀ {g t cs},Blk w g t cs->g≠b:=fun A e=>by
  obtain⟨m,h1,_⟩:=J;exact h1.qf A e.symm
 refine⟨(D h.s.lt (H h.s)).trans h.s,h.h.qa (D h.h.lt O.symm),h.hv,h.t.qa (D h.t.lt Q.symm),h.tn,fun n b' A=>?_,fun n hn y=>?_,h.u.qa (D h.u.lt R.symm),fun n v hv=>?_,h.un,h.u0,h.bB,h.ne,h.sm⟩
 ·obtain⟨K,S⟩:=h.ti n b' A;refine⟨?_,S⟩;by_cases e:n=a
  ·subst e;obtain⟨_,_,_,_,E,_⟩:=h.t;have L:=zea E hb;have G:=zea E A;rw[L]at G;injection G with G;subst G;simpa [zx] using hm
  ·have I:b'≠b:=fun e'=>e (by
    subst e';exact ztt h.tn A hb)
   have:=K.qa (D K.lt I);simpa [zx,e] using this
 ·simp only[zx];have:n≠a:=fun e=>by
   subst e;exact zhl.1 hn _ hb rfl
  simp[this,h.t0 n hn y]
 ·exact xx (h.ur n v hv) fun k E=>D ((h.ur n v hv).lt k E).2 (fun e=>by
   obtain⟨m,h1,_⟩:=J;exact h1.vw (h.ur n v hv) (by rw[E,e]))
end
end
section
section
variable {P:Program} {k e t:TypeId} {κ : Type} [DecidableEq κ] {enc:κ -> Value} {ok:κ -> Prop} {w w':World} {b:Nat} {m:List (κ × Value)}
theorem ziw (w:World)(b:Nat)(o:Obj):w.grownBy (setBlock w b o) (some b) :=
 ⟨rfl,rfl,rfl,by simp[setBlock],fun i _ hi=>by
  simp only[setBlock];rw[yba (by intro e;exact hi (by rw[e]))]⟩
theorem zl2 {w:World}{b:Nat}(h:b<w.heap.size)(o:Obj):(setBlock w b o).heap[b]?=some o:=by simp[setBlock,h]
theorem zG.entry (h:zG w b enc ok id m)(K:zaw P k enc ok)(ht:P.underlying t=some (.map k e))(hz:(zeroValue e).run P w=.ok z w){x:κ}(hx:ok x) :
  ∃ (w1:World) (v:Value) (s:Int),(Instr.mapEntry t (.m b) (enc x)).run P w=.ok (.tuple #[v,.i s]) w1/\w.grownBy w1 (some b)/\w1.heap.size=w.heap.size/\(mget m x=some v\/(mget m x=none/\v=z)) /\
   ∀ (G:World) (u:Value),G.heap[b]? = w1.heap[b]? -> ∃ w3,(Instr.entryStore t (.m b) (.i s) u).run P G=.ok () w3/\zG w3 b enc ok id (mput m x u)/\G.grownBy w3 (some b)/\w3.heap.size=G.heap.size:=by
 have U:=h;obtain⟨E,clock,hb,he,hn,W,Z,R⟩:=h;obtain⟨l,hl⟩:=K.reads x hx;have N:=lt_of_block hb;have Q:∀ (L:Array MapEntry) (A:Nat) (u:Value) (G:World),b<G.heap.size->(Instr.mapUpdate t (.m b) (enc x) u).run P w=.ok () (setBlock w b (.map L A))->zG (setBlock G b (.map L A)) b enc ok id (mput m x u):=by
  intro L A u G h2 hr;obtain⟨w',Y,S,_⟩:=U.update K ht hx u;have J:(Instr.mapUpdate t (.m b) (enc x) u).run P w=.ok () w':=Y;rw[hr]at J;injection J with _ J;subst J;exact S.qa (by rw[zl2 h2,zl2 N])
 rcases zk9 K w he W hx with⟨h1,h2⟩ | ⟨j,v,h1,h2,y,h3,h4⟩
 ·refine⟨setBlock w b (.map (E.push ⟨enc x,z,clock⟩) (clock+1)),z,clock,?_,ziw _ _ _,by simp[setBlock],.inr ⟨zhl.2 h2,rfl⟩,fun G u D=>?_⟩
  ·simp[Instr.mapEntry,run_underlying ht,yX hb,K.keyed.check w _ hl,h1,hz,yan _ hb,Result.andThen,setBlock,goInt]
  ·rw[zl2 N]at D;have H:(E.push ⟨enc x,z,clock⟩).findIdx? (fun e=>((e.born:Nat):Int)==((clock:Nat):Int))=some E.size:=by
    rw[WideElems.findIdx_arr];have:=WideElems.findIdx_born (l:=(E.push ⟨enc x,z,clock⟩).toList) (j:=E.size) (e0:=⟨enc x,z,clock⟩) (by
     simp only[yc2,yat,yT,List.map_nil];refine ycy.2 ⟨R,by simp,fun a ha c hc e1=>?_⟩;simp only[yG]at hc;obtain⟨q,hq,rfl⟩:=yae.1 ha;have:=Z q hq;omega) yy
    exact this
   have I:(E.push ⟨enc x,z,clock⟩).modify E.size (fun e=>{ e with val:=u })=E.push ⟨enc x,u,clock⟩:=by
    apply ycu;rw[ycm,yc2,yc2,<- Array.length_toList,WideElems.modify_last]
   refine⟨setBlock G b (.map (E.push ⟨enc x,u,clock⟩) (clock+1)),?_,Q _ _ _ _ (lt_of_block D) ?_,ziw _ _ _,by simp[setBlock]⟩
   ·simp[Instr.entryStore,yX D,asInt,asIntOf,H,I,yan _ D,Result.andThen,setBlock]
   ·simp[Instr.mapUpdate,run_underlying ht,yX hb,K.keyed.check w _ hl,h1,yan _ hb,Result.andThen,setBlock]
 ·have hj:E[j]?=some y:=by simpa using h3
  have a0:y.val=v:=by
   have h5:(E.toList.map (fun e=>(e.key,e.val)))[j]?=some (y.key,y.val):=by simp[h3]
   rw[he]at h5;simp only[yV,h2,ybv]at h5;injection h5 with h5;injection h5 with _ h5;exact h5.symm
  have O:E.modify j (fun e=>{ e with key:=enc x })=E:=by
   apply ycu;rw[ycm,modify_eq_set _ _ _ _ h3];have:({ y with key:=enc x }:MapEntry)=y:=by rw[<- h4]
   rw[this];exact WideElems.set_self _ _ _ h3
  refine⟨setBlock w b (.map E clock),v,y.born,?_,ziw _ _ _,by simp[setBlock],.inl (zea hn (yl h2)),fun G u D=>?_⟩
  ·simp[Instr.mapEntry,run_underlying ht,yX hb,K.keyed.check w _ hl,h1,hj,h4,K.keyed.stays w hl,O,yan _ hb,Result.andThen,setBlock,goInt]
  ·rw[zl2 N]at D;have H:E.findIdx? (fun e=>((e.born:Nat):Int)==((y.born:Nat):Int))=some j:=by
    rw[WideElems.findIdx_arr];exact WideElems.findIdx_born R h3
   have I:E.modify j (fun e=>{ e with val:=u })=E.modify j (fun e'=>{ e' with key:=enc x,val:=u }):=by
    apply ycu;rw[ycm,ycm,modify_eq_set _ _ _ _ h3,modify_eq_set _ _ _ _ h3,<- h4]
   refine⟨setBlock G b (.map (E.modify j (fun e'=>{ e' with key:=enc x,val:=u })) clock),?_,Q _ _ _ _ (lt_of_block D) ?_,ziw _ _ _,by simp[setBlock]⟩
   ·simp[Instr.entryStore,yX D,asInt,asIntOf,H,I,yan _ D,Result.andThen,setBlock]
   ·simp[Instr.mapUpdate,run_underlying ht,yX hb,K.keyed.check w _ hl,h1,hj,h4,K.keyed.stays w hl,yan _ hb,Result.andThen,setBlock]
end
end
section
section
variable {P:Program} {k e t:TypeId} {κ ν : Type} {enc:κ -> Value} {ok:κ -> Prop} {encv:ν -> Value} {w w':World} {b r:Nat} {m left:List (κ × ν)}
theorem zY.lt (h:zY w b r enc ok encv m left):b<w.heap.size/\r<w.heap.size:=by
 obtain⟨D,clock,A,h1,h2,_⟩:=h;exact⟨lt_of_block h1,lt_of_block h2⟩
theorem zY.qj (h:zY w b r enc ok encv m left)(h1:w'.heap[b]? = w.heap[b]?)(h2:w'.heap[r]? = w.heap[r]?):zY w' b r enc ok encv m left:=by
 obtain⟨D,clock,A,a,c,d⟩:=h;exact⟨D,clock,A,h1.trans a,h2.trans c,d⟩
theorem zY.map (h:zY w b r enc ok encv m left):zG w b enc ok encv m:=by
 obtain⟨J,clock,A,a,c,D,E,G,H,I,_⟩:=h;exact⟨J,clock,a,D,E,G,H,I⟩
theorem zY.sub (h:zY w b r enc ok encv m left):∀ p ∈ left,p ∈ m:=by
 obtain⟨L,clock,A,a,c,E,G,H,I,J,K,D,_⟩:=h;exact D
theorem zG.range (h:zG w b enc ok encv m)(ht:P.underlying t=some (.map k e)) :
  ∃ w',(Instr.range t (.m b)).run P w=.ok (.p w.heap.size) w'/\zY w' b w.heap.size enc ok encv m m/\Below w.heap.size w w'/\w'.heap.size=w.heap.size+1:=by
 obtain⟨G,clock,hb,H,hn,A,D,E⟩:=h;refine⟨_,run_range_map w t k e b G clock ht hb,⟨G,clock,#[],(yak _ _ _ (lt_of_block hb)).trans hb,heap_alloc_new w _,H,hn,A,D,E,?_,fun _ h=>h,hn⟩,yB.alloc yL _,by simp⟩;rw[List.filter_eq_self.2 yy];exact H
theorem zxc {es:List MapEntry}{seen:Array Nat}{y:MapEntry}(hy:y ∈ es)(hn:(es.map (·.born)).Nodup)(hs:seen.contains y.born=false) :
  ∃ D E,es.filter (fun e=>!seen.contains e.born)=D++y::E/\es.filter (fun e=>!(seen.push y.born).contains e.born)=D++E:=by
 induction es with
 | nil=>cases hy
 | cons a es ih =>
  simp only[yT,ya0]at hn;rcases yW.1 hy with rfl | A
  ·refine⟨[],es.filter (fun e=>!seen.contains e.born),by rw[ybh,hs];rfl,?_⟩;rw[ybh,contains_push];simp only[beq_self_eq_true,yao,ych,yI,if_false,yas];refine List.filter_congr fun x hx=>?_;rw[contains_push];have:(x.born==y.born)=false:=by
    rw[beq_eq_false_iff_ne];exact fun e=>hn.1 (yae.2 ⟨x,hx,e⟩)
   rw[this,yav]
  ·obtain⟨D,E,h1,h2⟩:=ih A hn.2;have G:(a.born==y.born)=false:=by
    rw[beq_eq_false_iff_ne];exact fun e=>hn.1 (yae.2 ⟨y,A,e.symm⟩)
   rw[ybh,ybh,contains_push,G,yav,h1,h2];cases seen.contains a.born
   ·exact⟨a::D,E,rfl,rfl⟩
   ·exact⟨D,E,rfl,rfl⟩
theorem zrm {α β : Type}{f:α -> β}:∀ {l:List α} {l1 l2:List β} {y:β},l.map f=l1++y::l2->∃ A x D,l=A++x::D/\A.map f=l1/\f x=y/\D.map f=l2
 | [],l1,l2,y,h=>by cases l1 <;> simp at h
 | x::l,[],l2,y,h=>by
  simp at h;exact⟨[],x,l,rfl,rfl,h.1,h.2⟩
 | x::l,z::l1,l2,y,h=>by
  simp only[yT,ya1,List.cons.injEq]at h;obtain⟨A,x',D,h1,h2,h3,h4⟩:=zrm h.2;exact⟨x::A,x',D,by rw[h1];rfl,by rw[yT,h.1,h2],h3,h4⟩
theorem zY.next (h:zY w b r enc ok encv m left)(ty:TypeId) :
  (left=[]/\(Instr.next (.p r) false ty).run P w=.ok (.tuple #[.bool false]) w) \/
  ∃ p S U w',left=S++p::U/\(Instr.next (.p r) false ty).run P w=.ok (.tuple #[.bool true,enc p.1,encv p.2]) w'/\zY w' b r enc ok encv m (S++U)/\w.grownBy w' (some r)/\w'.heap.size=w.heap.size /\
   (Instr.entry (.p r)).run P w'=.ok (.tuple #[enc p.1,encv p.2]) w':=by
 obtain⟨H,clock,A,hb,R,he,hn,Z,L,G,hl,Y,J⟩:=h;rcases run_next_at (P:=P) w ty r b clock clock A H clock R hb L yL with⟨h0,D⟩ | ⟨y,hy,Q,N,D⟩
 ·refine .inl ⟨?_,D⟩;have h1:H.toList.filter (fun e=>!A.contains e.born)=[]:=by
   have h2:(leftOf H A).toList=[]:=by simpa using Array.eq_empty_of_size_eq_zero h0
   simpa [leftOf] using h2
  rw[h1]at hl;simpa using hl.symm
 ·right;obtain⟨O,a4⟩:=mem_left hy;obtain⟨f1,f2,e1,e2⟩:=zxc O G a4;rw[e1,yat,yT]at hl;obtain⟨S,p,U,hp,a0,a1,a2⟩:=zrm hl.symm;injection a1 with hk hv;have W:b≠r:=fun e=>by subst e;rw[hb]at R;cases R
  have E:Q.heap=w.heap:=by rcases N with rfl | rfl <;> rfl
  have a3:r<Q.heap.size:=by rw[E];exact lt_of_block R
  have K:(setBlock Q r (.mapIter (some b) clock (A.push y.born) clock)).heap[r]?=some (.mapIter (some b) clock (A.push y.born) clock):=by simp[setBlock,a3]
  have I:(setBlock Q r (.mapIter (some b) clock (A.push y.born) clock)).heap[b]?=some (.map H clock):=by
   simp only[setBlock];rw[yba (fun e=>W e.symm),E,hb]
  refine⟨p,S,U,_,hp,by rw[hk,hv];exact D,⟨H,clock,A.push y.born,I,K,he,hn,Z,L,G,?_,?_,?_⟩,?_,?_,?_⟩
  ·rw[e2,yat,yat,a0,a2]
  ·intro q hq;refine Y q ?_;rw[hp];rcases yu.1 hq with h | h
   ·exact yu.2 (.inl h)
   ·exact yu.2 (.inr (yad _ h))
  ·rw[hp]at J;refine J.sublist (List.Sublist.map _ ?_);exact List.Sublist.append_left (List.sublist_cons_self _ _) _
  ·have:w.grownBy (setBlock Q r (.mapIter (some b) clock (A.push y.born) clock)) (some r):=by
    rcases N with rfl | rfl
    ·exact ziw _ _ _
    ·have h1:=ziw w.drew r (.mapIter (some b) clock (A.push y.born) clock);exact⟨h1.os,h1.tape,h1.output,h1.size,h1.block⟩
   exact this
  ·simp[setBlock,E]
  ·rw[hk,hv];exact run_entry_at _ r b clock A H clock y K I O G
end
section
variable {P:Program} {k e t:TypeId} {κ ν : Type} {enc:κ -> Value} {ok:κ -> Prop} {encv:ν -> Value} {w:World} {b r:Nat} {m left:List (κ × ν)} {ops:Array Oper} {rest:List Oper} {o:Oper} {a:Act} {Q:Exit->Act->World->Prop}
theorem zh1 (hg:o.guard=none)(x:Operand)(t:TypeId)(hop:o.op=Op.range t x)(ht:P.underlying t=some (.map k e))(hx:a.eval x=.m b)(h:zG w b enc ok encv m)
  (hK:∀ w',zY w' b w.heap.size enc ok encv m m->Below w.heap.size w w'->w'.heap.size=w.heap.size+1->wpList P ops Q rest (a.put o.dst (.p w.heap.size)) w'):wpList P ops Q (o::rest) a w:=by
 refine wpList_plain hg fun E D=>?_;obtain⟨w',A,r1,r2,r3⟩:=h.range (P:=P) ht;unfold Oper.wp;simp[execOp,hop,hx,A,Result.andThen];exact D _ _ (hK w' r1 r2 r3)
theorem zg3 (hg:o.guard=none)(it:Operand)(hop:o.op=Op.next it false)(hit:a.eval it=.p r)(h:zY w b r enc ok encv m left)
  (hDone:left=[]->wpList P ops Q rest (a.put o.dst (.tuple #[.bool false])) w)
  (hMore:∀ p E G w',left=E++p::G->zY w' b r enc ok encv m (E++G)->w.grownBy w' (some r)->w'.heap.size=w.heap.size->(Instr.entry (.p r)).run P w'=.ok (.tuple #[enc p.1,encv p.2]) w' ->
   wpList P ops Q rest (a.put o.dst (.tuple #[.bool true,enc p.1,encv p.2])) w'):wpList P ops Q (o::rest) a w:=by
 refine wpList_plain hg fun I D=>?_;unfold Oper.wp;rcases h.next (P:=P) o.type with⟨H,A⟩ | ⟨p,E,G,w',H,A,r1,r2,r3,r4⟩
 ·simp[execOp,hop,hit,A,Result.andThen];exact D _ _ (hDone H)
 ·simp[execOp,hop,hit,A,Result.andThen];exact D _ _ (hMore p E G w' H r1 r2 r3 r4)
end
end
structure Nm where
 text:ByteArray:=ByteArray.empty
 at_:Nat:=0
 num:Bool:=false
 n:Nat:=0
structure Sc where
 at_:Nat
 kind:Nat
 tok:Nm
 sign:UInt8
def zw (t:ByteArray)(k:Nat):UInt8:=t.data.toList.getD k 0
theorem zgm (t:ByteArray)(k:Nat)(h:k<t.size):t[k]=zw t k:=by
 unfold zw;have h2:k<t.data.toList.length:=by simpa using h
 rw[yab,yc h2];rfl
def zl (p:UInt8->Bool)(t:ByteArray)(k:Nat):Nat:=k+((t.data.toList.drop k).takeWhile p).length
theorem ztk {p:UInt8->Bool}{t:ByteArray}(h:k<t.size)(hp:p (zw t k)=true):zl p t k=zl p t (k+1):=by
 have h2:k<t.data.toList.length:=by simpa using h
 unfold zl;rw[yay h2];have e:zw t k=t.data.toList[k]:=by
  unfold zw;rw[yab,yc h2];rfl
 rw[e]at hp;rw[List.takeWhile_cons_of_pos hp];simp;omega
theorem zz3 {p:UInt8->Bool}{t:ByteArray}(h:k<t.size)(hp:p (zw t k)=false):zl p t k=k:=by
 have h2:k<t.data.toList.length:=by simpa using h
 unfold zl;rw[yay h2];have e:zw t k=t.data.toList[k]:=by
  unfold zw;rw[yab,yc h2];rfl
 rw[e]at hp;rw[List.takeWhile_cons_of_neg (by intro h;rw[hp]at h;cases h)];simp
theorem zz2 {p:UInt8->Bool}{t:ByteArray}(h:t.size<=k):zl p t k=k:=by
 unfold zl;rw[ybg (by simpa using h)];simp
theorem zjz (p:UInt8->Bool)(t:ByteArray)(k:Nat):k<=zl p t k:=by unfold zl;omega
theorem zof (p:UInt8->Bool)(t:ByteArray)(k:Nat)(h:k<=t.size):zl p t k<=t.size:=by
 unfold zl;have h1:=(List.takeWhile_prefix p (l:=t.data.toList.drop k)).length_le;have h2:t.data.toList.length=t.size:=by simp
 rw[List.length_drop,h2]at h1;omega
theorem ztj {p:UInt8->Bool}{t:ByteArray}(h:k<t.size)(hp:p (zw t k)=true):k<zl p t k:=by
 rw[ztk h hp];exact zjz p t (k+1)
def zas (c:UInt8):Bool:=c==32||c==10
def zd8 (c:UInt8):Bool:=97<=c&&c<=122
def za0 (c:UInt8):Bool:=48<=c&&c<=57
def zd7 (c:UInt8):Bool:=zd8 c||za0 c
theorem zu3 {c:UInt8}(h:zd7 c=true):zd8 c=true\/(zd8 c=false/\za0 c=true):=by
 unfold zd7 at h;cases hx:zd8 c <;> simp_all
theorem alnum_no {c:UInt8}(h:zd7 c=false):zd8 c=false/\za0 c=false:=by
 unfold zd7 at h;cases hx:zd8 c <;> simp_all
theorem zog (p:UInt8->Bool)(t:ByteArray)(j:Nat)(hj:j<=t.size) :
  (j<t.size/\p (zw t j)=true/\zl p t j=zl p t (j+1))\/(j<t.size/\p (zw t j)=false/\zl p t j=j)\/(t.size<=j/\zl p t j=j):=by
 by_cases A:j<t.size
 ·cases hx:p (zw t j)
  ·exact .inr (.inl ⟨A,rfl,zz3 A hx⟩)
  ·exact .inl ⟨A,rfl,ztk A hx⟩
 ·exact .inr (.inr ⟨by omega,zz2 yo⟩)
def zgp (c:UInt8):Bool:=c==59||c==123||c==125||c==40||c==41||c==44||c==46||c==43||c==45||c==60||c==61
def znq:List (List UInt8) :=
 [[118,97,114],[109,117,116,101,120],[102,117,110,99],[108,111,99,107],[117,110,108,111,99,107],[106,111,105,110],[114,101,116,117,114,110],
 [105,102],[101,108,115,101],[119,104,105,108,101],[103,111],[110,101,119]]
def zgo (s:ByteArray):Bool:=znq.contains s.data.toList
def zeu (t:ByteArray)(a b:Nat):Nat:=((t.data.toList.drop a).take (b-a)).foldl (fun n c=>10*n+(c.toNat-48)) 0
def zdw (t:ByteArray)(k:Nat)(sg:UInt8):Except Flt Sc :=
 let e:=zl zd7 t k
 let x:=t.extract k e
 if 6<e-k then .error ⟨3,k⟩else
 .ok { at_:=e,kind:=if zgo x then 4 else 1,tok:={ text:=x,at_:=k },sign:=sg }
def zf6 (t:ByteArray)(k:Nat)(sg:UInt8):Except Flt Sc :=
 let e:=zl za0 t k
 if 6<e-k then .error ⟨4,k⟩else
 .ok { at_:=e,kind:=2,tok:={ at_:=k,num:=true,n:=zeu t k e },sign:=sg }
def zco (t:ByteArray)(k:Nat):Except Flt Sc :=
 if zgp (zw t k)then
  if zw t k=61/\k+1<t.size/\zw t (k+1)=61 then .ok { at_:=k+2,kind:=3,tok:={ at_:=k },sign:=101 }
  else .ok { at_:=k+1,kind:=3,tok:={ at_:=k },sign:=zw t k }
 else .error ⟨2,k⟩
def zO (t:ByteArray)(s:Sc):Except Flt Sc :=
 let k:=zl zas t s.at_
 if k=t.size then .ok { at_:=k,kind:=0,tok:={ at_:=k },sign:=s.sign } else
 let c:=zw t k
 if zd8 c then zdw t k s.sign else if za0 c then zf6 t k s.sign else zco t k
def eqB (a b:ByteArray):Bool:=a.data.toList==b.data.toList
def isM (s:Sc)(c:UInt8):Bool:=s.kind==3&&s.sign==c
def zk (s:Sc)(x:ByteArray):Bool:=s.kind==4&&eqB s.tok.text x
def zt (t:ByteArray)(s:Sc)(c:UInt8):Except Flt Sc:=if isM s c then zO t s else .error ⟨5,s.tok.at_⟩
def zb5 (t:ByteArray)(s:Sc):Except Flt (Nm×Sc):=if s.kind=1 then(zO t s).map fun s'=>(s.tok,s')else .error ⟨5,s.tok.at_⟩
def zay (t:ByteArray)(s:Sc):Except Flt (Nm×Sc):=if s.kind=1\/s.kind=2 then(zO t s).map fun s'=>(s.tok,s')else .error ⟨5,s.tok.at_⟩
theorem zfd {t:ByteArray}{s s':Sc}(h:zO t s=.ok s')(hs:s.at_<=t.size):s'.at_<=t.size/\s.at_<=s'.at_/\(s'.kind≠0->s.at_<s'.at_):=by
 have h1:=zjz zas t s.at_;have h2:=zof zas t s.at_ hs;have h3:=zjz zd7 t (zl zas t s.at_);have h4:=zjz za0 t (zl zas t s.at_);have h5:=zof zd7 t (zl zas t s.at_) h2;have h6:=zof za0 t (zl zas t s.at_) h2;unfold zO at h;simp only at h;by_cases H:zl zas t s.at_=t.size
 ·rw[yj H]at h;injection h with h;subst h;exact⟨h2,h1,fun h=>absurd rfl h⟩
 ·rw[yg H]at h;have D:zl zas t s.at_<t.size:=yo;by_cases E:zd8 (zw t (zl zas t s.at_))=true
  ·rw[yj E]at h;have h7:=ztj (p:=zd7) D (by simp[zd7,E]);unfold zdw at h;by_cases A:6<zl zd7 t (zl zas t s.at_)-zl zas t s.at_
   ·rw[yj A]at h;cases h
   ·rw[yg A]at h;injection h with h;subst h;exact⟨h5,by simp;omega,fun _=>by simp;omega⟩
  ·rw[yg E]at h;by_cases G:za0 (zw t (zl zas t s.at_))=true
   ·rw[yj G]at h;have h7:=ztj (p:=za0) D G;unfold zf6 at h;by_cases A:6<zl za0 t (zl zas t s.at_)-zl zas t s.at_
    ·rw[yj A]at h;cases h
    ·rw[yg A]at h;injection h with h;subst h;exact⟨h6,by simp;omega,fun _=>by simp;omega⟩
   ·rw[yg G]at h;unfold zco at h;by_cases I:zgp (zw t (zl zas t s.at_))=true
    ·rw[yj I]at h;split at h <;> injection h with h <;> subst h <;> exact⟨by simp;omega,by simp;omega,fun _=>by simp;omega⟩
    ·rw[yg I]at h;cases h
def ScAt (w:World)(sb:Nat)(t:ByteArray)(s:Sc):Prop :=
 Blk w sb 319 #[.string t,.i s.at_,.i s.kind,.string s.tok.text,.i s.tok.at_,.bool s.tok.num,.i s.tok.n,.u s.sign.toNat]
theorem zd5 (k p:Int)(w:World):Calls prog 157 #[.i k,.i p] w fun e w' =>
  e=.panicked (zd6 w.heap.size)/\w.alloc (.k #[.i k,.i p] 323)=w':=by
 go_enter func157,ntmps157;go_wp2;exact⟨rfl,rfl,rfl⟩
theorem zhw (c:UInt8)(w:World):Calls prog 238 #[.u c.toNat] w fun e w'=>e=.r (.bool (zd8 c))/\w=w':=by
 have H:=zH (show zd8 c=(decide (97<=(c.toNat:Int))&&decide ((c.toNat:Int)<=122)) by
  unfold zd8;rw[yS];simp[UInt8.le_iff_toNat_le];omega)
 go_enter func238,ntmps238;go_wp2
 all_goals go_ret
 all_goals (refine⟨zce ?_,rfl⟩;rw[H.o,yS];simp[*] <;> omega)
theorem zdp (c:UInt8)(w:World):Calls prog 239 #[.u c.toNat] w fun e w'=>e=.r (.bool (za0 c))/\w=w':=by
 have H:=zH (show za0 c=(decide (48<=(c.toNat:Int))&&decide ((c.toNat:Int)<=57)) by
  unfold za0;rw[yS];simp[UInt8.le_iff_toNat_le];omega)
 go_enter func239,ntmps239;go_wp2
 all_goals go_ret
 all_goals (refine⟨zce ?_,rfl⟩;rw[H.o,yS];simp[*] <;> omega)
theorem znm (c:UInt8)(w:World)(sb:Nat)(t:ByteArray)(s:Sc)(h:ScAt w sb t s) :
  Calls prog 291 #[.p sb,.u c.toNat] w fun e w'=>e=.r (.bool (isM s c))/\w=w':=by
 have A:=Blk.cell h;have H:=zH (show isM s c=(decide ((s.kind:Int)=3)&&decide ((s.sign.toNat:Int)=c.toNat)) by
  unfold isM;rw[yS];simp[<- UInt8.toNat_inj];omega)
 clear h;go_enter func291,ntmps291;go_wp2
 all_goals go_ret
 all_goals (refine⟨zce ?_,rfl⟩;rw[H.o,yS];simp[*] <;> omega)
theorem zxy (x:ByteArray)(w:World)(sb:Nat)(t:ByteArray)(s:Sc)(h:ScAt w sb t s) :
  Calls prog 243 #[.p sb,.string x] w fun e w'=>e=.r (.bool (zk s x))/\w=w':=by
 have A:=Blk.cell h;have H:=zH (show zk s x=(decide ((s.kind:Int)=4)&&(s.tok.text.toList==x.toList)) by
  unfold zk eqB;rw[ByteArray.toList_eq,ByteArray.toList_eq];congr 1;rw[yS];simp;omega)
 clear h;go_enter func243,ntmps243;go_wp2
 all_goals go_ret
 all_goals (refine⟨zce ?_,rfl⟩;rw[H.o,yS];simp[*] <;> omega)
end Go.Proofs.YtkmcihhndgdhpaaGreat
