/- Base Map PtsA Over Region ReachA Row ReachB ReachC PtsB PtsE PtsR ScanM Scan: parts of the walk. -/
import Derived.OrdersHeld
import Derived.Below
import Derived.WalkKit
import Derived.Deep.Draws
import Derived.Deep.AppendLies
import Derived.Maps.AppendAt
import Derived.Lib.Hide
import Derived.KernelRfl
import Derived.Deep.QuietTactic
import Derived.Maps.RangeWalk
import Derived.Maps.OwnOps
import Derived.Test.YtkmcihhndgdhpaaGreatProg
import Derived.DeepKeys4
import Derived.Maps.RangeRun
import Derived.IntWalk
import Derived.RangeFuncNested
import Derived.RangeFuncBound
import Derived.RangeFuncCalls
import Derived.RangeFuncLeaves
import Derived.Deep.RegionHeld3
import Derived.StillTail
import Derived.Deep.LoopGhost
import Derived.Laws.AppendOwnNone
import Derived.RegionTactic
import Derived.WideKeyEntry
import Derived.WalkLawsBesides
import Derived.BigQuiet
set_option maxRecDepth 100000
set_option maxHeartbeats 4000000
set_option linter.unusedSimpArgs false
set_option linter.unusedVariables false
namespace Go.Proofs.YtkmcihhndgdhpaaGreat
section
open Go.RowKit
def Blk (w:World)(g:Nat)(t:TypeId)(cs:Array Value):Prop:=w.heap[g]? = some (.cells cs t (0,0))
section
variable {w w':World} {g:Nat} {t:TypeId} {cs cs':Array Value}
theorem Blk.lt (h:Blk w g t cs):g<w.heap.size:=by
 rcases Nat.lt_or_ge g w.heap.size with hlt | hge
 ·exact hlt
 ·unfold Blk at h;rw[Array.getElem?_eq_none hge]at h;cases h
theorem Blk.cell (h:Blk w g t cs):∀ i,w.cell? ⟨g,i,none⟩=cs[i]? := fun i=>cell_of_row w g i cs t (0,0) h
theorem Blk.frozen (h:Blk w g t cs):∀ i,w.frozen? ⟨g,i,none⟩=false:=by
 intro i
 unfold Blk at h
 simp[World.frozen?,h]
theorem Blk.new (w:World)(t:TypeId)(cs:Array Value):Blk (w.alloc (.cells cs t)) w.heap.size t cs:=heap_alloc_new w _
theorem Blk.newAt {w:World}{g:Nat}{t:TypeId}{cs:Array Value}(h:g=w.heap.size):Blk (w.alloc (.cells cs t)) g t cs:=by subst h;exact Blk.new _ _ _
theorem Blk.drew (h:Blk w g t cs):Blk w.drew g t cs:=h
theorem Blk.drewN (h:Blk w g t cs)(n:Nat):Blk (w.drewN n) g t cs:=h
theorem Blk.alloc (h:Blk w g t cs)(o:Obj):Blk (w.alloc o) g t cs:=(Below.heap_alloc w o g h.lt).trans h
theorem Blk.set_ (h:Blk w g t cs)(i:Nat)(u:Value):Blk (w.setCell ⟨g,i,none⟩ u) g t (cs.setIfInBounds i u):=by
 unfold Blk at h ⊢
 simp[World.setCell,Array.getElem?_modify,h]
theorem Blk.far (h:Blk w g t cs){p:Addr}(hp:g≠p.block)(u:Value):Blk (w.setCell p u) g t cs:=(Below.heap_setCell w p u g hp).trans h
theorem Blk.below {B:Nat}(h:Blk w g t cs)(hb:Below B w w')(hg:g<B):Blk w' g t cs:=(hb.block g hg).trans h
theorem Blk.grown {row:Option Nat}(h:Blk w g t cs)(hb:w.grownBy w' row)(hg:some g≠row):Blk w' g t cs:=(hb.block g h.lt hg).trans h
theorem Blk.cast (h:Blk w g t cs)(e:cs=cs'):Blk w g t cs':=e ▸ h
theorem Blk.inj {t':TypeId}(h:Blk w g t cs)(h':Blk w g t' cs'):t=t'∧cs=cs':=by
 unfold Blk at h h'
 rw[h]at h'
 injection h' with h'
 injection h' with h1 h2
 exact⟨h2,h1⟩
theorem Blk.ne_ {g':Nat}{t':TypeId}(h:Blk w g t cs)(h':Blk w g' t' cs')(hne:t≠t'):g≠g':=by
 rintro rfl
 exact hne (h.inj h').1
end
def typOf:Obj→Option TypeId
 | .cells _ t _=>some t
 | _=>none
structure Chg (B:Nat)(ts:List TypeId)(xs:List Nat)(w w':World):Prop where
 os:w'.os=w.os
 tape:w'.tape=w.tape
 output:w'.output=w.output
 size:w.heap.size≤w'.heap.size
 block:∀ k o,w.heap[k]? = some o→(k<B∨((∀ t,typOf o=some t→t ∉ ts)∧k ∉ xs))→w'.heap[k]? = some o
section
variable {B:Nat} {ts ts':List TypeId} {xs xs':List Nat} {w w1 w2:World}
theorem Chg.refl (B:Nat)(ts:List TypeId)(xs:List Nat)(w:World):Chg B ts xs w w:=⟨rfl,rfl,rfl,Nat.le_refl _,fun _ _ h _=>h⟩
theorem Chg.trans (h:Chg B ts xs w w1)(k:Chg B ts xs w1 w2):Chg B ts xs w w2 :=
 ⟨k.os.trans h.os,k.tape.trans h.tape,k.output.trans h.output,Nat.le_trans h.size k.size,fun i o hi hp=>k.block i o (h.block i o hi hp) hp⟩
theorem Chg.mono (h:Chg B ts xs w w1)(ht:∀ t ∈ ts,t ∈ ts')(hx:∀ x ∈ xs,x ∈ xs'):Chg B ts' xs' w w1 :=
 ⟨h.os,h.tape,h.output,h.size,fun i o hi hp=>h.block i o hi (hp.imp id fun⟨a,b⟩=>⟨fun t e m=>a t e (ht t m),fun m=>b (hx i m)⟩)⟩
theorem Chg.low {B':Nat}(h:Chg B ts xs w w1)(hB:B'≤B):Chg B' ts xs w w1 :=
 ⟨h.os,h.tape,h.output,h.size,fun i o hi hp=>h.block i o hi (hp.imp (fun q=>Nat.lt_of_lt_of_le q hB) id)⟩
theorem Chg.drew (h:Chg B ts xs w w1):Chg B ts xs w w1.drew:=⟨h.os,h.tape,h.output,h.size,h.block⟩
theorem Chg.drewN (h:Chg B ts xs w w1)(n:Nat):Chg B ts xs w (w1.drewN n):=⟨h.os,h.tape,h.output,h.size,h.block⟩
theorem Chg.alloc (h:Chg B ts xs w w1)(o:Obj):Chg B ts xs w (w1.alloc o) :=
 ⟨h.os,h.tape,h.output,Nat.le_trans h.size (by simp),fun i o' hi hp=>by
  have h1:=h.block i o' hi hp
  rw[Below.heap_alloc _ _ _ (lt_of_block h1)];exact h1⟩
theorem Chg.setX (h:Chg B ts xs w w1){p:Addr}(hB:B≤p.block)(hx:p.block ∈ xs)(u:Value):Chg B ts xs w (w1.setCell p u) :=
 ⟨h.os,h.tape,h.output,by simpa [World.setCell] using h.size,fun i o hi hp=>by
  rw[Below.heap_setCell _ _ _ _ (by
   rintro rfl
   rcases hp with hp | ⟨_,hp⟩
   ·omega
   ·exact hp hx)]
  exact h.block i o hi hp⟩
theorem Chg.setNew (h:Chg B ts xs w w1){p:Addr}(hn:w.heap.size≤p.block)(u:Value):Chg B ts xs w (w1.setCell p u) :=
 ⟨h.os,h.tape,h.output,by simpa [World.setCell] using h.size,fun i o hi hp=>by
  rw[Below.heap_setCell _ _ _ _ (by
   rintro rfl
   have:=lt_of_block hi
   omega)]
  exact h.block i o hi hp⟩
theorem Chg.setT (h:Chg B ts xs w w1){p:Addr}{t:TypeId}{cs:Array Value}(hb:Blk w1 p.block t cs)(hB:B≤p.block)(ht:t ∈ ts)(u:Value):Chg B ts xs w (w1.setCell p u) :=
 ⟨h.os,h.tape,h.output,by simpa [World.setCell] using h.size,fun i o hi hp=>by
  rw[Below.heap_setCell _ _ _ _ (by
   rintro rfl
   rcases hp with hp | ⟨hp,hq⟩
   ·omega
   ·have h1:=h.block _ o hi (.inr ⟨hp,hq⟩)
    unfold Blk at hb
    rw[hb]at h1
    injection h1 with h1
    exact hp t (by rw[← h1];rfl) ht)]
  exact h.block i o hi hp⟩
theorem Chg.grown {row:Option Nat}(h:Chg B ts xs w w1)(hg:w1.grownBy w2 row)
  (hr:∀ k,row=some k→w.heap.size≤k∨(B≤k∧(k ∈ xs∨∃ t cs,Blk w1 k t cs∧t ∈ ts))):Chg B ts xs w w2 :=
 ⟨hg.os.trans h.os,hg.tape.trans h.tape,hg.output.trans h.output,Nat.le_trans h.size hg.size,fun i o hi hp=>by
  have h1:=h.block i o hi hp
  rw[hg.block i (lt_of_block h1) (by
   intro e
   rcases hr i e.symm with hk | ⟨hB,hk | ⟨t,cs,hb,ht⟩⟩
   ·have:=lt_of_block hi
    omega
   ·rcases hp with hp | ⟨_,hp⟩
    ·omega
    ·exact hp hk
   ·rcases hp with hp | ⟨hp,_⟩
    ·omega
    ·unfold Blk at hb
     rw[hb]at h1
     injection h1 with h1
     exact hp t (by rw[← h1];rfl) ht)]
  exact h1⟩
theorem Chg.below (h:Chg B ts xs w w1)(hB:B≤w.heap.size):Below B w w1 :=
 ⟨h.os,h.tape,h.output,h.size,fun k hk=>by
  have hlt:k<w.heap.size:=Nat.lt_of_lt_of_le hk hB
  have e:w.heap[k]? = some w.heap[k]:=Array.getElem?_eq_getElem hlt
  rw[e]
  exact h.block k _ e (.inl hk)⟩
theorem Chg.of_below (h:Below B w w1)(hB:w.heap.size≤B)(B':Nat)(ts:List TypeId)(xs:List Nat):Chg B' ts xs w w1 :=
 ⟨h.os,h.tape,h.output,h.size,fun i _ hi _=>(h.block i (Nat.lt_of_lt_of_le (lt_of_block hi) hB)).trans hi⟩
theorem Blk.chg {g:Nat}{t:TypeId}{cs:Array Value}(hb:Blk w g t cs)(h:Chg B ts xs w w1)(ht:t ∉ ts)(hx:g ∉ xs):Blk w1 g t cs :=
 h.block g _ hb (.inr ⟨fun t' e=>by
  injection e with e
  exact e ▸ ht,hx⟩)
theorem zcs {base:Nat}{e:TypeId}{size:Nat}{v:Value}{n:Nat}{ys:List Value}(h:w.ownsRow base e size v n ys)(hc:Chg B ts xs w w1)
  (ht:e ∉ ts) (hx:∀ k,v.ownBlock=some k→k ∉ xs):w1.ownsRow base e size v n ys:=by
 obtain⟨h1,h2⟩:=h
 refine⟨h1,?_⟩
 rcases h2 with h2 | ⟨g,cap,cur,hv,hg,hh,r⟩
 ·exact .inl h2
 ·subst hv
  exact .inr ⟨g,cap,cur,rfl,hg,hc.block g _ hh (.inr ⟨fun t' e'=>by
   injection e' with e'
   exact e' ▸ ht,hx g rfl⟩),r⟩
end
theorem zdr {a b:Bool}(h:a=b):Ending.returned (.bool a)=.returned (.bool b):=by rw[h]
theorem zpl {k:IntKind}{a b:Int}(h:a=b):Ending.returned (.int k a)=.returned (.int k b):=by rw[h]
def Here (p:Prop):Prop:=p
theorem zg8 {p:Prop}(h:Here p):p:=h
theorem zg2 {p:Prop}(h:p):Here p:=h
theorem zbi {P:Program}{c:Code}{Q:Exit→Act→World→Prop}{a:Act}{w:World}(X:World→Prop)(hx:X w)(h:∀ w1,X w1→c.wp P Q a w1):c.wp P Q a w:=h w hx
theorem zra {P:Program}{ops:Array Oper}{l:List Oper}{Q:Exit→Act→World→Prop}{a:Act}{w:World}(X:World→Prop)(hx:X w)(h:∀ w1,X w1→wpList P ops Q l a w1):wpList P ops Q l a w:=h w hx
theorem zch {P:Program}{f:FuncId}{args:Array Value}{w:World}{n:Nat}{v:Value}
  (h:Calls P f args (w.drewN n) fun e w'=>e=.returned v∧w.drewN n=w'):Calls P f args (w.drewN n) fun e w''=>e=.returned v∧∃ m,w''=w.drewN m :=
 h.mono fun _ _ ⟨he,hm⟩=>⟨he,n,hm.symm⟩
theorem zc8 {P:Program}{f:FuncId}{args:Array Value}{w:World}{a n:Nat}{v:Value}
  (h:Calls P f args (w.drewN (a+n)) fun e w'=>e=.returned v∧w.drewN (a+n)=w') :
  Calls P f args (w.drewN (a+n)) fun e w''=>e=.returned v∧∃ m,w''=w.drewN (a+m) :=
 h.mono fun _ _ ⟨he,hm⟩=>⟨he,n,hm.symm⟩
structure Flt where
 e:Nat
 at_:Nat
 deriving DecidableEq,Repr
def za1 (w:World)(b:Nat)(f:Flt):Prop:=Blk w b 323 #[.int .i64 f.e,.int .i64 f.at_]
theorem za1.new {w:World}{b k p:Nat}(h:b=w.heap.size):za1 (w.alloc (.cells #[.int .i64 k,.int .i64 p] 323)) b ⟨k,p⟩:=by
 subst h;exact Blk.new _ _ _
def zfm (b:Nat):List PanicEntry:=[{ v:=.iface 206 (.pointer (some ⟨b,0,none⟩)),recovered:=false }]
def Post {α : Type}(B:Nat)(ts:List TypeId)(xs:List Nat)(w:World)(r:Except Flt α)(K:α → Value→World→Prop)(e:Ending)(w':World):Prop :=
 (∃ a v,r=.ok a∧e=.returned v∧K a v w'∧Chg B ts xs w w') ∨
 (∃ f b,r=.error f∧e=.panicked (zfm b)∧za1 w' b f∧w.heap.size≤b∧Chg B ts xs w w')
theorem zH {p:Prop}(h:p):Go.RowKit.Hid p:=h
theorem pA (a:Act)(k:Nat)(v:Value):a.put (some k) v={ a with tmps:=a.tmps.setIfInBounds k v }:=rfl
theorem pB (a:Act)(v:Value):a.put none v=a:=rfl
theorem pC {α : Type}(l:List α)(i:Nat)(x:α):l.toArray.setIfInBounds i x=(l.set i x).toArray:=List.setIfInBounds_toArray ..
theorem pD {α : Type}(a b:α)(l:List α):(a::l).set 0 b=b::l:=List.set_cons_zero ..
theorem pE {α : Type}(a b:α)(l:List α)(n:Nat):(a::l).set (n+1) b=a::l.set n b:=List.set_cons_succ ..
section
variable {P:Program} {md:Region.Mode} {ops:Array Oper} {Q:Exit→Act→World→Prop} {S:World→Prop} {fuel i:Nat} {listed:Array Bool} {a a':Act} {w:World} {oi:Oper} {v:Value}
def nxO (ops:Array Oper)(listed:Array Bool):Nat→Nat→Option (Nat×Oper)
 | 0,_=>none
 | n+1,k=>if listed.getD k true then nxO ops listed n (k+1)else match ops[k]? with | some o=>some (k,o) | none=>none
theorem zmi:∀ {n k:Nat},nxO ops listed n k=some (i,oi)→ops[i]? = some oi
 | 0,_,h=>by cases h
 | n+1,k,h=>by
  unfold nxO at h
  split at h
  ·exact zmi h
  ·split at h
   ·rename_i o ho
    injection h with h
    injection h with h1 h2
    subst h1 h2
    exact ho
   ·cases h
theorem tk (k:Nat)(hi:nxO ops listed 100 k=some (i,oi))(hb:(Region.noSelect ops&&Region.free md ops listed i&&(Region.ready md ops listed).contains i&&Region.wanted oi (yielded ops a.tmps))=true)
  (hQ:∀ c a w,Q (.panic c) (a.put oi.dst v) w→Q (.panic c) a w) (hS:S w) (hy:∀ w,S w→(execOp a.eval oi).run P w=.ok (.value v) w)
  (ha:a.put oi.dst v=a') (h:wpAnyH P md ops Q S fuel (listed.setIfInBounds i true) a' w):wpAnyH P md ops Q S (fuel+1) listed a w:=by
 simp only[Bool.and_eq_true]at hb
 exact wpAnyH_take (zmi hi) hb.1.1.1 hb.1.1.2 hb.1.2 hQ (.inl ⟨hb.2,hy⟩) hS (ha ▸ h)
theorem sk (k:Nat)(hi:nxO ops listed 100 k=some (i,oi))(hb:(Region.noSelect ops&&Region.free md ops listed i&&(Region.ready md ops listed).contains i && !Region.wanted oi (yielded ops a.tmps))=true)
  (hQ:∀ c a w,Q (.panic c) (a.put oi.dst undef) w→Q (.panic c) a w) (hS:S w)
  (ha:a.put oi.dst undef=a') (h:wpAnyH P md ops Q S fuel (listed.setIfInBounds i true) a' w):wpAnyH P md ops Q S (fuel+1) listed a w:=by
 simp only[Bool.and_eq_true,Bool.not_eq_true']at hb
 exact wpAnyH_take (zmi hi) hb.1.1.1 hb.1.1.2 hb.1.2 hQ (.inr ⟨hb.2,rfl⟩) hS (ha ▸ h)
end
end
section
open Go.RowKit Go.Maps Go.ChangeMaps
structure zfl (P:Program)(k:TypeId){κ : Type}(enc:κ → Value)(ok:κ → Prop):Prop where
 keyed:Maps.Keyed P k
 reads:∀ x,ok x→∃ l,keyOf P k (enc x)=some l
 inj:∀ x y,enc x=enc y→x=y
section
variable {κ ν : Type} [DecidableEq κ]
def mget:List (κ × ν)→κ → Option ν
 | [],_=>none
 | p::r,x=>if p.1=x then some p.2 else mget r x
def mput:List (κ × ν)→κ → ν → List (κ × ν)
 | [],x,v=>[(x,v)]
 | p::r,x,v=>if p.1=x then(x,v)::r else p::mput r x v
def mdel (m:List (κ × ν))(x:κ):List (κ × ν):=m.filter fun p=>!decide (p.1=x)
theorem zlj {m:List (κ × ν)}{x:κ}:mget m x=none↔∀ p ∈ m,p.1≠x:=by
 induction m with
 | nil=>simp[mget]
 | cons p r ih =>
  unfold mget
  by_cases h:p.1=x
  ·simp[h]
  ·rw[if_neg h,ih];simp[h]
theorem zfi {m:List (κ × ν)}{x:κ}{v:ν}(h:mget m x=some v):(x,v) ∈ m:=by
 induction m with
 | nil=>simp[mget]at h
 | cons p r ih =>
  unfold mget at h
  by_cases h':p.1=x
  ·rw[if_pos h']at h
   injection h with h
   subst h' h
   simp
  ·rw[if_neg h']at h
   exact List.mem_cons_of_mem _ (ih h)
theorem zhl {m:List (κ × ν)}{x:κ}{v:ν}(hn:(m.map Prod.fst).Nodup)(h:(x,v) ∈ m):mget m x=some v:=by
 induction m with
 | nil=>simp at h
 | cons p r ih =>
  simp only[List.map_cons,List.nodup_cons]at hn
  unfold mget
  rcases List.mem_cons.1 h with h | h
  ·subst h;simp
  ·rw[if_neg,ih hn.2 h]
   intro e
   exact hn.1 (e ▸ List.mem_map.2 ⟨_,h,rfl⟩)
theorem zh1 (m:List (κ × ν))(x y:κ)(v:ν):mget (mput m x v) y=if x=y then some v else mget m y:=by
 induction m with
 | nil=>simp[mput,mget]
 | cons p r ih =>
  unfold mput
  by_cases h:p.1=x
  ·rw[if_pos h]
   subst h
   by_cases h2:p.1=y <;> simp[mget,h2]
  ·rw[if_neg h]
   by_cases h2:p.1=y
   ·subst h2
    simp[mget,Ne.symm h]
   ·simp only[mget,if_neg h2,ih]
theorem zg6 {m:List (κ × ν)}{x:κ}{v:ν}{p:κ × ν}(h:p ∈ mput m x v):p=(x,v)∨p ∈ m:=by
 induction m with
 | nil=>simpa [mput] using h
 | cons q r ih =>
  unfold mput at h
  by_cases h':q.1=x
  ·rw[if_pos h']at h
   rcases List.mem_cons.1 h with h | h
   ·exact .inl h
   ·exact .inr (List.mem_cons_of_mem _ h)
  ·rw[if_neg h']at h
   rcases List.mem_cons.1 h with h | h
   ·exact .inr (by simp[h])
   ·exact(ih h).imp id (List.mem_cons_of_mem _)
theorem zt8 (m:List (κ × ν))(x:κ)(v:ν):(mput m x v).map Prod.fst=if x ∈ m.map Prod.fst then m.map Prod.fst else m.map Prod.fst++[x]:=by
 induction m with
 | nil=>simp[mput]
 | cons p r ih =>
  unfold mput
  by_cases h:p.1=x
  ·rw[if_pos h];simp[h]
  ·rw[if_neg h,List.map_cons,ih]
   by_cases h2:x ∈ r.map Prod.fst
   ·rw[if_pos h2,if_pos (by simp[h2])];rfl
   ·rw[if_neg h2,if_neg (by simp only[List.map_cons,List.mem_cons,not_or];exact⟨fun e=>h e.symm,h2⟩)]
    rfl
theorem zl8 {m:List (κ × ν)}(h:(m.map Prod.fst).Nodup)(x:κ)(v:ν):((mput m x v).map Prod.fst).Nodup:=by
 rw[zt8]
 split
 ·exact h
 ·rename_i h2
  rw[List.nodup_append]
  refine⟨h,by simp,fun a ha b hb e=>?_⟩
  simp at hb
  subst hb e
  exact h2 ha
theorem zma (m:List (κ × ν))(x:κ)(v:ν):(mput m x v).length=if mget m x=none then m.length+1 else m.length:=by
 induction m with
 | nil=>simp[mput,mget]
 | cons p r ih =>
  unfold mput mget
  by_cases h:p.1=x
  ·simp[h]
  ·simp only[if_neg h,List.length_cons,ih]
   split <;> rfl
theorem mput_set (m:List (κ × ν))(x:κ)(v:ν):∀ (j:Nat) (u:ν),m[j]? = some (x,u)→(m.map Prod.fst).Nodup→mput m x v=m.set j (x,v):=by
 induction m with
 | nil=>intro j u h;simp at h
 | cons p r ih =>
  intro j u h hn
  simp only[List.map_cons,List.nodup_cons]at hn
  cases j with
  | zero =>
   simp at h
   subst h
   simp[mput]
  | succ j =>
   have h':r[j]? = some (x,u):=by simpa using h
   have hne:p.1≠x:=fun e=>hn.1 (e ▸ List.mem_map.2 ⟨_,List.mem_of_getElem? h',rfl⟩)
   simp only[mput,if_neg hne,List.set_cons_succ,ih j u h' hn.2]
theorem zop (m:List (κ × ν))(x:κ)(v:ν)(h:∀ p ∈ m,p.1≠x):mput m x v=m++[(x,v)]:=by
 induction m with
 | nil=>simp[mput]
 | cons p r ih =>
  simp only[mput,if_neg (h p (by simp)),ih (fun q hq=>h q (List.mem_cons_of_mem _ hq)),List.cons_append]
end
def zaf (w:World)(b:Nat){κ ν : Type}(enc:κ → Value)(ok:κ → Prop)(encv:ν → Value)(m:List (κ × ν)):Prop :=
 ∃ es clock,w.heap[b]? = some (.map es clock)∧es.toList.map (fun e=>(e.key,e.val))=m.map (fun p=>(enc p.1,encv p.2)) ∧
  (m.map Prod.fst).Nodup∧(∀ p ∈ m,ok p.1)∧(∀ e ∈ es.toList,e.born<clock)∧(es.toList.map (·.born)).Nodup
def za6 (w:World)(b r:Nat){κ ν : Type}(enc:κ → Value)(ok:κ → Prop)(encv:ν → Value)(m left:List (κ × ν)):Prop :=
 ∃ es clock seen,w.heap[b]? = some (.map es clock)∧w.heap[r]? = some (.mapIter (some b) clock seen clock) ∧
  es.toList.map (fun e=>(e.key,e.val))=m.map (fun p=>(enc p.1,encv p.2)) ∧
  (m.map Prod.fst).Nodup∧(∀ p ∈ m,ok p.1)∧(∀ e ∈ es.toList,e.born<clock)∧(es.toList.map (·.born)).Nodup ∧
  (es.toList.filter (fun e=>!seen.contains e.born)).map (fun e=>(e.key,e.val))=left.map (fun p=>(enc p.1,encv p.2))∧(∀ p ∈ left,p ∈ m)∧(left.map Prod.fst).Nodup
section
variable {P:Program} {k e t:TypeId} {κ ν : Type} {enc:κ → Value} {ok:κ → Prop} {encv:ν → Value} {w w':World} {b:Nat} {m:List (κ × ν)}
theorem zaf.lt (h:zaf w b enc ok encv m):b<w.heap.size:=by
 obtain⟨es,clock,hb,_⟩:=h
 exact lt_of_block hb
theorem zaf.of_block (h:zaf w b enc ok encv m)(hb:w'.heap[b]? = w.heap[b]?):zaf w' b enc ok encv m:=by
 obtain⟨es,clock,h1,h2⟩:=h
 exact⟨es,clock,hb.trans h1,h2⟩
theorem zaf.drew (h:zaf w b enc ok encv m):zaf w.drew b enc ok encv m:=h
theorem zaf.drewN (h:zaf w b enc ok encv m)(n:Nat):zaf (w.drewN n) b enc ok encv m:=h
theorem zaf.alloc (h:zaf w b enc ok encv m)(o:Obj):zaf (w.alloc o) b enc ok encv m:=h.of_block (Below.heap_alloc w o b h.lt)
theorem zaf.far (h:zaf w b enc ok encv m){p:Addr}(hp:b≠p.block)(u:Value):zaf (w.setCell p u) b enc ok encv m:=h.of_block (Below.heap_setCell w p u b hp)
theorem zaf.cellFar (h:zaf w b enc ok encv m){g:Nat}{t:TypeId}{cs:Array Value}(hg:Blk w g t cs):b≠g:=by
 rintro rfl
 obtain⟨es,clock,h1,_⟩:=h
 unfold Blk at hg
 rw[h1]at hg
 cases hg
theorem zaf.chg {B:Nat}{ts:List TypeId}{xs:List Nat}(h:zaf w b enc ok encv m)(hc:Chg B ts xs w w')(hx:b ∉ xs):zaf w' b enc ok encv m:=by
 obtain⟨es,clock,h1,h2⟩:=h
 exact⟨es,clock,hc.block b _ h1 (.inr ⟨fun t e=>(by cases e),hx⟩),h2⟩
theorem zaf.made (w:World)(enc:κ → Value)(ok:κ → Prop)(encv:ν → Value):zaf (w.alloc (.map #[] 0)) w.heap.size enc ok encv [] :=
 ⟨#[],0,heap_alloc_new w _,by simp,by simp,by simp,by simp,by simp⟩
theorem zmj (K:zfl P k enc ok)(w:World){es:List MapEntry}(he:es.map (fun e=>(e.key,e.val))=m.map (fun p=>(enc p.1,encv p.2)))(hok:∀ p ∈ m,ok p.1){x:κ}(hx:ok x) :
  (((Instr.findKey k (enc x) es).run P w=.ok none w∧∀ p ∈ m,p.1≠x)∨∃ j u,(Instr.findKey k (enc x) es).run P w=.ok (some (j,encv u)) w∧m[j]? = some (x,u)∧∃ y,es[j]? = some y∧y.key=enc x):=by
 obtain⟨l,hl⟩:=K.reads x hx
 have hall:∀ y ∈ es,∃ l,keyOf P k y.key=some l:=by
  intro y hy
  have:(y.key,y.val) ∈ m.map (fun p=>(enc p.1,encv p.2)):=he ▸ List.mem_map.2 ⟨y,hy,rfl⟩
  obtain⟨p,hp,hpe⟩:=List.mem_map.1 this
  injection hpe with h1 h2
  rw[← h1]
  exact K.reads _ (hok p hp)
 rcases K.keyed.find w hl es hall with⟨h1,h2⟩ | ⟨j,y,h1,h2,h3⟩
 ·refine .inl ⟨h1,fun p hp hpx=>?_⟩
  have:(enc p.1,encv p.2) ∈ es.map (fun e=>(e.key,e.val)):=he ▸ List.mem_map.2 ⟨p,hp,rfl⟩
  obtain⟨y,hy,hye⟩:=List.mem_map.1 this
  injection hye with h4 h5
  exact h2 y hy (by rw[h4,hpx])
 ·have h4:(es.map (fun e=>(e.key,e.val)))[j]? = some (y.key,y.val):=by simp[h2]
  rw[he]at h4
  simp only[List.getElem?_map,Option.map_eq_some_iff]at h4
  obtain⟨p,hp,hpe⟩:=h4
  injection hpe with h5 h6
  have hpx:p.1=x:=K.inj _ _ (h5.trans h3)
  obtain⟨p1,p2⟩:=p
  simp only at hpx h6
  subst hpx
  exact .inr ⟨j,p2,by rw[h6];exact h1,hp,y,h2,h3⟩
theorem zaf.len (h:zaf w b enc ok encv m)(ht:P.underlying t=some (.map k e))(ty:TypeId) :
  (Builtin.len_ #[t] ty #[.map (some b)]).run P w=.ok (.int .i64 (m.length:Int)) w:=by
 obtain⟨es,clock,hb,he,_⟩:=h
 have:es.size=m.length:=by simpa using congrArg List.length he
 simp[Builtin.len_,run_underlying ht,MapKept.run_getObj_map hb,Result.andThen,goInt,this]
variable [DecidableEq κ]
theorem zaf.lookup (h:zaf w b enc ok encv m)(K:zfl P k enc ok)(ht:P.underlying t=some (.map k e)){z:Value}(hz:(zeroValue e).run P w=.ok z w){x:κ}(hx:ok x)(c:Bool) :
  (Instr.lookup t (.map (some b)) (enc x) c).run P w=.ok (match mget m x with | some u=>(if c then .tuple #[encv u,.bool true]else encv u) | none=>(if c then .tuple #[z,.bool false]else z)) w:=by
 obtain⟨es,clock,hb,he,hn,hok,hs1,hs2⟩:=h
 obtain⟨l,hl⟩:=K.reads x hx
 rcases zmj K w he hok hx with⟨h1,h2⟩ | ⟨j,u,h1,h2,_⟩
 ·rw[zlj.2 h2]
  cases c <;> simp[Instr.lookup,run_underlying ht,MapKept.run_getObj_map hb,K.keyed.check w _ hl,h1,hz,Result.andThen]
 ·rw[zhl hn (List.mem_of_getElem? h2)]
  cases c <;> simp[Instr.lookup,run_underlying ht,MapKept.run_getObj_map hb,K.keyed.check w _ hl,h1,Result.andThen]
theorem zaf.update (h:zaf w b enc ok encv m)(K:zfl P k enc ok)(ht:P.underlying t=some (.map k e)){x:κ}(hx:ok x)(u:ν) :
  ∃ w',(Instr.mapUpdate t (.map (some b)) (enc x) (encv u)).run P w=.ok () w'∧zaf w' b enc ok encv (mput m x u)∧w.grownBy w' (some b)∧w'.heap.size=w.heap.size:=by
 obtain⟨es,clock,hb,he,hn,hok,hs1,hs2⟩:=h
 obtain⟨l,hl⟩:=K.reads x hx
 have hlt:=lt_of_block hb
 have hgr:∀ o,w.grownBy (setBlock w b o) (some b):=fun o =>
  ⟨rfl,rfl,rfl,by simp[setBlock],fun i _ hi=>by
   simp only[setBlock]
   rw[Array.getElem?_setIfInBounds_ne (by intro e;exact hi (by rw[e]))]⟩
 have hat:∀ o,(setBlock w b o).heap[b]? = some o:=fun o=>by simp[setBlock,hlt]
 have hok':∀ p ∈ mput m x u,ok p.1:=by
  intro p hp
  rcases zg6 hp with rfl | hp
  ·exact hx
  ·exact hok p hp
 rcases zmj K w he hok hx with⟨h1,h2⟩ | ⟨j,v,h1,h2,y,h3,h4⟩
 ·refine⟨setBlock w b (.map (es.push { key:=enc x,val:=encv u,born:=clock }) (clock+1)),?_,⟨_,_,hat _,?_,zl8 hn x u,hok',?_,?_⟩,hgr _,by simp[setBlock]⟩
  ·simp[Instr.mapUpdate,run_underlying ht,MapKept.run_getObj_map hb,K.keyed.check w _ hl,h1,MapKept.run_setObj_map _ hb,Result.andThen,setBlock]
  ·rw[zop m x u h2]
   simp[he]
  ·intro y hy
   simp at hy
   rcases hy with hy | rfl
   ·have:=hs1 y (by simpa using hy)
    omega
   ·simp
  ·simp only[Array.toList_push,List.map_append,List.map_cons,List.map_nil]
   rw[List.nodup_append]
   refine⟨hs2,by simp,fun a ha c hc e=>?_⟩
   simp at hc
   subst hc e
   obtain⟨y,hy,hye⟩:=List.mem_map.1 ha
   have:=hs1 y hy
   omega
 ·have hjl:j<es.size:=by
   have:=(List.getElem?_eq_some_iff.1 h3).1
   simpa using this
  have hyj:es[j]? = some y:=by simpa using h3
  refine⟨setBlock w b (.map (es.modify j fun e=>{ e with key:=enc x,val:=encv u }) clock),?_,⟨_,_,hat _,?_,zl8 hn x u,hok',?_,?_⟩,hgr _,by simp[setBlock]⟩
  ·simp[Instr.mapUpdate,run_underlying ht,MapKept.run_getObj_map hb,K.keyed.check w _ hl,h1,hyj,h4,K.keyed.stays w hl,MapKept.run_setObj_map _ hb,Result.andThen,setBlock]
  ·rw[mput_set m x u j v h2 hn]
   rw[List.map_set,← he]
   apply List.ext_getElem?
   intro i
   simp only[List.getElem?_map,Array.getElem?_toList,Array.getElem?_modify,List.getElem?_set,List.length_map,Array.length_toList]
   by_cases hij:j=i
   ·subst hij
    simp[hjl]
   ·simp[hij]
  ·intro z hz
   obtain⟨i,hi⟩:=List.mem_iff_getElem?.1 hz
   simp only[Array.getElem?_toList,Array.getElem?_modify]at hi
   by_cases hij:j=i
   ·subst hij
    simp[hyj]at hi
    subst hi
    exact hs1 y (List.mem_of_getElem? h3)
   ·simp[hij]at hi
    exact hs1 z (List.mem_of_getElem? (by simpa using hi))
  ·have:(es.modify j fun e=>{ e with key:=enc x,val:=encv u }).toList.map (·.born)=es.toList.map (·.born):=by
    apply List.ext_getElem?
    intro i
    simp only[List.getElem?_map,Array.getElem?_toList,Array.getElem?_modify]
    by_cases hij:j=i
    ·subst hij;simp[hyj]
    ·simp[hij]
   rw[this];exact hs2
end
theorem strKey {P:Program}{k:TypeId}(hk:P.underlying k=some .string):zfl P k (fun s:ByteArray=>Value.string s) (fun s=>s.size≤maxLen) where
 keyed:=string_keyed hk
 reads:=fun s hs=>⟨.string s.data.toList,by simp[keyOf,hk,mapKey,hs]⟩
 inj:=fun _ _ h=>by injection h
theorem zxr {P:Program}{κ ν : Type} [DecidableEq κ] {enc:κ → Value} {ok:κ → Prop} {encv:ν → Value} {ops:Array Oper} {rest:List Oper} {o:Oper} {a:Act} {Q:Exit→Act→World→Prop}
  (hg:o.guard=none) (m x v:Operand) (t k e:TypeId) (hop:o.op=Op.insert t m x v) (K:zfl P k enc ok) (ht:P.underlying t=some (.map k e))
  (b:Nat) (key:κ) (u:ν) (w:World) (l:List (κ × ν)) (hl:zaf w b enc ok encv l)
  (hm:a.eval m=.map (some b)) (hx:a.eval x=enc key) (hv:a.eval v=encv u) (hok:ok key)
  (h:∀ w',zaf w' b enc ok encv (mput l key u)→w.grownBy w' (some b)→w'.heap.size=w.heap.size→wpList P ops Q rest (a.put o.dst undef) w'):wpList P ops Q (o::rest) a w:=by
 refine wpList_plain hg fun K' hK'=>?_
 obtain⟨w',hrun,r1,r2,r3⟩:=hl.update K ht hok u
 unfold Oper.wp
 simp[execOp,hop,hm,hx,hv,hrun,Result.andThen]
 exact hK' _ _ (h w' r1 r2 r3)
theorem zue {P:Program}{κ ν : Type} [DecidableEq κ] {enc:κ → Value} {ok:κ → Prop} {encv:ν → Value} {ops:Array Oper} {rest:List Oper} {o:Oper} {a:Act} {Q:Exit→Act→World→Prop}
  (hg:o.guard=none) (m x v:Operand) (t k e:TypeId) (hop:o.op=Op.mapUpdate t m x v) (K:zfl P k enc ok) (ht:P.underlying t=some (.map k e))
  (b:Nat) (key:κ) (u:ν) (w:World) (l:List (κ × ν)) (hl:zaf w b enc ok encv l)
  (hm:a.eval m=.map (some b)) (hx:a.eval x=enc key) (hv:a.eval v=encv u) (hok:ok key)
  (h:∀ w',zaf w' b enc ok encv (mput l key u)→w.grownBy w' (some b)→w'.heap.size=w.heap.size→wpList P ops Q rest (a.put o.dst undef) w'):wpList P ops Q (o::rest) a w:=by
 refine wpList_plain hg fun K' hK'=>?_
 obtain⟨w',hrun,r1,r2,r3⟩:=hl.update K ht hok u
 unfold Oper.wp
 simp[execOp,hop,hm,hx,hv,hrun,Result.andThen]
 exact hK' _ _ (h w' r1 r2 r3)
end
section
open Go.RowKit Go.Maps Go.ChangeMaps
structure Nd where
 k:Nat
 a:Nat
 b:Int
 deriving DecidableEq,Repr
abbrev ndV (n:Nd):Value:=.agg #[.int .u8 n.k,.int .i64 n.a,.int .i64 n.b]
def NdOk (n:Nd):Prop:=n.k<256∧n.a<1000000∧-1000000<n.b∧n.b<1000000
theorem laidOut:laidOutB Tryz.prog=true:=by kernel_rfl
theorem ndRow:(419:TypeId)<Tryz.prog.types.size:=of_decide_eq_true (by kernel_rfl)
theorem ndLaw:WideMaps.KeyLaw Tryz.prog 419:=deep_law_laid laidOut (m:=2) (by omega) ndRow (by kernel_rfl) (by rw[Tryz.underlying419])
theorem zst:Tryz.prog.cellsOf 419=3:=by kernel_rfl
theorem wf_u8 {n:Nat}(h:n<256):(Lit.int .u8 (n:Int)).wf=true:=by
 simp[Lit.wf,IntKind.min,IntKind.max,IntKind.bits,IntKind.signed];omega
theorem wf_i64 {n:Int}(h:-1000000<n∧n<1000000):(Lit.int .i64 n).wf=true:=by
 simp[Lit.wf,IntKind.min,IntKind.max,IntKind.bits,IntKind.signed];omega
theorem ndKeys (s:Nat)(n:Nd)(h:NdOk n)(hs:0<s):∃ l,Tryz.prog.keyLits (s+1) 419 (ndV n).cells.toList=some l:=by
 obtain⟨d,rfl⟩:∃ d,s=d+1:=⟨s-1,by omega⟩
 obtain⟨h1,h2,h3,h4⟩:=h
 have w1:=wf_u8 h1
 have w2:(Lit.int .i64 (n.a:Int)).wf=true:=wf_i64 (by omega)
 have w3:(Lit.int .i64 n.b).wf=true:=wf_i64 (by omega)
 have c1:Tryz.prog.cellsOf 5=1:=by kernel_rfl
 have c2:Tryz.prog.cellsOf 3=1:=by kernel_rfl
 have u1:Tryz.prog.underlying 5=some (.int .u8):=by kernel_rfl
 have u2:Tryz.prog.underlying 3=some (.int .i64):=by kernel_rfl
 simp[Program.keyLits,Value.cells,Tryz.underlying419,zst,c1,c2,u1,u2,w1,w2,w3]
theorem ze5:zfl Tryz.prog 419 ndV NdOk where
 keyed:=Keyed.of_law ndLaw
 reads:=fun n h=>by
  obtain⟨l,hl⟩:=ndKeys Tryz.prog.types.size n h (Nat.lt_of_le_of_lt (Nat.zero_le _) ndRow)
  have h2:Tryz.prog.keyType 419=true:=by kernel_rfl
  have h3:(ndV n).formed Tryz.prog 419=true:=by simp[Value.formed,Tryz.underlying419,zst]
  exact⟨_,by unfold keyOf;rw[Tryz.underlying419];simp only[h2,h3,Bool.and_true,if_true,hl,Option.map_some];rfl⟩
 inj:=fun x y h=>by
  obtain⟨k,a,b⟩:=x
  obtain⟨k',a',b'⟩:=y
  simp only[ndV]at h
  injection h with h
  simp at h
  obtain⟨h1,h2,h3⟩:=h
  rw[show k=k' by omega,show a=a' by omega,h3]
end
section
open Go.RowKit
def zjf:Obj→Bool
 | .loop _=>true
 | .deferred _=>true
 | _=>false
structure Recs (B:Nat)(W W':World):Prop where
 os:W'.os=W.os
 tape:W'.tape=W.tape
 output:W'.output=W.output
 size:W.heap.size≤W'.heap.size
 low:∀ k,k<B→W'.heap[k]? = W.heap[k]?
 same:∀ (k:Nat) (o:Obj),W.heap[k]? = some o→zjf o=false→W'.heap[k]? = some o
structure zan (W W':World):Prop where
 size:W.heap.size≤W'.heap.size
 same:∀ (k:Nat) (o:Obj),W.heap[k]? = some o→zjf o=true→W'.heap[k]? = some o
theorem zan.refl (W:World):zan W W:=⟨Nat.le_refl _,fun _ _ h _=>h⟩
theorem zan.trans {a b c:World}(h:zan a b)(k:zan b c):zan a c:=⟨Nat.le_trans h.size k.size,fun i o hi ho=>k.same i o (h.same i o hi ho) ho⟩
theorem zan.drew {a b:World}(h:zan a b):zan a b.drew:=⟨h.size,h.same⟩
theorem zan.drewN {a b:World}(h:zan a b)(n:Nat):zan a (b.drewN n):=⟨h.size,h.same⟩
theorem zan.alloc {a b:World}(h:zan a b)(o:Obj):zan a (b.alloc o) :=
 ⟨Nat.le_trans h.size (by simp),fun i p hi hp=>(Below.heap_alloc b o i (Array.getElem?_eq_some_iff.1 (h.same i p hi hp)).1).trans (h.same i p hi hp)⟩
theorem zan.of_below {w w':World}(h:Below w.heap.size w w'):zan w w':=⟨h.size,fun k _ hk _=>(h.block k (Array.getElem?_eq_some_iff.1 hk).1).trans hk⟩
theorem zan.of_grown {w w':World}{row:Option Nat}(h:w.grownBy w' row)(hr:∀ k o,row=some k→w.heap[k]? = some o→zjf o=false):zan w w' :=
 ⟨h.size,fun k o hk ho=>(h.block k (Array.getElem?_eq_some_iff.1 hk).1 (fun e=>by rw[hr k o e.symm hk]at ho;cases ho)).trans hk⟩
theorem zan.setCell {a b:World}(h:zan a b){p:Addr}{t:TypeId}{cs:Array Value}(hb:Blk b p.block t cs)(u:Value):zan a (b.setCell p u) :=
 ⟨Nat.le_trans h.size (by simp),fun i o hi ho=>by
  have h1:=h.same i o hi ho
  refine(Below.heap_setCell b p u i (fun e=>?_)).trans h1
  subst e
  rw[show b.heap[p.block]? = _ from hb]at h1
  injection h1 with h1
  subst h1
  cases ho⟩
theorem Recs.putObj {W:World}{B l:Nat}{o o':Obj}(hB:B≤l)(h:W.heap[l]? = some o)(ho:zjf o=true):Recs B W (W.putObj l o') :=
 ⟨rfl,rfl,rfl,by simp,fun k hk=>World.putObj_heap_other (by omega),fun k p hk hp=>(World.putObj_heap_other (fun e=>by subst e;rw[h]at hk;injection hk with hk;subst hk;rw[ho]at hp;cases hp)).trans hk⟩
theorem Recs.alloc (W:World)(o:Obj){B:Nat}(hB:B≤W.heap.size):Recs B W (W.alloc o) :=
 ⟨rfl,rfl,rfl,by simp,fun k hk=>Below.heap_alloc W o k (by omega),fun k p hk _=>(Below.heap_alloc W o k (Array.getElem?_eq_some_iff.1 hk).1).trans hk⟩
theorem Recs.trans {B:Nat}{a b c:World}(h:Recs B a b)(k:Recs B b c):Recs B a c :=
 ⟨k.os.trans h.os,k.tape.trans h.tape,k.output.trans h.output,Nat.le_trans h.size k.size,fun i hi=>(k.low i hi).trans (h.low i hi),fun i o hi ho=>k.same i o (h.same i o hi ho) ho⟩
theorem Recs.below {B:Nat}{w w':World}(h:Recs B w w'):Below B w w':=⟨h.os,h.tape,h.output,h.size,h.low⟩
theorem Recs.mono {B B':Nat}{w w':World}(h:Recs B w w')(hB:B'≤B):Recs B' w w':=⟨h.os,h.tape,h.output,h.size,fun k hk=>h.low k (by omega),h.same⟩
section
variable {w w':World} {B:Nat}
theorem Blk.recs {g:Nat}{t:TypeId}{cs:Array Value}(hg:Blk w g t cs)(h:Recs B w w'):Blk w' g t cs:=h.same g _ hg rfl
theorem zku {B0:Nat}{e:TypeId}{size:Nat}{v:Value}{n:Nat}{xs:List Value}(hr:w.ownsRow B0 e size v n xs)(h:Recs B w w'):w'.ownsRow B0 e size v n xs:=by
 obtain⟨h1,h2⟩:=hr
 refine⟨h1,?_⟩
 rcases h2 with h2 | ⟨g,cap,cur,hv,hg,hh,r⟩
 ·exact .inl h2
 ·exact .inr ⟨g,cap,cur,hv,hg,h.same g _ hh rfl,r⟩
end
theorem row_rec {w:World}{B0:Nat}{e:TypeId}{size:Nat}{v:Value}{n:Nat}{xs:List Value}(hr:w.ownsRow B0 e size v n xs){k:Nat}{o:Obj}(hk:v.ownBlock=some k)(ho:w.heap[k]? = some o):zjf o=false:=by
 rcases hr.2 with⟨rfl,_⟩ | ⟨g,cap,cur,rfl,_,hh,_⟩
 ·cases hk
 ·injection hk with hk
  subst hk
  rw[hh]at ho
  injection ho with ho
  rw[← ho]
  rfl
def SeqOf (n:Nat)(P:Program)(gf:FuncId)(first cap:Array Value)(xs:List Value):Prop :=
 ∀ (l:Nat) (J:Nat→World→Prop) (Jx:World→Prop) (W:World),
  (∀ i x W1,xs[i]? = some x→J i W1→YieldAt Fence.wide (n-1) P l #[x] W1 fun e W'=>(e=.returned (.bool true)∧J (i+1) W')∨(e=.returned (.bool false)∧Jx W')) →
  J 0 W→CallsIn Fence.wide n P gf (first++#[.func (.yield l) #[] #[]]++cap) W fun e W'=>(∃ v,e=.returned v)∧(J xs.length W'∨Jx W')
def overPost (I:World→Prop)(Ix:Code→World→Prop)(W:World):Exit→Act→World→Prop
 | .normal,_,W'=>zan W W'∧I W'
 | .ret,_,W'=>zan W W'∧Ix .ret W'
 | .exit id,_,W'=>zan W W'∧Ix (.exit id) W'
 | .goto t,_,W'=>zan W W'∧Ix (.goto t) W'
 | .panic _,_,_=>False
 | .outgrown,_,_=>False
theorem zkx {P:Program}{n:Nat}{g:Operand}{ps:Array Tmp}{assign body:Code}{Q:Exit→Act→World→Prop}{a:Act}{w:World}
  {gf:Nat} {first cap:Array Value} (hg:a.eval g=.func (.func gf) first cap) (eg:∀ args w,(callFunc gf args).run P w=.ok (.enter gf args) w)
  {xs:List Value} (hseq:SeqOf (n-1) P gf first cap xs) (hps:ps.size=1)
  (I:Nat→World→Prop) (Ix:Code→World→Prop) (hI:∀ i W W',Recs w.heap.size W W'→I i W→I i W') (hIx:∀ c W W',Recs w.heap.size W W'→Ix c W→Ix c W') (h0:I 0 w) (a₁ : Value→Act)
  (hassign:∀ (l:Nat) (x:Value) (W:World) (K:Act→World→Prop),K (a₁ x) W →
   assign.wpIn (Fence.wide.inRound l) (n-1-1) P (Exit.then K (fun _ _ _=>False)) { tmps:=(ps.zip #[x]).foldl (fun t (p,v)=>t.setIfInBounds p v) a.tmps,defers:=[] } W)
  (hbody:∀ (l:Nat) (i:Nat) (x:Value) (W:World),xs[i]? = some x→I i W→w.heap.size≤W.heap.size→body.wpIn (Fence.wide.inRound l) (n-1-1) P (overPost (I (i+1)) Ix W) (a₁ x) W)
  (hdone:∀ (W:World),I xs.length W→W.heap[w.heap.size]? = some (.deferred (some []))→Q .normal { a with defers:={ target:=.collected w.heap.size,args:=#[] }::a.defers } W)
  (hstop:∀ (c:Code) (W:World),Ix c W→W.heap[w.heap.size]? = some (.deferred (some []))→c.wpIn Fence.wide n P Q { a with defers:={ target:=.collected w.heap.size,args:=#[] }::a.defers } W) :
  (Code.rangeFunc g ps assign body).wpIn Fence.wide n P Q a w:=by
 refine wpIn_rangeFunc ?_
 intro fn hfn
 obtain⟨rec,hrec⟩:∃ rec:LoopState→Option Code→Loop,rec=fun st pe=>{ state:=st,pending:=pe,fn,tmps:=a.tmps,params:=ps,assign,body,defers:=w.heap.size }:=⟨_,rfl⟩
 obtain⟨D,hD⟩:∃ D,D=w.heap.size:=⟨_,rfl⟩
 obtain⟨W1,hW1⟩:∃ W1,(w.alloc (.deferred (some []))).alloc (.loop (rec .ready none))=W1:=⟨_,rfl⟩
 have hR1:Recs D w W1:=by
  rw[← hW1,hD];exact(Recs.alloc w _ (Nat.le_refl _)).trans (Recs.alloc _ _ (by simp))
 have hL1:W1.heap[D+1]? = some (.loop (rec .ready none)):=by
  rw[← hW1,hD];have:=World.alloc_heap_new (w.alloc (.deferred (some []))) (.loop (rec .ready none));rwa [World.size_alloc]at this
 have hK1:W1.heap[D]? = some (.deferred (some [])):=by
  rw[← hW1,hD];exact(Below.heap_alloc _ _ _ (by simp)).trans (World.alloc_heap_new w _)
 rw[← hD]at hI hIx hdone hstop
 have hy:∀ i x W,xs[i]? = some x→(I i W∧W.heap[D+1]? = some (.loop (rec .ready none))∧W.heap[D]? = some (.deferred (some []))) →
   YieldAt Fence.wide (n-1-1) P (D+1) #[x] W fun e W' =>
    (e=.returned (.bool true)∧(I (i+1) W'∧W'.heap[D+1]? = some (.loop (rec .ready none))∧W'.heap[D]? = some (.deferred (some [])))) ∨
    (e=.returned (.bool false)∧∃ c,Ix c W'∧W'.heap[D+1]? = some (.loop (rec .done (some c)))∧W'.heap[D]? = some (.deferred (some []))):=by
  rintro i x W hx ⟨hi,hl,hk⟩
  have hlt:D+1<W.heap.size:=(Array.getElem?_eq_some_iff.1 hl).1
  have hyl:=run_yield (P:=P) (args:=#[x]) hl (by rw[hrec];exact hps.symm)
  rw[hrec]at hyl
  refine⟨fn,_,assign,body,hyl,roundIn_of_wpIn hfn (hassign _ x W _ ?_)⟩
  refine⟨_,run_beginRound hl (by rw[hrec]),?_⟩
  have hbusy:(W.putObj (D+1) (.loop { rec .ready none with state:=.busy })).heap[D+1]? = some (.loop { rec .ready none with state:=.busy }):=World.putObj_heap_same hlt
  have hk2:(W.putObj (D+1) (.loop { rec .ready none with state:=.busy })).heap[D]? = some (.deferred (some [])):=(World.putObj_heap_other (by omega)).trans hk
  refine wpIn_mono (hbody _ i x _ hx (hI i W _ (.putObj (by omega) hl rfl) hi) (by rw[World.putObj_size];omega)) ?_
  have fin:∀ (jump:Option Code) (W3:World),zan (W.putObj (D+1) (.loop { rec .ready none with state:=.busy })) W3 →
    ∃ W4,(Instr.endRound (D+1) jump).run P W3=.ok (.bool jump.isNone) W4∧Recs D W3 W4∧W4.heap[D+1]? = some (.loop (rec (if jump.isNone then .ready else .done) jump))∧W4.heap[D]? = some (.deferred (some [])):=fun jump W3 hk3=>by
   have hl3:=hk3.same _ _ hbusy rfl
   refine⟨_,run_endRound (P:=P) jump hl3,.putObj (by omega) hl3 rfl,?_,(World.putObj_heap_other (by omega)).trans (hk3.same _ _ hk2 rfl)⟩
   rw[World.putObj_heap_same (Array.getElem?_eq_some_iff.1 hl3).1,hrec]
  rintro e a3 W3 hp
  cases e with
  | normal =>
   obtain⟨W4,h1,h2,h3,h4⟩:=fin none W3 hp.1
   exact⟨_,W4,h1,.inl ⟨rfl,hI _ _ _ h2 hp.2,h3,h4⟩⟩
  | ret =>
   obtain⟨W4,h1,h2,h3,h4⟩:=fin (some .ret) W3 hp.1
   exact⟨_,W4,h1,.inr ⟨rfl,.ret,hIx _ _ _ h2 hp.2,h3,h4⟩⟩
  | exit id =>
   obtain⟨W4,h1,h2,h3,h4⟩:=fin (some (.exit id)) W3 hp.1
   exact⟨_,W4,h1,.inr ⟨rfl,.exit id,hIx _ _ _ h2 hp.2,h3,h4⟩⟩
  | goto t =>
   obtain⟨W4,h1,h2,h3,h4⟩:=fin (some (.goto t)) W3 hp.1
   exact⟨_,W4,h1,.inr ⟨rfl,.goto t,hIx _ _ _ h2 hp.2,h3,h4⟩⟩
  | panic ch=>exact hp.elim
  | outgrown=>exact hp.elim
 have hcall:=hseq (D+1) (fun i W=>I i W∧W.heap[D+1]? = some (.loop (rec .ready none))∧W.heap[D]? = some (.deferred (some [])))
  (fun W=>∃ c,Ix c W∧W.heap[D+1]? = some (.loop (rec .done (some c)))∧W.heap[D]? = some (.deferred (some []))) W1 hy ⟨hI 0 w W1 hR1 h0,hL1,hK1⟩
 refine⟨D+1,[{ target:=.collected D,args:=#[] }],W1,{ target:=.fn (.func gf) cap,args:=first++#[.func (.yield (D+1)) #[] #[]] },W1,gf,first++#[.func (.yield (D+1)) #[] #[]]++cap,W1,?_,?_,?_,?_,(fun h=>by simp[Fence.wide]at h),?_⟩
 ·rw[← hW1,hrec,hD];exact run_enterLoop_outer _ _ _ _ _
 ·simp only[resolve,hg]
  simp[go_sem]
 ·intro f' _;trivial
 ·simp[invoke,go_sem,eg]
 ·refine hcall.mono ?_
  rintro e W2 ⟨⟨v,rfl⟩,(⟨hi,hl,hk⟩ | ⟨c,hi,hl,hk⟩)⟩
  ·refine⟨none,_,by have:=run_endLoop (P:=P) hl (by rw[hrec];simp);rw[hrec]at this;exact this,hdone _ (hI _ _ _ (.putObj (by omega) hl rfl) hi) ((World.putObj_heap_other (by omega)).trans hk)⟩
  ·refine⟨some c,_,by have:=run_endLoop (P:=P) hl (by rw[hrec];simp);rw[hrec]at this;exact this,hstop c _ (hIx _ _ _ (.putObj (by omega) hl rfl) hi) ((World.putObj_heap_other (by omega)).trans hk)⟩
def zbm (B:Nat)(W:World)(ds:List Deferred):Prop:=(∀ d ∈ ds,∃ D,B≤D∧d={ target:=.collected D,args:=#[] }∧W.heap[D]? = some (.deferred (some [])))∧ds.Nodup
theorem zbm.nil (B:Nat)(W:World):zbm B W []:=⟨by simp,List.nodup_nil⟩
theorem zbm.kept {B:Nat}{W W':World}{ds:List Deferred}(h:zbm B W ds)(hk:zan W W'):zbm B W' ds :=
 ⟨fun d hd=>by obtain⟨D,h0,h1,h2⟩:=h.1 d hd;exact⟨D,h0,h1,hk.same _ _ h2 rfl⟩,h.2⟩
theorem zbm.low {B:Nat}{W W':World}{ds:List Deferred}{N:Nat}(h:zbm B W ds)(hz:W.heap.size≤N)(hk:∀ k,k<N→W'.heap[k]? = W.heap[k]?):zbm B W' ds :=
 ⟨fun d hd=>by obtain⟨D,h0,h1,h2⟩:=h.1 d hd;exact⟨D,h0,h1,(hk D (Nat.lt_of_lt_of_le (Array.getElem?_eq_some_iff.1 h2).1 hz)).trans h2⟩,h.2⟩
theorem zbm.cons {B N:Nat}{W W':World}{ds:List Deferred}(h:zbm B W ds)(hz:W.heap.size≤N)(hB:B≤N)(hk:∀ k,k<N→W'.heap[k]? = W.heap[k]?)(hN:W'.heap[N]? = some (.deferred (some []))) :
  zbm B W' ({ target:=.collected N,args:=#[] }::ds):=by
 have h':=h.low hz hk
 refine⟨fun d hd=>?_,List.nodup_cons.2 ⟨fun hd=>?_,h.2⟩⟩
 ·rcases List.mem_cons.1 hd with rfl | hd
  ·exact⟨N,hB,rfl,hN⟩
  ·exact h'.1 d hd
 ·obtain⟨D,_,h1,h2⟩:=h.1 _ hd
  have:=(Array.getElem?_eq_some_iff.1 h2).1
  injection h1 with h1
  injection h1 with h1
  omega
theorem zia {P:Program}{n:Nat}{fn:Func}{tmps:Array Value}{R:Ending→World→Prop}{B:Nat}(X:World→Prop)(hX:∀ W W',Recs B W W'→X W→X W')
  (hfin:∀ W,X W→LeavesIn Fence.wide n P fn tmps R [] .returning W):∀ (ds:List Deferred) (W:World),zbm B W ds→X W→LeavesInM Fence.wide n P fn tmps R ds .returning W
 | [],W,_,h=>hfin W h
 | d::ds,W,hm,h=>by
  obtain⟨D,hB,hd,hk⟩:=hm.1 d (by simp)
  subst hd
  refine⟨by simp,.inl ⟨D,_,rfl,run_takeDeferred hk,zia X hX hfin ds _ ⟨fun e he=>?_,(List.nodup_cons.1 hm.2).2⟩ (hX _ _ (.putObj hB hk rfl) h)⟩⟩
  obtain⟨E,he0,he1,he2⟩:=hm.1 e (List.mem_cons_of_mem _ he)
  refine⟨E,he0,he1,(World.putObj_heap_other (fun h=>?_)).trans he2⟩
  subst h he1
  exact(List.nodup_cons.1 hm.2).1 he
end
section
section
variable {P:Program} {Q Q':Exit→Act→World→Prop} {md:Region.Mode} {S:World→Prop}
theorem zsh {o:Oper}{a:Act}{w:World}{K:Act→World→Prop}(h:∀ e a w,e≠.normal→Q e a w→Q' e a w)(hh:o.wp P a w K Q):o.wp P a w K Q':=by
 unfold Oper.wp at *
 generalize (execOp a.eval o).run P w=r at *
 cases r with
 | ok n w' =>
  cases n <;> simp only[Oper.upon]at hh ⊢ <;>
   first
    | exact hh
    | exact Calls.mono hh (fun e w'' he=>by
      cases e with
      | returned v=>exact he
      | panicked c=>exact h _ _ _ (by simp) he
      | outgrown=>exact let ⟨a,w,q⟩:=he;⟨a,w,h _ _ _ (by simp) q⟩)
    | exact h _ _ _ (by simp) hh
 | halt x w' =>
  cases x <;> simp only[Oper.upon]at hh ⊢ <;>
   first
    | exact hh
    | exact h _ _ _ (by simp) hh
def zdu (P:Program)(ops:Array Oper)(n:Nat)(Q:Exit→Act→World→Prop):Exit→Act→World→Prop
 | .normal,a,w=>wpOp P ops Q n (fun a w=>Q .normal a w) a w
 | e,a,w=>Q e a w
theorem zdu.exits {ops:Array Oper}{n:Nat}:∀ e a w,e≠.normal→zdu P ops n Q e a w→Q e a w:=fun e a w he h=>by
 cases e <;> first | exact h | exact absurd rfl he
theorem zdu.normal {ops:Array Oper}{n:Nat}{a:Act}{w:World}(h:wpOp P ops Q n (fun a w=>Q .normal a w) a w):zdu P ops n Q .normal a w:=h
def zjj (md:Region.Mode)(l:List Oper)(last:Oper):Bool :=
 Region.sinkB md (l++[last]).toArray l.length&&Region.chainB md (l++[last]).toArray l.length&&last.after.all (fun e=>!Region.binds md e||decide (e.on<l.length)) &&
 (List.range l.length).all (fun j=>match l[j]? with | some o=>o.guard.isNone&&o.after.all (fun e=>!Region.binds md e||decide (e.on<j)) | none=>true)
structure Both (n:Nat)(L L':Array Bool):Prop where
 s:L.size=n
 s':L'.size=n+1
 eq:∀ i,i<n→L'.getD i false=L.getD i false
 last:L'.getD n false=false
theorem Both.set {n i:Nat}{L L':Array Bool}(h:Both n L L')(hi:i<n):Both n (L.setIfInBounds i true) (L'.setIfInBounds i true):=by
 refine⟨by simp[h.s],by simp[h.s'],fun j hj=>?_,?_⟩
 ·by_cases hij:i=j
  ·subst hij
   simp[h.s,h.s',hi,Nat.lt_succ_of_lt hi]
  ·rw[getD_set_ne false hij,getD_set_ne false hij]
   exact h.eq j hj
 ·rw[getD_set_ne false (by omega)]
  exact h.last
theorem zen {L:Array Bool}{i:Nat}(hi:i<L.size):L.getD i true=L.getD i false:=by simp[hi]
theorem zjm {l:List Oper}{last:Oper}{i:Nat}(hi:i<l.length):(l++[last]).toArray[i]? = l.toArray[i]? := by
 simp[List.getElem?_append_left hi]
theorem zqf {l:List Oper}{last:Oper}:(l++[last]).toArray[l.length]? = some last:=by simp
theorem zr9 {l:List Oper}{last:Oper}(hB:zjj md l last=true):∀ (f:Nat) (L L':Array Bool) (a:Act) (w:World),Both l.length L L'→HeadInv md (l++[last]).toArray l.length L' →
  wpAnyH P md l.toArray (zdu P (l++[last]).toArray l.length Q) S f L a w→wpAny P md (l++[last]).toArray Q (f+1) L' a w:=by
 unfold zjj at hB
 simp only[Bool.and_eq_true]at hB
 obtain⟨⟨⟨hw,hc⟩,hlast⟩,hl⟩:=hB
 have hn:l.length<(l++[last]).toArray.size:=by simp
 have h0:∀ e ∈ last.after,Region.binds md e=true→e.on<l.length:=fun e he hb=>by
  have:=Array.all_eq_true'.1 hlast e he
  simpa [hb] using this
 have h2:∀ j o,l[j]? = some o→o.guard=none∧∀ e ∈ o.after,Region.binds md e=true→e.on<j:=fun j o ho=>by
  have hj:j<l.length:=(List.getElem?_eq_some_iff.1 ho).1
  have:=List.all_eq_true.1 hl j (List.mem_range.2 hj)
  rw[ho]at this
  simp only[Bool.and_eq_true]at this
  refine⟨by simpa using this.1,fun e he hb=>?_⟩
  have h3:=Array.all_eq_true'.1 this.2 e he
  simpa [hb] using h3
 have hri:∀ {L L':Array Bool} {i:Nat},Both l.length L L'→i<l.length→(i ∈ Region.ready md l.toArray L↔i ∈ Region.ready md (l++[last]).toArray L'):=fun {L L' i} hb hi=>by
  rw[mem_ready,mem_ready,zjm hi,zen (by rw[hb.s];exact hi),zen (by rw[hb.s'];omega),hb.eq i hi]
  refine and_congr_right fun _=>exists_congr fun o=>and_congr_right fun ho=>forall_congr' fun e=>forall_congr' fun he=>forall_congr' fun hbn=>?_
  have:=(h2 i o (by simpa using ho)).2 e he hbn
  rw[hb.eq e.on (by omega)]
 have hnil:∀ {L:Array Bool},L.size=l.length→Region.ready md l.toArray L=[]→∀ i,i<l.length→L.getD i false=true:=fun {L} hs hr i=>by
  induction i using Nat.strongRecOn with
  | _ i ih =>
   intro hi
   cases hc:L.getD i false with
   | true=>rfl
   | false =>
    exfalso
    have:i ∈ Region.ready md l.toArray L:=mem_ready.2 ⟨by rw[zen (by omega)];exact hc,l[i],by simp[hi],fun e he hb=>by
     have:=(h2 i l[i] (List.getElem?_eq_getElem hi)).2 e he hb
     exact ih _ this (by omega)⟩
    rw[hr]at this
    cases this
 have hlr:∀ {L L':Array Bool},Both l.length L L'→(∀ i,i<l.length→L.getD i false=true)→l.length ∈ Region.ready md (l++[last]).toArray L':=fun {L L'} hb ha =>
  mem_ready.2 ⟨by rw[zen (by rw[hb.s'];omega)];exact hb.last,last,zqf,fun e he hbn=>by rw[hb.eq _ (h0 e he hbn)];exact ha _ (h0 e he hbn)⟩
 have hbig:∀ {L':Array Bool} {i:Nat},i ∈ Region.ready md (l++[last]).toArray L'→i≤l.length:=fun {L' i} hi=>by
  obtain⟨_,o,ho,_⟩:=mem_ready.1 hi
  have:=(Array.getElem?_eq_some_iff.1 ho).1
  simp at this
  omega
 have hend:∀ {L L':Array Bool} {a:Act} {w:World} (g:Nat),Both l.length L L'→Region.ready md l.toArray L=[]→zdu P (l++[last]).toArray l.length Q .normal a w→wpAny P md (l++[last]).toArray Q (g+1) L' a w:=fun {L L' a w} g hb hr hq=>by
  have ha:=hnil hb.s hr
  have hn:=hlr hb ha
  refine⟨fun h=>(by rw[h]at hn;cases hn),fun i hi=>?_⟩
  have hin:i=l.length:=by
   rcases Nat.lt_or_ge i l.length with h | h
   ·have:=(hri hb h).2 hi
    rw[hr]at this
    cases this
   ·have:=hbig hi;omega
  subst hin
  have hdone:Region.ready md (l++[last]).toArray (L'.setIfInBounds l.length true)=[]:=by
   refine List.eq_nil_iff_forall_not_mem.2 fun j hj=>?_
   have hj1:=hbig hj
   obtain⟨hj2,_⟩:=mem_ready.1 hj
   by_cases hjn:l.length=j
   ·subst hjn
    simp[hb.s']at hj2
   ·rw[getD_set_ne true hjn,zen (by rw[hb.s'];omega),hb.eq j (by omega),ha j (by omega)]at hj2
    cases hj2
  refine wpOp_mono (fun a' w' q=>?_) hq
  cases g with
  | zero=>exact⟨hdone,q⟩
  | succ g=>exact⟨fun _=>q,by rw[hdone];intro i hi;cases hi⟩
 intro f
 induction f with
 | zero =>
  intro L L' a w hb _ h
  exact hend 0 hb h.1 h.2
 | succ f ih =>
  intro L L' a w hb inv h
  by_cases hr:Region.ready md l.toArray L=[]
  ·exact hend (f+1) hb hr (h.1 hr)
  ·obtain⟨i0,hi0⟩:=List.exists_mem_of_ne_nil _ hr
   have hi0n:i0<l.length:=by
    obtain⟨_,o,ho,_⟩:=mem_ready.1 hi0
    simpa using (Array.getElem?_eq_some_iff.1 ho).1
   refine⟨fun hn=>?_,fun i hi=>?_⟩
   ·have:=(hri hb hi0n).1 hi0
    rw[hn]at this
    cases this
   ·have hin:i<l.length:=by
     rcases Nat.lt_or_ge i l.length with h' | h'
     ·exact h'
     ·exfalso
      obtain⟨h4,_⟩:=mem_ready.1 hi0
      rw[zen (by rw[hb.s];exact hi0n)]at h4
      exact tail_waits hw hc hn inv _ i0 rfl hi0n (by rw[zen (by rw[hb.s'];omega),hb.eq i0 hi0n,h4]) i h' hi
    have hstep:=h.2 i ((hri hb hin).2 hi)
    unfold wpOp at hstep ⊢
    rw[zjm hin]
    obtain⟨o,ho⟩:∃ o,l[i]? = some o:=⟨_,List.getElem?_eq_getElem hin⟩
    have ho':l.toArray[i]? = some o:=by simpa using ho
    rw[ho']at hstep ⊢
    simp only at hstep ⊢
    have hg:=(h2 i o ho).1
    have hw1:∀ y,Region.wanted o y=true:=fun y=>by simp[Region.wanted,hg]
    rw[if_pos (hw1 _)]at hstep ⊢
    rcases hstep with hstep | ⟨h5,h6⟩
    ·exact .inl (Oper.wp_mono (fun a' w' q=>ih _ _ a' w' (hb.set hin) (inv.set hi hin) q.2) (zsh zdu.exits hstep))
    ·obtain⟨a1,w1,q⟩:=h6
     exact .inr ⟨h5,a1,w1,q⟩
theorem zw4 {l:List Oper}{last:Oper}{id:Nat}{a:Act}{w:World}(S:World→Prop)(hm:P.follows .mixedOrders=true)(hB:zjj .any l last=true)
  (h:wpAnyH P .any l.toArray (zdu P (l++[last]).toArray l.length Q) S l.length (Array.replicate l.length false) a w.drew):(Code.region id (l++[last]).toArray true).wp P Q a w:=by
 refine wp_region_any hm ?_
 have hs:(l++[last]).toArray.size=l.length+1:=by simp
 rw[hs]
 exact zr9 hB _ _ _ a w.drew ⟨by simp,by simp,fun i hi=>by simp[hi,Nat.lt_succ_of_lt hi],by simp⟩
  ⟨by simp,fun j oj _ hl=>(by rw[getD_replicate_false]at hl;cases hl),fun t _ ht=>getD_in (by simpa using ht) (getD_replicate_false _ _)⟩ h
theorem zh0 {l:List Oper}{last:Oper}{id:Nat}{a:Act}{w:World}(n:Nat)(S:World→Prop)(hm:P.follows .mixedOrders=true)(hn:l.length=n+1)(hlast:l[n]? = some last)(hB:zjj .any (l.take n) last=true)
  (h:wpAnyH P .any (l.take n).toArray (zdu P l.toArray n Q) S n (Array.replicate n false) a w.drew):(Code.region id l.toArray true).wp P Q a w:=by
 have hl:l=l.take n++[last]:=by
  have h1:=List.take_append_drop n l
  rw[List.drop_eq_getElem_cons (by omega)]at h1
  have h2:l[n]=last:=by
   have:=List.getElem?_eq_getElem (l:=l) (i:=n) (by omega)
   rw[this]at hlast
   injection hlast
  rw[h2,List.drop_eq_nil_of_le (by omega)]at h1
  exact h1.symm
 have hlen:(l.take n).length=n:=by rw[List.length_take];omega
 have key:=zw4 (Q:=Q) (id:=id) (a:=a) (w:=w) S hm hB (by rw[hlen,← hl];exact h)
 rw[← hl]at key
 exact key
end
section
variable {P:Program} {md:Region.Mode} {ops ops':Array Oper} {Q:Exit→Act→World→Prop} {S:World→Prop} {fuel n:Nat} {listed:Array Bool} {a:Act} {w:World} {o:Oper}
theorem lst (hr:Region.ready md ops listed=[])(ho:ops'[n]? = some o)(h:∀ K':Act→World→Prop,(∀ a w,Q .normal a w→K' a w)→if Region.wanted o (yielded ops' a.tmps)=true then Oper.wp P o a w K' Q else K' (a.put o.dst undef) w) :
  wpAnyH P md ops (zdu P ops' n Q) S fuel listed a w:=wpAnyH_done hr (zdu.normal (wpOp_step ho h)) _
theorem rdy (i:Nat)(hr:Region.ready md ops listed=[i])(ho:ops[i]? = some o)
  (h:∀ K':Act→World→Prop,Shut (∀ a w,S w→(S w→wpAnyH P md ops Q S fuel (listed.setIfInBounds i true) a w)→K' a w)→if Region.wanted o (yielded ops a.tmps)=true then Oper.wp P o a w K' Q else K' (a.put o.dst undef) w) :
  wpAnyH P md ops Q S (fuel+1) listed a w:=wpAnyH_ready hr (by simp) (AllReadyH.cons ho h AllReadyH.nil)
end
end
section
open Go.RowKit Go.Maps
abbrev zaa (s:Nat):Value:=.int .u64 (s:Int)
theorem zgn (a b:Nat)(ha:a<2 ^ 48)(hb:b<2 ^ 48):bits .or .u64 (a:Int) (b:Int)=((a|||b:Nat):Int):=by
 have h2:a|||b<2 ^ 48:=Nat.or_lt_two_pow ha hb
 show IntKind.u64.wrap (((BitVec.ofInt 64 (a:Int))|||(BitVec.ofInt 64 (b:Int))).toNat:Int)=_
 rw[BitVec.ofInt_natCast,BitVec.ofInt_natCast,BitVec.toNat_or,BitVec.toNat_ofNat,BitVec.toNat_ofNat,Nat.mod_eq_of_lt (by omega),Nat.mod_eq_of_lt (by omega)]
 exact IntWalk.u64_in _ (by omega)
theorem ziw (a b:Nat)(ha:a<2 ^ 48)(hb:b<2 ^ 48):bits .and .u64 (a:Int) (b:Int)=((a&&&b:Nat):Int):=by
 have h2:a&&&b<2 ^ 48:=Nat.and_lt_two_pow _ hb
 show IntKind.u64.wrap (((BitVec.ofInt 64 (a:Int))&&&(BitVec.ofInt 64 (b:Int))).toNat:Int)=_
 rw[BitVec.ofInt_natCast,BitVec.ofInt_natCast,BitVec.toNat_and,BitVec.toNat_ofNat,BitVec.toNat_ofNat,Nat.mod_eq_of_lt (by omega),Nat.mod_eq_of_lt (by omega)]
 exact IntWalk.u64_in _ (by omega)
theorem zp1 (a k:Nat):(a:Int) / 2 ^ k=((a >>> k:Nat):Int):=by
 rw[Nat.shiftRight_eq_div_pow];push_cast;rfl
theorem zof (a:Nat):a&&&1=a % 2:=Nat.and_one_is_mod a
theorem bit_eq (s k:Nat):((((s >>> k)&&&1:Nat):Int)==1)=s.testBit k:=by
 rw[Nat.testBit_eq_decide_div_mod_eq,zof,Nat.shiftRight_eq_div_pow,Bool.eq_iff_iff,beq_iff_eq,decide_eq_true_iff]
 omega
theorem zkd (s k:Nat)(w:World)(hs:s<2 ^ 48)(hk:k<48) :
  Calls Tryz.prog 289 #[zaa s,.int .i64 (k:Int)] w fun e w'=>e=.returned (.bool (s.testBit k))∧w=w':=by
 have h1:=zp1 s k
 have h0:s >>> k<2 ^ 48:=Nat.lt_of_le_of_lt (by rw[Nat.shiftRight_eq_div_pow];exact Nat.div_le_self _ _) hs
 have h3:bits .and .u64 ((s:Int) >>> k) 1=(((s >>> k)&&&1:Nat):Int):=ziw (s >>> k) 1 h0 (by omega)
 have h4:=zH (show(((s:Int) >>> k) % 2==1)=s.testBit k by rw[← bit_eq s k,zof];rfl)
 clear h0
 go_enter Tryz.func289,Tryz.ntmps289
 go_wp2_with fail
 go_ret
 exact⟨zdr h4.out,rfl⟩
theorem zr6 (a b:Nat):((a:Int) != (b:Int))=(a != b):=by
 rw[Bool.eq_iff_iff];simp;omega
theorem zhx (s t:Nat)(a:Addr)(w:World)(hs:s<2 ^ 48)(ht:t<2 ^ 48)(hc:w.cell? a=some (zaa s))(hf:w.frozen? a=false) :
  Calls Tryz.prog 277 #[.pointer (some a),zaa t] w fun e w'=>e=.returned (.bool ((s|||t) != s))∧w.setCell a (zaa (s|||t))=w':=by
 have h1:=zgn s t hs ht
 have h2:=zH (zr6 (s|||t) s)
 go_enter Tryz.func277,Tryz.ntmps277
 go_wp2_with fail
 go_ret
 exact⟨zdr h2.out,rfl⟩
theorem ztq (s t:Nat)(a:Addr)(w:World)(hs:s<2 ^ 48)(ht:t<2 ^ 48)(hc:w.cell? a=some (zaa s))(hf:w.frozen? a=false) :
  Calls Tryz.prog 284 #[.pointer (some a),zaa t] w fun e w'=>e=.returned (.bool ((s&&&t) != s))∧w.setCell a (zaa (s&&&t))=w':=by
 have h1:=ziw s t hs ht
 have h2:=zH (zr6 (s&&&t) s)
 go_enter Tryz.func284,Tryz.ntmps284
 go_wp2_with fail
 go_ret
 exact⟨zdr h2.out,rfl⟩
theorem zpm (n:Nat)(w:World)(hn:n≤40) :
  Calls Tryz.prog 228 #[.int .i64 (n:Int)] w fun e w'=>e=.returned (zaa (2 ^ n-1))∧w=w':=by
 have h0:2 ^ n≤2 ^ 40:=Nat.pow_le_pow_right (by omega) hn
 have h1:1≤2 ^ n:=Nat.one_le_two_pow
 have h2:IntKind.u64.wrap ((2:Int) ^ n)=(2:Int) ^ n:=by
  rw[show((2:Int) ^ n)=((2 ^ n:Nat):Int) by push_cast;rfl]
  exact IntWalk.u64_in _ (by omega)
 have h3:IntKind.u64.wrap ((2:Int) ^ n-1)=(2:Int) ^ n-1:=by
  rw[show((2:Int) ^ n)=((2 ^ n:Nat):Int) by push_cast;rfl]
  exact IntWalk.u64_in _ (by omega)
 have h4:=zH (show(2:Int) ^ n-1=((2 ^ n-1:Nat):Int) by rw[show((2:Int) ^ n)=((2 ^ n:Nat):Int) by push_cast;rfl];omega)
 clear h0 h1
 go_enter Tryz.func228,Tryz.ntmps228
 go_wp2_with fail
 go_ret
 exact⟨zpl h4.out,rfl⟩
theorem zg0 (k g c:Nat)(w:World)(hk:k<40)(hc:w.cell? ⟨g,0,none⟩=some (.int .i64 (k:Int))) :
  Calls Tryz.prog 275 #[.slice (some ⟨g,0,none⟩) 1 c] w fun e w'=>e=.returned (zaa (2 ^ k))∧w=w':=by
 have h0:2 ^ k≤2 ^ 40:=Nat.pow_le_pow_right (by omega) (by omega)
 have h1:1≤2 ^ k:=Nat.one_le_two_pow
 have h2:IntKind.u64.wrap ((2:Int) ^ k)=(2:Int) ^ k:=by
  rw[show((2:Int) ^ k)=((2 ^ k:Nat):Int) by push_cast;rfl]
  exact IntWalk.u64_in _ (by omega)
 have h3:bits .or .u64 0 ((2:Int) ^ k)=(2:Int) ^ k:=by
  have:=zgn 0 (2 ^ k) (by omega) (by omega)
  rw[Nat.zero_or]at this
  rw[show((2:Int) ^ k)=((2 ^ k:Nat):Int) by push_cast;rfl]
  exact this
 clear h0 h1
 go_enter Tryz.func275,Tryz.ntmps275
 go_wp2_with fail
 go_loopg [3,8] 2 (fun g s i wr=>∃ j:Nat,g=2-j∧i=.int .i64 j∧j≤1∧s=zaa (if j=0 then 0 else 2 ^ k)∧wr=w)
 case atStart=>exact⟨0,rfl,rfl,by omega,rfl,rfl⟩
 case round =>
  obtain⟨j,hg,rfl,hj,rfl,rfl⟩:=hrel
  rcases(by omega:j=0∨j=1)with rfl | rfl
  ·go_wp2_with fail
   go_roundg 1
   case measure=>omega
   case rel=>exact⟨1,rfl,rfl,Nat.le_refl _,by show Value.int .u64 _=.int .u64 _;push_cast;rfl,rfl⟩
  ·go_wp2_with fail
   go_ret
   exact⟨rfl,rfl⟩
end
section
open Go.RowKit
structure zbl (P:Program)(t e:TypeId)(size bytes:Nat):Prop where
 ut:P.underlying t=some (.slice e)
 info:∃ i z,P.info? e=some i∧i.zero=some z∧i.size=size∧i.bytes=bytes∧z.cells.size=size
 pos:0<size
 small:bytes≤1000
theorem zbl.mk' {P:Program}{t e:TypeId}{size bytes:Nat}{z:Value}(ut:P.underlying t=some (.slice e))(h:(P.info? e).map (fun i=>(i.zero,i.size,i.bytes))=some (some z,size,bytes))
  (hz:z.cells.size=size) (pos:0<size) (small:bytes≤1000):zbl P t e size bytes:=by
 obtain⟨i0,hi,hz0,hz1,hz2⟩:=info_parts h
 exact⟨ut,⟨i0,z,hi,hz0,hz1,hz2,hz⟩,pos,small⟩
theorem zrp {w:World}{g:Nat}{e:TypeId}{cs:Array Value}(h:Blk w g e cs):∀ j u,cs.toList[j]? = some u→w.cell? ((⟨g,0,none⟩:Addr).add j)=some u:=fun j u hu=>by
 have:((⟨g,0,none⟩:Addr).add j)=⟨g,j,none⟩:=by
  unfold Addr.add
  split
  ·rename_i h0;subst h0;rfl
  ·simp
 rw[this,h.cell]
 simpa using hu
theorem zhc {P:Program}{t e:TypeId}{size bytes:Nat}(T:zbl P t e size bytes){w:World}{ops:Array Oper}{rest:List Oper}{o:Oper}{a:Act}{Q:Exit→Act→World→Prop}
  (hgd:o.guard=none) (s x:Operand) (ho:o.op=.call { callee:=.builtin .append,args:=#[s,x],argTypes:=#[t,t] })
  (B:Nat) (v:Value) (n:Nat) (xs:List Value) (g0 c:Nat) (cs:Array Value)
  (hown:w.ownsRow B e size v n xs) (hb:Blk w g0 e cs) (hs:a.eval s=v) (hx:a.eval x=.slice (some ⟨g0,0,none⟩) 1 c)
  (hsz:cs.size=size) (h1:∀ u ∈ cs.toList,u.oneCell'=true) (hn:n<1000000) (hB:B≤w.heap.size)
  (h:∀ g cap w',w'.ownsRow B e size (.slice (some ⟨g,0,none⟩) (n+1) cap) (n+1) (xs++cs.toList)→w.grownBy w' v.ownBlock→(v.ownBlock=some g∨g=w.heap.size)→wpList P ops Q rest (a.put o.dst (.slice (some ⟨g,0,none⟩) (n+1) cap)) w') :
  wpList P ops Q (o::rest) a w:=by
 obtain⟨i,z,hi,hz,hs1,hs2,hs3⟩:=T.info
 have hbb:(n+1)*bytes≤1000000*1000:=Nat.mul_le_mul (by omega) T.small
 refine wpList_append_lies w hgd s x t ho B e i z size bytes T.ut hi hz hs1 hs2 hs3 T.pos v n xs hs hown ⟨g0,0,none⟩ 1 c cs.toList hx (by simp[hsz]) (zrp hb) h1 (by omega) (by unfold maxLen;omega) (by omega) hB w.heap.size rfl ?_
 intro g cap w' h2 h3 h4 _
 exact h g cap w' h2 h3 h4
theorem zc5 {P:Program}{t e:TypeId}{size bytes:Nat}(T:zbl P t e size bytes){w:World}{ops:Array Oper}{o:Oper}{a:Act}{K:Act→World→Prop}{Q:Exit→Act→World→Prop}{E:Prop}
  (hgd:o.guard=none) (s x:Operand) (ho:o.op=.call { callee:=.builtin .append,args:=#[s,x],argTypes:=#[t,t] })
  (B:Nat) (v:Value) (n:Nat) (xs:List Value) (g0 c:Nat) (cs:Array Value)
  (hown:w.ownsRow B e size v n xs) (hb:Blk w g0 e cs) (hs:a.eval s=v) (hx:a.eval x=.slice (some ⟨g0,0,none⟩) 1 c)
  (hsz:cs.size=size) (h1:∀ u ∈ cs.toList,u.oneCell'=true) (hn:n<1000000) (hB:B≤w.heap.size)
  (h:∀ g cap w',w'.ownsRow B e size (.slice (some ⟨g,0,none⟩) (n+1) cap) (n+1) (xs++cs.toList)→w.grownBy w' v.ownBlock→(v.ownBlock=some g∨g=w.heap.size)→K (a.put o.dst (.slice (some ⟨g,0,none⟩) (n+1) cap)) w') :
  if Region.wanted o (yielded ops a.tmps)=true then Oper.wp P o a w K Q else E:=by
 obtain⟨i,z,hi,hz,hs1,hs2,hs3⟩:=T.info
 have hbb:(n+1)*bytes≤1000000*1000:=Nat.mul_le_mul (by omega) T.small
 refine step_append_lies w hgd s x t ho B e i z size bytes T.ut hi hz hs1 hs2 hs3 T.pos v n xs hs hown ⟨g0,0,none⟩ 1 c cs.toList hx (by simp[hsz]) (zrp hb) h1 (by omega) (by unfold maxLen;omega) (by omega) hB w.heap.size rfl ?_
 intro g cap w' h2 h3 h4 _
 exact h g cap w' h2 h3 h4
section
variable {w w':World} {B:Nat} {e:TypeId} {size:Nat} {v:Value} {n:Nat} {xs:List Value}
theorem zwr (h:w.ownsRow B e size v n xs)(k:Nat):(w.drewN k).ownsRow B e size v n xs:=h
theorem za2 (h:w.ownsRow B e size v n xs):w.drew.ownsRow B e size v n xs:=h
theorem zaj {g:Nat}{t:TypeId}{cs:Array Value}(h:w.ownsRow B e size v n xs)(hg:Blk w g t cs)(hne:e≠t)(i:Nat)(u:Value):(w.setCell ⟨g,i,none⟩ u).ownsRow B e size v n xs:=by
 refine ownsRow_setCell_other h ?_ u
 rcases h.2 with⟨rfl,_⟩ | ⟨g',cap,cur,rfl,_,hh,_⟩
 ·simp[Value.ownBlock]
 ·intro he
  have:g'=g:=by simpa [Value.ownBlock] using he
  subst this
  exact hne (Blk.inj (cs:=cur) hh hg).1
theorem Chg.append {ts:List TypeId}{bs:List Nat}{w0:World}{B0:Nat}(hc:Chg B0 ts bs w0 w)(hown:w.ownsRow B e size v n xs)(hg:w.grownBy w' v.ownBlock)(hB:B0≤B)
  (he:e ∈ ts∨w0.heap.size≤B):Chg B0 ts bs w0 w':=by
 refine hc.grown hg fun k hk=>?_
 have h1:=(hown.lt k hk).1
 rcases he with he | he
 ·right
  refine⟨Nat.le_trans hB h1,.inr ?_⟩
  rcases hown.2 with⟨rfl,_⟩ | ⟨g',cap,cur,rfl,_,hh,_⟩
  ·simp[Value.ownBlock]at hk
  ·have:g'=k:=by simpa [Value.ownBlock] using hk
   subst this
   exact⟨e,cur,hh,he⟩
 ·left;omega
theorem Blk.append {g:Nat}{t:TypeId}{cs:Array Value}(hg:Blk w g t cs)(hown:w.ownsRow B e size v n xs)(h:w.grownBy w' v.ownBlock)(hne:e≠t):Blk w' g t cs:=by
 refine hg.grown h fun he=>?_
 rcases hown.2 with⟨rfl,_⟩ | ⟨g',cap,cur,rfl,_,hh,_⟩
 ·simp[Value.ownBlock]at he
 ·have:g=g':=by simpa [Value.ownBlock] using he
  subst this
  exact hne (Blk.inj (cs:=cur) hh hg).1
end
theorem zbz {w w':World}{B N:Nat}{e:TypeId}{size:Nat}{v:Value}{n:Nat}{xs:List Value}(h:w.ownsRow B e size v n xs)(hb:Below N w w')(hk:∀ k,v.ownBlock=some k→k<N):w'.ownsRow B e size v n xs:=by
 obtain⟨h1,h2⟩:=h
 refine⟨h1,?_⟩
 rcases h2 with h2 | ⟨g,cap,cur,hv,hg,hh,r⟩
 ·exact .inl h2
 ·subst hv
  exact .inr ⟨g,cap,cur,rfl,hg,(hb.block g (hk g rfl)).trans hh,r⟩
theorem zsv {B N:Nat}{ts:List TypeId}{bs:List Nat}{w w1 w2:World}(h:Chg B ts bs w w1)(hb:Below N w1 w2)(hN:w.heap.size≤N):Chg B ts bs w w2 :=
 ⟨hb.os.trans h.os,hb.tape.trans h.tape,hb.output.trans h.output,Nat.le_trans h.size hb.size,fun i o hi hp=>by
  have h1:=h.block i o hi hp
  rw[hb.block i (Nat.lt_of_lt_of_le (lt_of_block hi) hN)];exact h1⟩
end
section
open Go.RowKit Go.Maps
abbrev zeg:Nat→Value:=fun n=>Value.int .i64 (n:Int)
theorem natKey {P:Program}{k:TypeId}(hk:P.underlying k=some (.int .i64)):zfl P k zeg (fun n=>n<1000000) where
 keyed:=int_keyed hk
 reads:=fun n hn=>⟨.int .i64 n,keyOf_int_mk hk (WalkArith.wf_i64 (by omega))⟩
 inj:=fun x y h=>by injection h with _ h;omega
abbrev IM (w:World)(b:Nat)(m:List (Nat×Nat)):Prop:=zaf w b zeg (fun n=>n<1000000) zeg m
theorem ikey:zfl Tryz.prog 3 zeg (fun n=>n<1000000):=natKey Tryz.underlying3
structure Mk (w:World)(b:Nat)(S:Nat→Bool)(m:List (Nat×Nat)):Prop where
 is:IM w b m
 one:∀ p ∈ m,p.2=1
 has:∀ k,(mget m k).isSome=S k
theorem Mk.get {w:World}{b:Nat}{S:Nat→Bool}{m:List (Nat×Nat)}(h:Mk w b S m)(k:Nat):mget m k=if S k then some 1 else none:=by
 have:=h.has k
 cases hg:mget m k with
 | none=>rw[hg]at this;rw[← this];rfl
 | some u=>rw[hg]at this;have h1:=h.one _ (zfi hg);simp only at h1;rw[← this,h1];rfl
theorem zvw {w:World}{b:Nat}{S:Nat→Bool}{m:List (Nat×Nat)}(h:Mk w b S m){k:Nat}(hk:k<1000000) :
  (Instr.lookup 310 (.map (some b)) (.int .i64 (k:Int)) false).run Tryz.prog w=.ok (.int .i64 (if S k then 1 else 0)) w:=by
 have:=h.is.lookup (t:=310) (e:=3) ikey Tryz.underlying310 (z:=.int .i64 0) (Tryz.zeroValue3 w) hk false
 rw[this,h.get]
 cases S k <;> rfl
theorem zqs (w:World)(b k:Nat)(S:Nat→Bool)(m:List (Nat×Nat))(h:Mk w b S m)(hk:k<1000000) :
  Calls Tryz.prog 154 #[.map (some b),.int .i64 (k:Int)] w fun e w'=>e=.returned (.bool (S k))∧w=w':=by
 have hl:=zvw h hk
 clear h
 cases hS:S k
 all_goals
  rw[hS]at hl
  clear hS
  simp only[Bool.false_eq_true,if_true,if_false]at hl
  go_enter Tryz.func154,Tryz.ntmps154
  go_wp2_with fail
  go_ret
  exact⟨rfl,rfl⟩
theorem zbx {w:World}{B:Nat}{e:TypeId}{size:Nat}{v:Value}{n:Nat}{ys:List Value}(h:w.ownsRow B e size v n ys):∃ b c,v=.slice b n c:=by
 rcases h.2 with⟨rfl,rfl⟩ | ⟨g,cap,_,rfl,_⟩
 ·exact⟨none,0,rfl⟩
 ·exact⟨_,cap,rfl⟩
theorem zsl {P:Program}{t e:TypeId}{size bytes:Nat}(T:zbl P t e size bytes){w:World}{ops:Array Oper}{rest:List Oper}{o:Oper}{a:Act}{Q:Exit→Act→World→Prop}
  (hgd:o.guard=none) (s x:Operand) (ho:o.op=.call { callee:=.builtin .append,args:=#[s,x],argTypes:=#[t,t] })
  (B B2:Nat) (v v2:Value) (n m:Nat) (xs ys:List Value) (hs:a.eval s=v) (hx:a.eval x=v2)
  (hown:w.ownsRow B e size v n xs) (hsrc:w.ownsRow B2 e size v2 m ys) (h0:m=0→v2=.slice none 0 0)
  (h1:∀ u ∈ ys,u.oneCell'=true) (hn:n+m<1000000) (hB:B≤w.heap.size)
  (h:∀ b c w',w'.ownsRow B e size (.slice b (n+m) c) (n+m) (xs++ys)→w.grownBy w' v.ownBlock→wpList P ops Q rest (a.put o.dst (.slice b (n+m) c)) w') :
  wpList P ops Q (o::rest) a w:=by
 obtain⟨i,z,hi,hz,hs1,hs2,hs3⟩:=T.info
 rcases Nat.eq_zero_or_pos m with hm | hm
 ·have hv2:=h0 hm
  subst hm
  have hys:ys=[]:=by have:=hsrc.1;simpa using this
  subst hys
  obtain⟨b,c,rfl⟩:=zbx hown
  rw[hv2]at hx
  refine wpList_append_own_none hgd s x t ho B e i size T.ut hi _ n xs hs hown hx ?_
  exact h b c w (by simpa using hown) (World.grownBy.refl _ _)
 ·obtain⟨g,cap,hv,hb,hl⟩:=hsrc.form hm
  have hbb:(n+m)*bytes≤1000000*1000:=Nat.mul_le_mul (by omega) T.small
  subst hv
  refine wpList_append_lies w hgd s x t ho B e i z size bytes T.ut hi hz hs1 hs2 hs3 T.pos v n xs hs hown ⟨g,0,none⟩ m cap ys hx hsrc.1 (hsrc.cells rfl) h1 hm (by unfold maxLen;omega) (by omega) hB w.heap.size rfl ?_
  intro g' cap' w' h2 h3 _ _
  exact h _ _ w' h2 h3
theorem zji:zbl Tryz.prog 67 3 1 8:=zbl.mk' Tryz.underlying67 (z:=.int .i64 0) (by kernel_rfl) rfl (by decide) (by decide)
abbrev ints (l:List Nat):List Value:=l.map zeg
theorem zrn (l:List Nat):∀ u ∈ ints l,u.oneCell'=true:=fun u hu=>by obtain⟨n,_,rfl⟩:=List.mem_map.1 hu;rfl
theorem IM.nodup {w:World}{b:Nat}{m:List (Nat×Nat)}(h:IM w b m):(m.map Prod.fst).Nodup:=by obtain⟨_,_,_,_,h,_⟩:=h;exact h
theorem row_pop {w:World}{B:Nat}{e:TypeId}{b:Option Addr}{c:Nat}{l:List Nat}{x:Nat}(h:w.ownsRow B e 1 (.slice b (l.length+1) c) (l.length+1) (ints (l++[x]))):w.ownsRow B e 1 (.slice b l.length c) l.length (ints l):=by
 obtain⟨h1,h2⟩:=h
 refine⟨by simp,?_⟩
 rcases h2 with⟨h2,h3⟩ | ⟨g,cap,cur,hv,hg,hh,hn,hc,hz,ht⟩
 ·omega
 ·injection hv with hv1 hv2 hv3
  subst hv1 hv3
  refine .inr ⟨g,c,cur,rfl,hg,hh,by omega,hc,hz,?_⟩
  have:=congrArg (List.take l.length) ht
  rw[List.take_take]at this
  simp at this
  rw[Nat.mul_one,this]
theorem zhf {w w1:World}{B:Nat}{e:TypeId}{size:Nat}{v:Value}{n:Nat}{xs:List Value}(h:w.ownsRow B e size v n xs)(hk:∀ k,v.ownBlock=some k→w1.heap[k]? = w.heap[k]?):w1.ownsRow B e size v n xs:=by
 obtain⟨h1,h2⟩:=h
 refine⟨h1,?_⟩
 rcases h2 with h2 | ⟨g,cap,cur,hv,hg,hh,r⟩
 ·exact .inl h2
 ·subst hv
  exact .inr ⟨g,cap,cur,rfl,hg,(hk g rfl).trans hh,r⟩
inductive zbr (next:Nat→List Nat)(start:List Nat):Nat→Prop
 | start {k:Nat}:k ∈ start→zbr next start k
 | step {k j:Nat}:zbr next start k→j ∈ next k→zbr next start j
def zdw (W:World)(l:List Nat)(e:Ending)(W':World):Prop :=
 ∃ v,e=.returned v∧W'.ownsRow W.heap.size 3 1 v l.length (ints l)∧(l.length=0→v=.slice none 0 0)∧Below W.heap.size W W'
def zik (w:World)(next:Nat→List Nat)(start:List Nat)(e:Ending)(w':World):Prop :=
 ∃ mb S m,e=.returned (.map (some mb))∧w.heap.size≤mb∧Mk w' mb S m∧(∀ k,S k=true↔zbr next start k)∧Below w.heap.size w w'
structure zky (w:World)(next:Nat→List Nat)(start:List Nat)(N D:Nat)(mb:Nat)(g:Nat)(v:Value)(W:World)(l:List Nat)(S:Nat→Bool)(m:List (Nat×Nat)):Prop where
 row:W.ownsRow w.heap.size 3 1 v l.length (ints l)
 mks:Mk W mb S m
 bel:Below w.heap.size w W
 lr:∀ k ∈ l,zbr next start k
 mr:∀ k,S k=true→zbr next start k
 st:∀ k ∈ start,k ∈ l∨S k=true
 cl:∀ k,S k=true→∀ j ∈ next k,j ∈ l∨S j=true
 len:l.length≤start.length+m.length*D
 g:g=(N-m.length)*(D+1)+l.length
 nd:m.length≤N
 hmb:w.heap.size≤mb
def zle (w:World)(next:Nat→List Nat)(start:List Nat)(N D:Nat)(mb:Nat)(g:Nat)(v:Value)(W:World):Prop:=∃ l S m,zky w next start N D mb g v W l S m
theorem Mk.of_block {w w':World}{b:Nat}{S:Nat→Bool}{m:List (Nat×Nat)}(h:Mk w b S m)(hb:w'.heap[b]? = w.heap[b]?):Mk w' b S m:=⟨h.is.of_block hb,h.one,h.has⟩
theorem Mk.lt {w:World}{b:Nat}{S:Nat→Bool}{m:List (Nat×Nat)}(h:Mk w b S m):b<w.heap.size:=h.is.lt
theorem zpx {w:World}{B b:Nat}{e:TypeId}{size n:Nat}{v:Value}{ys:List Value}{S:Nat→Bool}{m:List (Nat×Nat)}(h:w.ownsRow B e size v n ys)(hm:Mk w b S m):v.ownBlock≠some b:=by
 intro e
 rcases h.2 with⟨rfl,_⟩ | ⟨g,cap,cur,rfl,_,hh,_⟩
 ·cases e
 ·injection e with e
  subst e
  exact hm.is.cellFar (g:=g) hh rfl
theorem zll (w:World):Mk (w.alloc (.map #[] 0)) w.heap.size (fun _=>false) []:=⟨zaf.made _ _ _ _,by simp,fun _=>rfl⟩
theorem zt4 {w w1:World}{next:Nat→List Nat}{start:List Nat}{N D:Nat}{v:Value}(hrow:w1.ownsRow w.heap.size 3 1 v start.length (ints start))(hg:(w.alloc (.map #[] 0)).grownBy w1 none) :
  zle w next start N D w.heap.size (N*(D+1)+start.length) v w1 :=
 ⟨start,fun _=>false,[],hrow,(zll w).of_block (hg.block _ (by simp) (by simp)),((Below.refl _ w).alloc (Nat.le_refl _) _).grown hg (by simp) (by simp),fun k hk=>.start hk,by simp,fun k hk=>.inl hk,by simp,by simp,by simp,Nat.zero_le _,Nat.le_refl _⟩
theorem zw9 {w W:World}{next:Nat→List Nat}{start l:List Nat}{N D mb g x:Nat}{v v':Value}{S:Nat→Bool}{m:List (Nat×Nat)}(R:zky w next start N D mb g v W (l++[x]) S m)(hp:W.ownsRow w.heap.size 3 1 v' l.length (ints l))(hS:S x=true) :
  zle w next start N D mb ((N-m.length)*(D+1)+l.length) v' W :=
 ⟨l,S,m,hp,R.mks,R.bel,fun k hk=>R.lr k (by simp[hk]),R.mr,fun k hk=>(R.st k hk).elim (fun h=>by
  rcases List.mem_append.1 h with h | h
  ·exact .inl h
  ·rw[List.mem_singleton.1 h];exact .inr hS) .inr,fun k hk j hj=>(R.cl k hk j hj).elim (fun h=>by
  rcases List.mem_append.1 h with h | h
  ·exact .inl h
  ·rw[List.mem_singleton.1 h];exact .inr hS) .inr,by have:=R.len;simp at this;omega,rfl,R.nd,R.hmb⟩
theorem zsg {w W:World}{next:Nat→List Nat}{start l:List Nat}{N D mb g x:Nat}{v:Value}{S:Nat→Bool}{m:List (Nat×Nat)}(R:zky w next start N D mb g v W (l++[x]) S m)(hS:S x=false)(hx:x<N)(hNm:∀ k,S k=true→k<N):m.length+1≤N:=by
 have hg:mget m x=none:=by have:=R.mks.has x;rw[hS]at this;simpa using this
 have hlen:(mput m x 1).length=m.length+1:=by rw[zma,if_pos hg]
 rw[← hlen,show(mput m x 1).length=((mput m x 1).map Prod.fst).length by simp]
 have:((mput m x 1).map Prod.fst).length≤(List.range N).length:=List.Nodup.length_le_of_subset (zl8 (IM.nodup R.mks.is) x 1) (fun k hk=>by
  obtain⟨p,hp,rfl⟩:=List.mem_map.1 hk
  rw[List.mem_range]
  rcases zg6 hp with rfl | hp
  ·exact hx
  ·refine hNm p.1 ?_
   rw[← R.mks.has p.1,zhl (v:=p.2) (IM.nodup R.mks.is) hp];rfl)
 simpa using this
theorem zsy {w W W3 W4 W5:World}{next:Nat→List Nat}{start l:List Nat}{N D mb g x:Nat}{v v':Value}{S:Nat→Bool}{m:List (Nat×Nat)}(R:zky w next start N D mb g v W (l++[x]) S m)(hS:S x=false)(hx:x<N)(hNm:∀ k,S k=true→k<N)
  (hm3:IM W3 mb (mput m x 1)) (hg3:W.grownBy W3 (some mb)) (hb4:Below W3.heap.size W3 W4) (hrow5:W5.ownsRow w.heap.size 3 1 v' (l.length+(next x).length) (ints l++ints (next x))) (hg5:W4.grownBy W5 v.ownBlock) (hD:(next x).length≤D) :
  zle w next start N D mb ((N-(m.length+1))*(D+1)+(l.length+(next x).length)) v' W5:=by
 have hg:mget m x=none:=by have:=R.mks.has x;rw[hS]at this;simpa using this
 have hlen:(mput m x 1).length=m.length+1:=by rw[zma,if_pos hg]
 have hsep:=zpx R.row R.mks
 have hlt:=R.mks.lt
 have hz:W.heap.size≤W3.heap.size:=hg3.size
 have hmk3:Mk W3 mb (fun k=>S k||decide (k=x)) (mput m x 1):=⟨hm3,fun p hp=>by rcases zg6 hp with rfl | hp;exact rfl;exact R.mks.one p hp,fun k=>by
  rw[zh1]
  by_cases e:x=k
  ·subst e;simp
  ·rw[if_neg e,R.mks.has k];simp[show k≠x from fun h=>e h.symm]⟩
 have hmk5:Mk W5 mb (fun k=>S k||decide (k=x)) (mput m x 1):=hmk3.of_block ((hg5.block mb (by have:=hb4.size;omega) (fun e=>hsep e.symm)).trans (hb4.block mb (by omega)))
 have hnd:m.length+1≤N:=zsg R hS hx hNm
 have hb3:Below w.heap.size w W3:=R.bel.grown hg3 R.bel.size (fun k e=>by cases e;exact R.hmb)
 have hb4':Below w.heap.size w W4:=hb3.trans (hb4.mono hb3.size)
 have hb5:Below w.heap.size w W5:=hb4'.grown hg5 hb4'.size (fun k e=>(R.row.lt k e).1)
 have ex:ints (l++next x)=ints l++ints (next x):=by simp[ints]
 refine⟨l++next x,_,mput m x 1,by rw[ex,List.length_append];exact hrow5,hmk5,hb5,?_,?_,?_,?_,?_,?_,by rw[hlen];exact hnd,R.hmb⟩
 ·intro k hk
  rcases List.mem_append.1 hk with hk | hk
  ·exact R.lr k (by simp[hk])
  ·exact .step (R.lr x (by simp)) hk
 ·intro k hk
  by_cases e:k=x
  ·subst e;exact R.lr k (by simp)
  ·exact R.mr k (by simpa [e] using hk)
 ·intro k hk
  rcases R.st k hk with h | h
  ·rcases List.mem_append.1 h with h | h
   ·exact .inl (by simp[h])
   ·rw[List.mem_singleton.1 h];exact .inr (by simp)
  ·exact .inr (by simp[h])
 ·intro k hk j hj
  by_cases e:k=x
  ·subst e;exact .inl (by simp[hj])
  ·rcases R.cl k (by simpa [e] using hk) j hj with h | h
   ·rcases List.mem_append.1 h with h | h
    ·exact .inl (by simp[h])
    ·rw[List.mem_singleton.1 h];exact .inr (by simp)
   ·exact .inr (by simp[h])
 ·have:=R.len
  simp only[List.length_append,List.length_cons,List.length_nil]at this ⊢
  rw[hlen,Nat.succ_mul]
  omega
 ·rw[hlen];simp
theorem znh (nf:FuncId)(first cap:Array Value)(next:Nat→List Nat)(start:List Nat)(b0:Option Addr)(c0 B0 N D:Nat)(w:World)
  (eg:∀ args w,(callFunc nf args).run Tryz.prog w=.ok (.enter nf args) w)
  (hN:N≤1000) (hD:D≤300) (hs:start.length≤1000)
  (hrow:w.ownsRow B0 3 1 (.slice b0 start.length c0) start.length (ints start)) (h0:start.length=0→b0=none∧c0=0)
  (hb:∀ k,zbr next start k→k<N∧(next k).length≤D)
  (hn:∀ k W,zbr next start k→Below w.heap.size w W→Calls Tryz.prog nf (first++#[.int .i64 (k:Int)]++cap) W (zdw W (next k))) :
  Calls Tryz.prog 217 #[.func (.func nf) first cap,.slice b0 start.length c0] w (zik w next start):=by
 have hmm:=@run_makeMap Tryz.prog
 have HR:=zH hrow
 have HN:=zH hn
 have H0:=zH h0
 have HB:=zH hb
 clear hrow hn h0 hb
 go_enter Tryz.func217,Tryz.ntmps217
 go_wp2_with (refine zsl zji rfl _ _ rfl w.heap.size B0 (.slice none 0 0) (.slice b0 start.length c0) 0 start.length [] (ints start) rfl rfl (World.ownsRow_nil _ _ _ _) (HR.out.alloc _) (fun h=>by obtain⟨h1,h2⟩:=H0.out h;rw[h1,h2,h]) (zrn _) (by omega) (by simp) ?_;intro b1 c1 w1 hrow1 hg1)
 clear hmm
 simp only[Nat.zero_add,List.nil_append]at hrow1
 have ST:=zH (zt4 (next:=next) (N:=N) (D:=D) hrow1 hg1)
 clear hrow1 hg1
 go_loopg [6] (N*(D+1)+start.length) (fun g v wr=>zle w next start N D w.heap.size g v wr)
 case atStart=>exact ST.out
 case round =>
  obtain⟨l,S,m,R⟩:=hrel
  have RR:=zH R
  have hll:l.length≤301000:=by
   have h1:=R.len;have h2:=R.nd
   have h3:m.length*D≤N*D:=Nat.mul_le_mul_right _ h2
   have h4:N*D≤1000*300:=Nat.mul_le_mul hN hD
   omega
  rcases List.eq_nil_or_concat l with hl | ⟨l',x,hl⟩
  ·subst hl
   obtain⟨rb,rc,hv⟩:=zbx R.row
   rw[hv]
   have FIN:=zH (show zik w next start (.returned (.map (some w.heap.size))) wr from
    ⟨w.heap.size,S,m,rfl,Nat.le_refl _,R.mks,fun k=>⟨R.mr k,fun h=>by
     induction h with
     | start h=>exact(R.st _ h).resolve_left (by simp)
     | step _ h2 ih=>exact(R.cl _ ih _ h2).resolve_left (by simp)⟩,R.bel⟩)
   clear R
   go_wp2_with fail
   go_ret
   exact FIN.out
  ·rw[List.concat_eq_append]at hl
   subst hl
   obtain⟨gb,gc,hv,hgB,hgl⟩:=R.row.form (by simp)
   subst hv
   simp only[List.length_append,List.length_cons,List.length_nil,Nat.zero_add]at hll ⊢
   have hrow:=R.row
   simp only[List.length_append,List.length_cons,List.length_nil,Nat.zero_add]at hrow
   have hcell:wr.cell? ⟨gb,l'.length,none⟩=some (.int .i64 (x:Int)):=by
    rw[hrow.cellAt l'.length (by omega)]
    simp[ints,zeg]
   have hcap:l'.length+1≤gc:=by
    rcases hrow.2 with⟨h,_⟩ | ⟨_,cap,_,h,_,_,h2,_⟩
    ·cases h
    ·injection h with _ _ h3;omega
   have hcap2:gc≤9223372036854775807:=by
    rcases hrow.2 with⟨h,_⟩ | ⟨_,cap,_,h,_,_,_,h2,_⟩
    ·cases h
    ·injection h with _ _ h3;unfold maxLen at h2;omega
   have hx:zbr next start x:=R.lr x (by simp)
   have hxN:=(HB.out x hx).1
   have HP:=zH (row_pop hrow)
   have HX:=zH hx
   clear R hrow hx
   go_wp2_with fail
   refine(zqs wr w.heap.size x S m RR.out.mks (by omega)).mono ?_
   rintro e w2 ⟨rfl,rfl⟩
   cases hS:S x
   ·obtain⟨w3,hrun,hm3,hg3,hz3⟩:=RR.out.mks.is.update (t:=310) (e:=3) ikey Tryz.underlying310 (x:=x) (by omega) 1
    have hrun':(Instr.mapUpdate 310 (.map (some w.heap.size)) (.int .i64 (x:Int)) (.int .i64 1)).run Tryz.prog wr=.ok () w3:=hrun
    clear hrun
    have hb3:Below w.heap.size w w3:=RR.out.bel.grown hg3 RR.out.bel.size (fun k e=>by cases e;exact Nat.le_refl _)
    have HC:=zH (HN.out x w3 HX.out hb3)
    have HM3:=zH hm3
    have HG3:=zH hg3
    have HS:=zH hS
    have HB3:=zH hb3
    clear hm3 hg3 hb3 hS hz3
    go_wp2_with fail
    refine HC.out.mono ?_
    rintro e w4 ⟨v,rfl,hrow4,h04,hb4⟩
    have HR4:=zH hrow4
    have H04:=zH h04
    have HB4:=zH hb4
    have hDx:=(HB.out x HX.out).2
    clear hrow4 h04 hb4 hrun' hcell
    have HP4:=zH (show w4.ownsRow w.heap.size 3 1 (.slice (some ⟨gb,0,none⟩) l'.length gc) l'.length (ints l')from
     zhf HP.out fun k e=>by
      have hk:gb=k:=by simpa [Value.ownBlock] using e
      subst hk
      exact(HB4.out.block gb (Nat.lt_of_lt_of_le hgl HG3.out.size)).trans (HG3.out.block gb hgl (fun e=>zpx RR.out.row RR.out.mks (by rw[← e];rfl))))
    have hz4:w.heap.size≤w4.heap.size:=Nat.le_trans HB3.out.size HB4.out.size
    go_wp2_with (refine zsl zji rfl _ _ rfl w.heap.size w3.heap.size (.slice (some ⟨gb,0,none⟩) l'.length gc) v l'.length (next x).length (ints l') (ints (next x)) rfl rfl HP4.out HR4.out H04.out (zrn _) (by omega) hz4 ?_;intro b5 c5 w5 hrow5 hg5)
    have REL:=zH (zsy RR.out HS.out hxN (fun k hk=>(HB.out k (RR.out.mr k hk)).1) HM3.out HG3.out HB4.out hrow5 hg5 hDx)
    clear hrow5 hg5
    go_roundg ((N-(m.length+1))*(D+1)+(l'.length+(next x).length))
    case measure =>
     have h1:=RR.out.g
     obtain⟨l0,S0,m0,R0⟩:=REL.out
     have h2:=R0.g
     simp at h1
     have h3:m.length+1≤N:=zsg RR.out HS.out hxN (fun k hk=>(HB.out k (RR.out.mr k hk)).1)
     obtain⟨q,hq⟩:∃ q,N-m.length=q+1:=⟨N-m.length-1,by omega⟩
     rw[hq,Nat.succ_mul]at h1
     rw[show N-(m.length+1)=q by omega]
     omega
    case rel=>exact REL.out
   ·have HS:=zH hS
    have REL:=zH (zw9 RR.out HP.out HS.out)
    clear hS
    go_wp2_with fail
    go_roundg ((N-m.length)*(D+1)+l'.length)
    case measure=>have:=RR.out.g;simp at this;omega
    case rel=>exact REL.out
end
section
open Go.RowKit Go.Maps
structure Rule where
 f:FuncId
 first:Array Value
 cap:Array Value
def ruleV (r:Rule):Value:=.func (.func r.f) r.first r.cap
def zhm {σ : Type}(Inv:σ → World→Prop)(μ : σ → Nat)(Cl:σ → Prop)(s:σ)(e:Ending)(W':World):Prop :=
 ∃ s' c,e=.returned (.bool c)∧Inv s' W'∧(c=true→μ s' < μ s)∧(c=false→s'=s∧Cl s)
def zrx {σ : Type}(Inv:σ → World→Prop)(μ : σ → Nat)(r:Rule)(Cl:σ → Prop):Prop :=
 (∀ args w,(callFunc r.f args).run Tryz.prog w=.ok (.enter r.f args) w)∧∀ s W,Inv s W→Calls Tryz.prog r.f (r.first++r.cap) W (zhm Inv μ Cl s)
def zqx {σ : Type}(Inv:σ → World→Prop)(Cls:List (σ → Prop))(e:Ending)(W':World):Prop:=∃ s,e=.returned (.tuple #[])∧Inv s W'∧∀ C ∈ Cls,C s
def zl3 {σ : Type}(Inv:σ → World→Prop)(μ : σ → Nat)(Cls:List (σ → Prop))(g:Nat)(v:Value)(W:World):Prop :=
 ∃ s more,v=.bool more∧Inv s W∧(more=true→g=μ s+1)∧(more=false→g=0∧∀ C ∈ Cls,C s)
def FixIn {σ : Type}(Inv:σ → World→Prop)(μ : σ → Nat)(Cls:List (σ → Prop))(m0:Nat)(g:Nat)(v iv:Value)(W:World):Prop :=
 ∃ (s:σ) (more:Bool) (j:Nat),v=.bool more∧iv=.int .i64 j∧g=Cls.length-j∧j≤Cls.length∧Inv s W∧(more=true→μ s<m0)∧(more=false→μ s≤m0∧∀ C ∈ Cls.take j,C s)
theorem zkb {σ : Type}(Inv:σ → World→Prop)(μ : σ → Nat)(rs:List Rule)(Cls:List (σ → Prop))(rb:Nat)(c0:Nat)(w:World)(s:σ)
  (hl:Cls.length=rs.length) (h1:1≤rs.length∧rs.length≤10) (hs:Inv s w) (hrow:∀ s W,Inv s W→∀ (j:Nat) (r:Rule),rs[j]? = some r→W.cell? ⟨rb,j,none⟩=some (ruleV r))
  (hr:∀ (j:Nat) (r:Rule) (C:σ → Prop),rs[j]? = some r→Cls[j]? = some C→zrx Inv μ r C) :
  Calls Tryz.prog 221 #[.slice (some ⟨rb,0,none⟩) rs.length c0] w (zqx Inv Cls):=by
 have ST:=zH (show zl3 Inv μ Cls (μ s+1) (.bool true) w from⟨s,true,rfl,hs,fun _=>rfl,fun h=>by cases h⟩)
 have HL:=zH hl
 have HROW:=zH hrow
 have HR:=zH hr
 clear hs hrow hr hl
 go_enter Tryz.func221,Tryz.ntmps221
 go_wp2_with fail
 go_loopg [2] (μ s+1) (fun g v wr=>zl3 Inv μ Cls g v wr)
 case atStart=>exact ST.out
 case round =>
  obtain⟨s1,more,rfl,hI,hm1,hm2⟩:=hrel
  cases more
  ·have FIN:=zH (show zqx Inv Cls (.returned (.tuple #[])) wr from⟨s1,rfl,hI,(hm2 rfl).2⟩)
   clear hI hm1 hm2
   go_wp2_with fail
   first | go_end0 | refine bodyPost_ret (results_none rfl _ _ _) rfl ?_
   exact FIN.out
  ·have HG:=zH (hm1 rfl)
   have ST2:=zH (show FixIn Inv μ Cls (μ s1) Cls.length (.bool false) (.int .i64 (0:Int)) wr from⟨s1,false,0,rfl,rfl,rfl,Nat.zero_le _,hI,fun h=>(by cases h),fun _=>⟨Nat.le_refl _,by simp⟩⟩)
   clear hI hm1 hm2
   go_wp2_with fail
   go_loopg [2,8] Cls.length (fun g v iv wr=>FixIn Inv μ Cls (μ s1) g v iv wr)
   case atStart=>exact ST2.out
   case round =>
    rename_i wr0
    obtain⟨s2,more,j,rfl,rfl,hg,hj,hI,hm1,hm2⟩:=hrel
    have HG2:=zH hg
    have HM1:=zH hm1
    have HM2:=zH hm2
    have HI:=zH hI
    have HJ:=zH hj
    clear hg hm1 hm2 hI hj
    by_cases hlt:j<rs.length
    ·obtain⟨r,hrj⟩:∃ r,rs[j]? = some r:=⟨_,List.getElem?_eq_getElem hlt⟩
     obtain⟨C,hCj⟩:∃ C,Cls[j]? = some C:=⟨_,List.getElem?_eq_getElem (by rw[HL.out];exact hlt)⟩
     have hcell:wr.cell? ⟨rb,j,none⟩=some (.func (.func r.f) r.first r.cap):=HROW.out s2 wr HI.out j r hrj
     obtain⟨eg,hcall⟩:=HR.out j r C hrj hCj
     have HC:=zH (hcall s2 wr HI.out)
     have HCJ:=zH hCj
     clear hrj hCj hcall
     go_wp2_with fail
     refine HC.out.mono ?_
     rintro e w5 ⟨s3,c,rfl,hI3,hc1,hc2⟩
     have hlen:Cls.length=rs.length:=HL.out
     cases c
     ·obtain⟨e1,hC⟩:=hc2 rfl
      subst e1
      have REL:=zH (show FixIn Inv μ Cls (μ s1) (Cls.length-(j+1)) (.bool more) (.int .i64 ((j+1:Nat):Int)) w5 from
       ⟨s3,more,j+1,rfl,rfl,rfl,by omega,hI3,HM1.out,fun hm=>⟨(HM2.out hm).1,fun D hD=>by
        rw[List.take_add_one,HCJ.out]at hD
        rcases List.mem_append.1 hD with hD | hD
        ·exact(HM2.out hm).2 D hD
        ·have hD':D=C:=by simpa using hD
         rw[hD'];exact hC⟩⟩)
      clear hI3 hc1 hc2 hC hcell
      go_wp2_with fail
      go_roundg (Cls.length-(j+1))
      case measure=>have:=HG2.out;omega
      case rel=>rw[show((j:Int)+1)=((j+1:Nat):Int) by omega];exact REL.out
     ·have hlt3:μ s3 < μ s1:=by
       have h3:=hc1 rfl
       cases more
       ·have:=(HM2.out rfl).1;omega
       ·have:=HM1.out rfl;omega
      have REL:=zH (show FixIn Inv μ Cls (μ s1) (Cls.length-(j+1)) (.bool true) (.int .i64 ((j+1:Nat):Int)) w5 from
       ⟨s3,true,j+1,rfl,rfl,rfl,by omega,hI3,fun _=>hlt3,fun h=>by cases h⟩)
      clear hI3 hc1 hc2 hcell hlt3
      go_wp2_with fail
      go_roundg (Cls.length-(j+1))
      case measure=>have:=HG2.out;omega
      case rel=>rw[show((j:Int)+1)=((j+1:Nat):Int) by omega];exact REL.out
    ·have hj:j=Cls.length:=by have:=HL.out;have:=HJ.out;omega
     have hj2:j=rs.length:=by have:=HL.out;omega
     cases more
     ·have REL:=zH (show zl3 Inv μ Cls 0 (.bool false) wr from⟨s2,false,rfl,HI.out,fun h=>(by cases h),fun _=>⟨rfl,by have:=(HM2.out rfl).2;rw[hj,List.take_length]at this;exact this⟩⟩)
      subst hj2
      clear hj hlt
      go_wp2_with fail
      go_roundg 0
      case measure=>have:=HG.out;omega
      case rel=>exact REL.out
     ·have REL:=zH (show zl3 Inv μ Cls (μ s2+1) (.bool true) wr from⟨s2,true,rfl,HI.out,fun _=>rfl,fun h=>by cases h⟩)
      have hlt2:=HM1.out rfl
      subst hj2
      clear hj hlt
      go_wp2_with fail
      go_roundg (μ s2+1)
      case measure=>have:=HG.out;omega
      case rel=>exact REL.out
end
section
open Go.RowKit Go.Maps Go.ChangeMaps
structure Use where
 f:Nat
 n:Nd
 put:Bool
 deriving DecidableEq
structure PS where
 ho:Nd→Nat
 ht:Nd→Nat
 to:Nd→Nd→Bool
 us:Nd→List Use
def PS.none:PS:=⟨fun _=>0,fun _=>0,fun _ _=>false,fun _=>[]⟩
def zcj (st:PS)(n:Nd)(o t:Nat):PS:={ st with ho:=fun x=>if x=n then st.ho x|||o else st.ho x,ht:=fun x=>if x=n then st.ht x|||t else st.ht x }
def zdn (st:PS)(n:Nd)(o t:Nat):Bool:=((st.ho n|||o) != st.ho n)||((st.ht n|||t) != st.ht n)
def zbd (st:PS)(a b:Nd):PS:={ st with to:=fun x y=>decide (x=a∧y=b)||st.to x y }
def useM (st:PS)(n:Nd)(u:Use):PS:={ st with us:=fun x=>if x=n then st.us x++[u]else st.us x }
theorem zvp {st:PS}{n:Nd}{o t:Nat}(h:zdn st n o t=false):zcj st n o t=st:=by
 simp only[zdn,Bool.or_eq_false_iff,bne_eq_false_iff_eq]at h
 obtain⟨h1,h2⟩:=h
 cases st
 simp only[zcj,PS.mk.injEq,and_true]
 refine⟨funext fun x=>?_,funext fun x=>?_⟩
 ·by_cases e:x=n
  ·subst e;rw[if_pos rfl];exact h1
  ·rw[if_neg e]
 ·by_cases e:x=n
  ·subst e;rw[if_pos rfl];exact h2
  ·rw[if_neg e]
theorem zmk {st:PS}{a b:Nd}(h:st.to a b=true):zbd st a b=st:=by
 cases st
 simp only[zbd,PS.mk.injEq,and_true,true_and]
 refine funext fun x=>funext fun y=>?_
 by_cases e:x=a∧y=b
 ·obtain⟨rfl,rfl⟩:=e;simpa using h
 ·rw[decide_eq_false e,Bool.false_or]
theorem zr0 {w:World}{B e size n k:Nat}{v:Value}{ys:List Value}(h:w.ownsRow B e size v n ys)(hk:v.ownBlock=some k):∃ cs,Blk w k e cs:=by
 rcases h.2 with⟨rfl,_⟩ | ⟨g,cap,cur,rfl,_,hh,_⟩
 ·cases hk
 ·injection hk with hk
  subst hk
  exact⟨cur,hh⟩
theorem zsk {α β : Type}{a a':α}{b:β}:∀ {l:List (α × β)},(l.map Prod.snd).Nodup→(a,b) ∈ l→(a',b) ∈ l→a=a'
 | [],_,h,_=>by simp at h
 | p::l,hn,h,h'=>by
  simp only[List.map_cons,List.nodup_cons]at hn
  rcases List.mem_cons.1 h with h | h <;> rcases List.mem_cons.1 h' with h' | h'
  ·rw[← h]at h';injection h' with h';exact h'.symm
  ·exact absurd (List.mem_map.2 ⟨_,h',by rw[← h]⟩) hn.1
  ·exact absurd (List.mem_map.2 ⟨_,h,by rw[← h']⟩) hn.1
  ·exact zsk hn.2 h h'
abbrev hdV (p:Nat×Nat):Value:=.agg #[zaa p.1,zaa p.2]
def zd6 (u:Use):List Value:=[.int .i64 u.f,.int .u8 u.n.k,.int .i64 u.n.a,.int .i64 u.n.b,.bool u.put]
def NkE (w:World)(b:Nat)(S:Nd→Bool):Prop:=∃ m:List (Nd×Nat),zaf w b ndV NdOk zeg m∧(∀ p ∈ m,p.2=1)∧∀ k,(mget m k).isSome=S k
structure PtV where
 sb:Nat
 hb:Nat
 tb:Nat
 ub:Nat
def zeh (fb:Nat)(V:PtV)(out:Nat):Array Value:=#[.pointer (some ⟨fb,0,none⟩),.map (some V.hb),.map (some V.tb),.map (some V.ub),zaa out]
structure PtM (w:World)(B fb:Nat)(V:PtV)(st:PS)(out:Nat)(mh:List (Nd×(Nat×Nat)))(mt:List (Nd×Nat))(mu:List (Nd×Value)):Prop where
 s:Blk w V.sb 383 (zeh fb V out)
 h:zaf w V.hb ndV NdOk hdV mh
 hv:∀ n,(mget mh n).getD (0,0)=(st.ho n,st.ht n)
 t:zaf w V.tb ndV NdOk (fun b=>.map (some b)) mt
 tn:(mt.map Prod.snd).Nodup
 ti:∀ n b,(n,b) ∈ mt→NkE w b (st.to n)∧B≤b∧b≠V.hb∧b≠V.tb∧b≠V.ub
 t0:∀ n,mget mt n=none→∀ y,st.to n y=false
 u:zaf w V.ub ndV NdOk id mu
 ur:∀ n v,(n,v) ∈ mu→w.ownsRow B 427 5 v (st.us n).length ((st.us n).flatMap zd6)
 un:∀ n v n' v',(n,v) ∈ mu→(n',v') ∈ mu→v.ownBlock=v'.ownBlock→v.ownBlock≠none→n=n'
 u0:∀ n,mget mu n=none→st.us n=[]
 bB:B≤V.sb∧B≤V.hb∧B≤V.tb∧B≤V.ub
 ne:V.hb≠V.tb∧V.hb≠V.ub∧V.tb≠V.ub
 sm:∀ n,st.ho n<2 ^ 48∧st.ht n<2 ^ 48
def ptObj:Obj→Bool
 | .map _ _=>true
 | .cells _ t _=>t==383||t==427
 | _=>false
structure PtKp (w w':World):Prop where
 size:w.heap.size≤w'.heap.size
 same:∀ (k:Nat) (o:Obj),w.heap[k]? = some o→ptObj o=true→w'.heap[k]? = some o
section
variable {w w' w2:World} {B fb:Nat} {V:PtV} {st:PS} {out:Nat} {mh:List (Nd×(Nat×Nat))} {mt:List (Nd×Nat)} {mu:List (Nd×Value)} {N b g:Nat} {S:Nd→Bool} {t:TypeId} {cs:Array Value}
theorem PtKp.refl (w:World):PtKp w w:=⟨Nat.le_refl _,fun _ _ h _=>h⟩
theorem PtKp.trans (h:PtKp w w')(h':PtKp w' w2):PtKp w w2:=⟨Nat.le_trans h.size h'.size,fun k o a b=>h'.same k o (h.same k o a b) b⟩
theorem PtKp.below (h:Below N w w')(hN:w.heap.size≤N):PtKp w w':=⟨h.size,fun k o a _=>(h.block k (Nat.lt_of_lt_of_le (lt_of_block a) hN)).trans a⟩
theorem PtKp.alloc (w:World)(o:Obj):PtKp w (w.alloc o):=PtKp.below ((Below.refl w.heap.size w).alloc (Nat.le_refl _) o) (Nat.le_refl _)
theorem PtKp.drew (w:World):PtKp w w.drew:=⟨Nat.le_refl _,fun _ _ h _=>h⟩
theorem PtKp.drewN (w:World)(n:Nat):PtKp w (w.drewN n):=⟨Nat.le_refl _,fun _ _ h _=>h⟩
theorem PtKp.recs (h:Recs N w w'):PtKp w w':=⟨h.size,fun k _ a b=>h.same k _ a (by rename_i o;cases o <;> first | rfl | cases b)⟩
theorem PtKp.set (hb:Blk w g t cs)(h1:t≠383)(h2:t≠427)(i:Nat)(u:Value):PtKp w (w.setCell ⟨g,i,none⟩ u) :=
 ⟨by simp[World.setCell],fun k _ a ho=>(Below.heap_setCell w ⟨g,i,none⟩ u k (fun e=>by
  subst e
  unfold Blk at hb
  rw[hb]at a
  injection a with a
  subst a
  simp[ptObj,h1,h2]at ho)).trans a⟩
theorem zaf.pt {κ ν : Type}{enc:κ → Value}{ok:κ → Prop}{encv:ν → Value}{m:List (κ × ν)}(h:zaf w b enc ok encv m)(hk:PtKp w w'):zaf w' b enc ok encv m:=by
 obtain⟨es,clock,h1,h2⟩:=h
 exact⟨es,clock,hk.same b _ h1 rfl,h2⟩
theorem NkE.pt (h:NkE w b S)(hk:PtKp w w'):NkE w' b S:=by
 obtain⟨m,h1,h2⟩:=h
 exact⟨m,h1.pt hk,h2⟩
theorem NkE.of_block (h:NkE w b S)(hb:w'.heap[b]? = w.heap[b]?):NkE w' b S:=by
 obtain⟨m,h1,h2⟩:=h
 exact⟨m,h1.of_block hb,h2⟩
theorem NkE.lt (h:NkE w b S):b<w.heap.size:=by
 obtain⟨m,h1,h2⟩:=h
 exact h1.lt
theorem row_pt {n:Nat}{v:Value}{xs:List Value}(h:w.ownsRow B 427 5 v n xs)(hk:PtKp w w'):w'.ownsRow B 427 5 v n xs:=by
 obtain⟨h1,h2⟩:=h
 refine⟨h1,?_⟩
 rcases h2 with h2 | ⟨g,cap,cur,hv,hg,hh,r⟩
 ·exact .inl h2
 ·exact .inr ⟨g,cap,cur,hv,hg,hk.same g _ hh (by simp[ptObj]),r⟩
theorem PtM.kp (h:PtM w B fb V st out mh mt mu)(hk:PtKp w w'):PtM w' B fb V st out mh mt mu :=
 ⟨hk.same _ _ h.s rfl,h.h.pt hk,h.hv,h.t.pt hk,h.tn,fun n b hb=>⟨(h.ti n b hb).1.pt hk,(h.ti n b hb).2⟩,h.t0,h.u.pt hk,fun n v hv=>row_pt (h.ur n v hv) hk,h.un,h.u0,h.bB,h.ne,h.sm⟩
theorem zaf.neRow {κ ν : Type}{enc:κ → Value}{ok:κ → Prop}{encv:ν → Value}{m:List (κ × ν)}{e:TypeId}{size n:Nat}{v:Value}{xs:List Value}(h:zaf w b enc ok encv m)(hr:w.ownsRow B e size v n xs):v.ownBlock≠some b:=by
 intro hv
 obtain⟨cs,hb⟩:=zr0 hr hv
 exact h.cellFar hb rfl
theorem PtM.setH {n:Nd}{o t:Nat}{p:Nat×Nat}(h:PtM w B fb V st out mh mt mu)(hm:zaf w' V.hb ndV NdOk hdV (mput mh n p))(hg:w.grownBy w' (some V.hb))(hp:p=(st.ho n|||o,st.ht n|||t))(ho:o<2 ^ 48)(ht:t<2 ^ 48):PtM w' B fb V (zcj st n o t) out (mput mh n p) mt mu:=by
 have hs:∀ {g},g<w.heap.size→g≠V.hb→w'.heap[g]? = w.heap[g]? := fun h1 h2=>hg.block _ h1 (fun e=>h2 (by injection e))
 refine⟨(hs h.s.lt (fun e=>h.h.cellFar h.s e.symm)).trans h.s,hm,fun x=>?_,h.t.of_block (hs h.t.lt h.ne.1.symm),h.tn,fun n b hb=>?_,h.t0,h.u.of_block (hs h.u.lt h.ne.2.1.symm),fun n v hv=>?_,h.un,h.u0,h.bB,h.ne,fun x=>?_⟩
 ·rw[zh1]
  simp only[zcj]
  by_cases e:n=x
  ·subst e;simp[hp]
  ·rw[if_neg e,if_neg (fun e'=>e e'.symm),if_neg (fun e'=>e e'.symm)];exact h.hv x
 ·obtain⟨a,b1,c,d⟩:=h.ti n b hb
  exact⟨a.of_block (hs a.lt c),b1,c,d⟩
 ·exact zhf (h.ur n v hv) fun k hk=>hs ((h.ur n v hv).lt k hk).2 (fun e=>h.h.neRow (h.ur n v hv) (by rw[hk,e]))
 ·simp only[zcj]
  have:=h.sm x
  constructor
  ·split
   ·exact Nat.or_lt_two_pow this.1 ho
   ·exact this.1
  ·split
   ·exact Nat.or_lt_two_pow this.2 ht
   ·exact this.2
theorem PtM.setT {a c:Nd}(h:PtM w B fb V st out mh mt mu)(hb:(a,b) ∈ mt)(hm:NkE w' b (fun y=>decide (y=c)||st.to a y))(hg:w.grownBy w' (some b)):PtM w' B fb V (zbd st a c) out mh mt mu:=by
 obtain⟨i1,i2,i3,i4,i5⟩:=h.ti a b hb
 have hs:∀ {g},g<w.heap.size→g≠b→w'.heap[g]? = w.heap[g]? := fun h1 h2=>hg.block _ h1 (fun e=>h2 (by injection e))
 have hnd:=h.t
 have hcf:∀ {g t cs},Blk w g t cs→g≠b:=fun hb' e=>by
  obtain⟨m,h1,_⟩:=i1
  exact h1.cellFar hb' e.symm
 refine⟨(hs h.s.lt (hcf h.s)).trans h.s,h.h.of_block (hs h.h.lt i3.symm),h.hv,h.t.of_block (hs h.t.lt i4.symm),h.tn,fun n b' hb'=>?_,fun n hn y=>?_,h.u.of_block (hs h.u.lt i5.symm),fun n v hv=>?_,h.un,h.u0,h.bB,h.ne,h.sm⟩
 ·obtain⟨j1,j2⟩:=h.ti n b' hb'
  refine⟨?_,j2⟩
  by_cases e:n=a
  ·subst e
   obtain⟨_,_,_,_,hk,_⟩:=h.t
   have e1:=zhl hk hb
   have e2:=zhl hk hb'
   rw[e1]at e2
   injection e2 with e2
   subst e2
   simpa [zbd] using hm
  ·have hne:b'≠b:=fun e'=>e (by
    subst e'
    exact zsk h.tn hb' hb)
   have:=j1.of_block (hs j1.lt hne)
   simpa [zbd,e] using this
 ·simp only[zbd]
  have:n≠a:=fun e=>by
   subst e
   exact zlj.1 hn _ hb rfl
  simp[this,h.t0 n hn y]
 ·exact zhf (h.ur n v hv) fun k hk=>hs ((h.ur n v hv).lt k hk).2 (fun e=>by
   obtain⟨m,h1,_⟩:=i1
   exact h1.neRow (h.ur n v hv) (by rw[hk,e]))
end
end
section
open Go.RowKit Go.Maps Go.ChangeMaps
section
variable {P:Program} {k e t:TypeId} {κ : Type} [DecidableEq κ] {enc:κ → Value} {ok:κ → Prop} {w w':World} {b:Nat} {m:List (κ × Value)}
theorem zi3 (w:World)(b:Nat)(o:Obj):w.grownBy (setBlock w b o) (some b) :=
 ⟨rfl,rfl,rfl,by simp[setBlock],fun i _ hi=>by
  simp only[setBlock]
  rw[Array.getElem?_setIfInBounds_ne (by intro e;exact hi (by rw[e]))]⟩
theorem zla {w:World}{b:Nat}(h:b<w.heap.size)(o:Obj):(setBlock w b o).heap[b]? = some o:=by simp[setBlock,h]
theorem zaf.entry (h:zaf w b enc ok id m)(K:zfl P k enc ok)(ht:P.underlying t=some (.map k e)){z:Value}(hz:(zeroValue e).run P w=.ok z w){x:κ}(hx:ok x) :
  ∃ (w1:World) (v:Value) (s:Int),(Instr.mapEntry t (.map (some b)) (enc x)).run P w=.ok (.tuple #[v,.int .i64 s]) w1∧w.grownBy w1 (some b)∧w1.heap.size=w.heap.size∧(mget m x=some v∨(mget m x=none∧v=z)) ∧
   ∀ (w2:World) (u:Value),w2.heap[b]? = w1.heap[b]? → ∃ w3,(Instr.entryStore t (.map (some b)) (.int .i64 s) u).run P w2=.ok () w3∧zaf w3 b enc ok id (mput m x u)∧w2.grownBy w3 (some b)∧w3.heap.size=w2.heap.size:=by
 have hmi:=h
 obtain⟨es,clock,hb,he,hn,hok,hs1,hs2⟩:=h
 obtain⟨l,hl⟩:=K.reads x hx
 have hlt:=lt_of_block hb
 have fin:∀ (es':Array MapEntry) (clock':Nat) (u:Value) (w2:World),b<w2.heap.size→(Instr.mapUpdate t (.map (some b)) (enc x) u).run P w=.ok () (setBlock w b (.map es' clock'))→zaf (setBlock w2 b (.map es' clock')) b enc ok id (mput m x u):=by
  intro es' clock' u w2 h2 hr
  obtain⟨w',hr',hm',_⟩:=hmi.update K ht hx u
  have hr2:(Instr.mapUpdate t (.map (some b)) (enc x) u).run P w=.ok () w':=hr'
  rw[hr]at hr2
  injection hr2 with _ hr2
  subst hr2
  exact hm'.of_block (by rw[zla h2,zla hlt])
 rcases zmj K w he hok hx with⟨h1,h2⟩ | ⟨j,v,h1,h2,y,h3,h4⟩
 ·refine⟨setBlock w b (.map (es.push ⟨enc x,z,clock⟩) (clock+1)),z,clock,?_,zi3 _ _ _,by simp[setBlock],.inr ⟨zlj.2 h2,rfl⟩,fun w2 u hw2=>?_⟩
  ·simp[Instr.mapEntry,run_underlying ht,MapKept.run_getObj_map hb,K.keyed.check w _ hl,h1,hz,MapKept.run_setObj_map _ hb,Result.andThen,setBlock,goInt]
  ·rw[zla hlt]at hw2
   have hidx:(es.push ⟨enc x,z,clock⟩).findIdx? (fun e=>((e.born:Nat):Int)==((clock:Nat):Int))=some es.size:=by
    rw[WideElems.findIdx_arr]
    have:=WideElems.findIdx_born (l:=(es.push ⟨enc x,z,clock⟩).toList) (j:=es.size) (e0:=⟨enc x,z,clock⟩) (by
     simp only[Array.toList_push,List.map_append,List.map_cons,List.map_nil]
     refine List.nodup_append.2 ⟨hs2,by simp,fun a ha c hc e1=>?_⟩
     simp only[List.mem_singleton]at hc
     obtain⟨q,hq,rfl⟩:=List.mem_map.1 ha
     have:=hs1 q hq
     omega) (by simp)
    exact this
   have hmod:(es.push ⟨enc x,z,clock⟩).modify es.size (fun e=>{ e with val:=u })=es.push ⟨enc x,u,clock⟩:=by
    apply Array.ext'
    rw[Array.toList_modify,Array.toList_push,Array.toList_push,← Array.length_toList,WideElems.modify_last]
   refine⟨setBlock w2 b (.map (es.push ⟨enc x,u,clock⟩) (clock+1)),?_,fin _ _ _ _ (lt_of_block hw2) ?_,zi3 _ _ _,by simp[setBlock]⟩
   ·simp[Instr.entryStore,MapKept.run_getObj_map hw2,asInt,asIntOf,hidx,hmod,MapKept.run_setObj_map _ hw2,Result.andThen,setBlock]
   ·simp[Instr.mapUpdate,run_underlying ht,MapKept.run_getObj_map hb,K.keyed.check w _ hl,h1,MapKept.run_setObj_map _ hb,Result.andThen,setBlock]
 ·have hj:es[j]? = some y:=by simpa using h3
  have hyv:y.val=v:=by
   have h5:(es.toList.map (fun e=>(e.key,e.val)))[j]? = some (y.key,y.val):=by simp[h3]
   rw[he]at h5
   simp only[List.getElem?_map,h2,Option.map_some]at h5
   injection h5 with h5
   injection h5 with _ h5
   exact h5.symm
  have hsame:es.modify j (fun e=>{ e with key:=enc x })=es:=by
   apply Array.ext'
   rw[Array.toList_modify,modify_eq_set _ _ _ _ h3]
   have:({ y with key:=enc x }:MapEntry)=y:=by rw[← h4]
   rw[this]
   exact WideElems.set_self _ _ _ h3
  refine⟨setBlock w b (.map es clock),v,y.born,?_,zi3 _ _ _,by simp[setBlock],.inl (zhl hn (List.mem_of_getElem? h2)),fun w2 u hw2=>?_⟩
  ·simp[Instr.mapEntry,run_underlying ht,MapKept.run_getObj_map hb,K.keyed.check w _ hl,h1,hj,h4,K.keyed.stays w hl,hsame,MapKept.run_setObj_map _ hb,Result.andThen,setBlock,goInt]
  ·rw[zla hlt]at hw2
   have hidx:es.findIdx? (fun e=>((e.born:Nat):Int)==((y.born:Nat):Int))=some j:=by
    rw[WideElems.findIdx_arr]
    exact WideElems.findIdx_born hs2 h3
   have hmod:es.modify j (fun e=>{ e with val:=u })=es.modify j (fun e'=>{ e' with key:=enc x,val:=u }):=by
    apply Array.ext'
    rw[Array.toList_modify,Array.toList_modify,modify_eq_set _ _ _ _ h3,modify_eq_set _ _ _ _ h3,← h4]
   refine⟨setBlock w2 b (.map (es.modify j (fun e'=>{ e' with key:=enc x,val:=u })) clock),?_,fin _ _ _ _ (lt_of_block hw2) ?_,zi3 _ _ _,by simp[setBlock]⟩
   ·simp[Instr.entryStore,MapKept.run_getObj_map hw2,asInt,asIntOf,hidx,hmod,MapKept.run_setObj_map _ hw2,Result.andThen,setBlock]
   ·simp[Instr.mapUpdate,run_underlying ht,MapKept.run_getObj_map hb,K.keyed.check w _ hl,h1,hj,h4,K.keyed.stays w hl,MapKept.run_setObj_map _ hb,Result.andThen,setBlock]
end
end
section
open Go.RowKit Go.Maps Go.ChangeMaps
section
variable {P:Program} {k e t:TypeId} {κ ν : Type} {enc:κ → Value} {ok:κ → Prop} {encv:ν → Value} {w w':World} {b r:Nat} {m left:List (κ × ν)}
theorem za6.lt (h:za6 w b r enc ok encv m left):b<w.heap.size∧r<w.heap.size:=by
 obtain⟨es,clock,seen,h1,h2,_⟩:=h
 exact⟨lt_of_block h1,lt_of_block h2⟩
theorem za6.of_blocks (h:za6 w b r enc ok encv m left)(h1:w'.heap[b]? = w.heap[b]?)(h2:w'.heap[r]? = w.heap[r]?):za6 w' b r enc ok encv m left:=by
 obtain⟨es,clock,seen,a,c,d⟩:=h
 exact⟨es,clock,seen,h1.trans a,h2.trans c,d⟩
theorem za6.map (h:za6 w b r enc ok encv m left):zaf w b enc ok encv m:=by
 obtain⟨es,clock,seen,a,c,d1,d2,d3,d4,d5,_⟩:=h
 exact⟨es,clock,a,d1,d2,d3,d4,d5⟩
theorem za6.sub (h:za6 w b r enc ok encv m left):∀ p ∈ left,p ∈ m:=by
 obtain⟨es,clock,seen,a,c,d1,d2,d3,d4,d5,d6,d7,_⟩:=h
 exact d7
theorem zaf.range (h:zaf w b enc ok encv m)(ht:P.underlying t=some (.map k e)) :
  ∃ w',(Instr.range t (.map (some b))).run P w=.ok (.pointer (some ⟨w.heap.size,0,none⟩)) w'∧za6 w' b w.heap.size enc ok encv m m∧Below w.heap.size w w'∧w'.heap.size=w.heap.size+1:=by
 obtain⟨es,clock,hb,he,hn,hok,hs1,hs2⟩:=h
 refine⟨_,run_range_map w t k e b es clock ht hb,⟨es,clock,#[],(Below.heap_alloc _ _ _ (lt_of_block hb)).trans hb,heap_alloc_new w _,he,hn,hok,hs1,hs2,?_,fun _ h=>h,hn⟩,(Below.refl _ _).alloc (Nat.le_refl _) _,by simp⟩
 rw[List.filter_eq_self.2 (by simp)]
 exact he
theorem zvi {es:List MapEntry}{seen:Array Nat}{y:MapEntry}(hy:y ∈ es)(hn:(es.map (·.born)).Nodup)(hs:seen.contains y.born=false) :
  ∃ l1 l2,es.filter (fun e=>!seen.contains e.born)=l1++y::l2∧es.filter (fun e=>!(seen.push y.born).contains e.born)=l1++l2:=by
 induction es with
 | nil=>cases hy
 | cons a es ih =>
  simp only[List.map_cons,List.nodup_cons]at hn
  rcases List.mem_cons.1 hy with rfl | hy'
  ·refine⟨[],es.filter (fun e=>!seen.contains e.born),by rw[List.filter_cons,hs];rfl,?_⟩
   rw[List.filter_cons,contains_push]
   simp only[beq_self_eq_true,Bool.or_true,Bool.not_true,Bool.false_eq_true,if_false,List.nil_append]
   refine List.filter_congr fun x hx=>?_
   rw[contains_push]
   have:(x.born==y.born)=false:=by
    rw[beq_eq_false_iff_ne]
    exact fun e=>hn.1 (List.mem_map.2 ⟨x,hx,e⟩)
   rw[this,Bool.or_false]
  ·obtain⟨l1,l2,h1,h2⟩:=ih hy' hn.2
   have hne:(a.born==y.born)=false:=by
    rw[beq_eq_false_iff_ne]
    exact fun e=>hn.1 (List.mem_map.2 ⟨y,hy',e.symm⟩)
   rw[List.filter_cons,List.filter_cons,contains_push,hne,Bool.or_false,h1,h2]
   cases seen.contains a.born
   ·exact⟨a::l1,l2,rfl,rfl⟩
   ·exact⟨l1,l2,rfl,rfl⟩
theorem zqk {α β : Type}{f:α → β}:∀ {l:List α} {l1 l2:List β} {y:β},l.map f=l1++y::l2→∃ a1 x a2,l=a1++x::a2∧a1.map f=l1∧f x=y∧a2.map f=l2
 | [],l1,l2,y,h=>by cases l1 <;> simp at h
 | x::l,[],l2,y,h=>by
  simp at h
  exact⟨[],x,l,rfl,rfl,h.1,h.2⟩
 | x::l,z::l1,l2,y,h=>by
  simp only[List.map_cons,List.cons_append,List.cons.injEq]at h
  obtain⟨a1,x',a2,h1,h2,h3,h4⟩:=zqk h.2
  exact⟨x::a1,x',a2,by rw[h1];rfl,by rw[List.map_cons,h.1,h2],h3,h4⟩
theorem za6.next (h:za6 w b r enc ok encv m left)(ty:TypeId) :
  (left=[]∧(Instr.next (.pointer (some ⟨r,0,none⟩)) false ty).run P w=.ok (.tuple #[.bool false]) w) ∨
  ∃ p l1 l2 w',left=l1++p::l2∧(Instr.next (.pointer (some ⟨r,0,none⟩)) false ty).run P w=.ok (.tuple #[.bool true,enc p.1,encv p.2]) w'∧za6 w' b r enc ok encv m (l1++l2)∧w.grownBy w' (some r)∧w'.heap.size=w.heap.size ∧
   (Instr.entry (.pointer (some ⟨r,0,none⟩))).run P w'=.ok (.tuple #[enc p.1,encv p.2]) w':=by
 obtain⟨es,clock,seen,hb,hr,he,hn,hok,hs1,hs2,hl,hlm,hln⟩:=h
 rcases run_next_at (P:=P) w ty r b clock clock seen es clock hr hb hs1 (Nat.le_refl _)with⟨h0,hrun⟩ | ⟨y,hy,w1,hw1,hrun⟩
 ·refine .inl ⟨?_,hrun⟩
  have h1:es.toList.filter (fun e=>!seen.contains e.born)=[]:=by
   have h2:(leftOf es seen).toList=[]:=by simpa using Array.eq_empty_of_size_eq_zero h0
   simpa [leftOf] using h2
  rw[h1]at hl
  simpa using hl.symm
 ·right
  obtain⟨hy1,hy2⟩:=mem_left hy
  obtain⟨f1,f2,e1,e2⟩:=zvi hy1 hs2 hy2
  rw[e1,List.map_append,List.map_cons]at hl
  obtain⟨l1,p,l2,hp,hp1,hp2,hp3⟩:=zqk hl.symm
  injection hp2 with hk hv
  have hbr:b≠r:=fun e=>by subst e;rw[hb]at hr;cases hr
  have hw1h:w1.heap=w.heap:=by rcases hw1 with rfl | rfl <;> rfl
  have hrl:r<w1.heap.size:=by rw[hw1h];exact lt_of_block hr
  have hr2:(setBlock w1 r (.mapIter (some b) clock (seen.push y.born) clock)).heap[r]? = some (.mapIter (some b) clock (seen.push y.born) clock):=by simp[setBlock,hrl]
  have hb2:(setBlock w1 r (.mapIter (some b) clock (seen.push y.born) clock)).heap[b]? = some (.map es clock):=by
   simp only[setBlock]
   rw[Array.getElem?_setIfInBounds_ne (fun e=>hbr e.symm),hw1h,hb]
  refine⟨p,l1,l2,_,hp,by rw[hk,hv];exact hrun,⟨es,clock,seen.push y.born,hb2,hr2,he,hn,hok,hs1,hs2,?_,?_,?_⟩,?_,?_,?_⟩
  ·rw[e2,List.map_append,List.map_append,hp1,hp3]
  ·intro q hq
   refine hlm q ?_
   rw[hp]
   rcases List.mem_append.1 hq with h | h
   ·exact List.mem_append.2 (.inl h)
   ·exact List.mem_append.2 (.inr (List.mem_cons_of_mem _ h))
  ·rw[hp]at hln
   refine hln.sublist (List.Sublist.map _ ?_)
   exact List.Sublist.append_left (List.sublist_cons_self _ _) _
  ·have:w.grownBy (setBlock w1 r (.mapIter (some b) clock (seen.push y.born) clock)) (some r):=by
    rcases hw1 with rfl | rfl
    ·exact zi3 _ _ _
    ·have h1:=zi3 w.drew r (.mapIter (some b) clock (seen.push y.born) clock)
     exact⟨h1.os,h1.tape,h1.output,h1.size,h1.block⟩
   exact this
  ·simp[setBlock,hw1h]
  ·rw[hk,hv]
   exact run_entry_at _ r b clock seen es clock y hr2 hb2 hy1 hs2
end
section
variable {P:Program} {k e t:TypeId} {κ ν : Type} {enc:κ → Value} {ok:κ → Prop} {encv:ν → Value} {w:World} {b r:Nat} {m left:List (κ × ν)} {ops:Array Oper} {rest:List Oper} {o:Oper} {a:Act} {Q:Exit→Act→World→Prop}
theorem zmn (hg:o.guard=none)(x:Operand)(t:TypeId)(hop:o.op=Op.range t x)(ht:P.underlying t=some (.map k e))(hx:a.eval x=.map (some b))(h:zaf w b enc ok encv m)
  (hK:∀ w',za6 w' b w.heap.size enc ok encv m m→Below w.heap.size w w'→w'.heap.size=w.heap.size+1→wpList P ops Q rest (a.put o.dst (.pointer (some ⟨w.heap.size,0,none⟩))) w'):wpList P ops Q (o::rest) a w:=by
 refine wpList_plain hg fun K' hK'=>?_
 obtain⟨w',hrun,r1,r2,r3⟩:=h.range (P:=P) ht
 unfold Oper.wp
 simp[execOp,hop,hx,hrun,Result.andThen]
 exact hK' _ _ (hK w' r1 r2 r3)
theorem zny (hg:o.guard=none)(it:Operand)(hop:o.op=Op.next it false)(hit:a.eval it=.pointer (some ⟨r,0,none⟩))(h:za6 w b r enc ok encv m left)
  (hDone:left=[]→wpList P ops Q rest (a.put o.dst (.tuple #[.bool false])) w)
  (hMore:∀ p l1 l2 w',left=l1++p::l2→za6 w' b r enc ok encv m (l1++l2)→w.grownBy w' (some r)→w'.heap.size=w.heap.size→(Instr.entry (.pointer (some ⟨r,0,none⟩))).run P w'=.ok (.tuple #[enc p.1,encv p.2]) w' →
   wpList P ops Q rest (a.put o.dst (.tuple #[.bool true,enc p.1,encv p.2])) w'):wpList P ops Q (o::rest) a w:=by
 refine wpList_plain hg fun K' hK'=>?_
 unfold Oper.wp
 rcases h.next (P:=P) o.type with⟨h0,hrun⟩ | ⟨p,l1,l2,w',h0,hrun,r1,r2,r3,r4⟩
 ·simp[execOp,hop,hit,hrun,Result.andThen]
  exact hK' _ _ (hDone h0)
 ·simp[execOp,hop,hit,hrun,Result.andThen]
  exact hK' _ _ (hMore p l1 l2 w' h0 r1 r2 r3 r4)
end
end
section
structure Nm where
 text:ByteArray:=ByteArray.empty
 at_:Nat:=0
 num:Bool:=false
 n:Nat:=0
structure Sc where
 at_:Nat
 kind:Nat
 tok:Nm
 sign:UInt8
def zbb (t:ByteArray)(k:Nat):UInt8:=t.data.toList.getD k 0
theorem zhn (t:ByteArray)(k:Nat)(h:k<t.size):t[k]=zbb t k:=by
 unfold zbb
 have h2:k<t.data.toList.length:=by simpa using h
 rw[List.getD_eq_getElem?_getD,List.getElem?_eq_getElem h2]
 rfl
def za4 (p:UInt8→Bool)(t:ByteArray)(k:Nat):Nat:=k+((t.data.toList.drop k).takeWhile p).length
theorem zp8 {p:UInt8→Bool}{t:ByteArray}{k:Nat}(h:k<t.size)(hp:p (zbb t k)=true):za4 p t k=za4 p t (k+1):=by
 have h2:k<t.data.toList.length:=by simpa using h
 unfold za4
 rw[List.drop_eq_getElem_cons h2]
 have e:zbb t k=t.data.toList[k]:=by
  unfold zbb
  rw[List.getD_eq_getElem?_getD,List.getElem?_eq_getElem h2];rfl
 rw[e]at hp
 rw[List.takeWhile_cons_of_pos hp]
 simp;omega
theorem ztz {p:UInt8→Bool}{t:ByteArray}{k:Nat}(h:k<t.size)(hp:p (zbb t k)=false):za4 p t k=k:=by
 have h2:k<t.data.toList.length:=by simpa using h
 unfold za4
 rw[List.drop_eq_getElem_cons h2]
 have e:zbb t k=t.data.toList[k]:=by
  unfold zbb
  rw[List.getD_eq_getElem?_getD,List.getElem?_eq_getElem h2];rfl
 rw[e]at hp
 rw[List.takeWhile_cons_of_neg (by intro h;rw[hp]at h;cases h)]
 simp
theorem zty {p:UInt8→Bool}{t:ByteArray}{k:Nat}(h:t.size≤k):za4 p t k=k:=by
 unfold za4
 rw[List.drop_eq_nil_of_le (by simpa using h)]
 simp
theorem zkg (p:UInt8→Bool)(t:ByteArray)(k:Nat):k≤za4 p t k:=by unfold za4;omega
theorem zm1 (p:UInt8→Bool)(t:ByteArray)(k:Nat)(h:k≤t.size):za4 p t k≤t.size:=by
 unfold za4
 have h1:=(List.takeWhile_prefix p (l:=t.data.toList.drop k)).length_le
 have h2:t.data.toList.length=t.size:=by simp
 rw[List.length_drop,h2]at h1
 omega
theorem zqq {p:UInt8→Bool}{t:ByteArray}{k:Nat}(h:k<t.size)(hp:p (zbb t k)=true):k<za4 p t k:=by
 rw[zp8 h hp];exact zkg p t (k+1)
def zce (c:UInt8):Bool:=c==32||c==10
def zfg (c:UInt8):Bool:=97≤c&&c≤122
def zcn (c:UInt8):Bool:=48≤c&&c≤57
def ze9 (c:UInt8):Bool:=zfg c||zcn c
theorem zuj {c:UInt8}(h:ze9 c=true):zfg c=true∨(zfg c=false∧zcn c=true):=by
 unfold ze9 at h
 cases hx:zfg c <;> simp_all
theorem alnum_no {c:UInt8}(h:ze9 c=false):zfg c=false∧zcn c=false:=by
 unfold ze9 at h
 cases hx:zfg c <;> simp_all
theorem zmh (p:UInt8→Bool)(t:ByteArray)(j:Nat)(hj:j≤t.size) :
  (j<t.size∧p (zbb t j)=true∧za4 p t j=za4 p t (j+1))∨(j<t.size∧p (zbb t j)=false∧za4 p t j=j)∨(t.size≤j∧za4 p t j=j):=by
 by_cases hlt:j<t.size
 ·cases hx:p (zbb t j)
  ·exact .inr (.inl ⟨hlt,rfl,ztz hlt hx⟩)
  ·exact .inl ⟨hlt,rfl,zp8 hlt hx⟩
 ·exact .inr (.inr ⟨by omega,zty (by omega)⟩)
def zhu (c:UInt8):Bool:=c==59||c==123||c==125||c==40||c==41||c==44||c==46||c==43||c==45||c==60||c==61
def zn5:List (List UInt8) :=
 [[118,97,114],[109,117,116,101,120],[102,117,110,99],[108,111,99,107],[117,110,108,111,99,107],[106,111,105,110],[114,101,116,117,114,110],
 [105,102],[101,108,115,101],[119,104,105,108,101],[103,111],[110,101,119]]
def zhp (s:ByteArray):Bool:=zn5.contains s.data.toList
def zf2 (t:ByteArray)(a b:Nat):Nat:=((t.data.toList.drop a).take (b-a)).foldl (fun n c=>10*n+(c.toNat-48)) 0
def ze4 (t:ByteArray)(k:Nat)(sg:UInt8):Except Flt Sc :=
 let e:=za4 ze9 t k
 let x:=t.extract k e
 if 6<e-k then .error ⟨3,k⟩else
 .ok { at_:=e,kind:=if zhp x then 4 else 1,tok:={ text:=x,at_:=k },sign:=sg }
def zgu (t:ByteArray)(k:Nat)(sg:UInt8):Except Flt Sc :=
 let e:=za4 zcn t k
 if 6<e-k then .error ⟨4,k⟩else
 .ok { at_:=e,kind:=2,tok:={ at_:=k,num:=true,n:=zf2 t k e },sign:=sg }
def zd3 (t:ByteArray)(k:Nat):Except Flt Sc :=
 if zhu (zbb t k)then
  if zbb t k=61∧k+1<t.size∧zbb t (k+1)=61 then .ok { at_:=k+2,kind:=3,tok:={ at_:=k },sign:=101 }
  else .ok { at_:=k+1,kind:=3,tok:={ at_:=k },sign:=zbb t k }
 else .error ⟨2,k⟩
def zam (t:ByteArray)(s:Sc):Except Flt Sc :=
 let k:=za4 zce t s.at_
 if k=t.size then .ok { at_:=k,kind:=0,tok:={ at_:=k },sign:=s.sign } else
 let c:=zbb t k
 if zfg c then ze4 t k s.sign else if zcn c then zgu t k s.sign else zd3 t k
def eqB (a b:ByteArray):Bool:=a.data.toList==b.data.toList
def isM (s:Sc)(c:UInt8):Bool:=s.kind==3&&s.sign==c
def za5 (s:Sc)(x:ByteArray):Bool:=s.kind==4&&eqB s.tok.text x
def za9 (t:ByteArray)(s:Sc)(c:UInt8):Except Flt Sc:=if isM s c then zam t s else .error ⟨5,s.tok.at_⟩
def zdh (t:ByteArray)(s:Sc):Except Flt (Nm×Sc):=if s.kind=1 then(zam t s).map fun s'=>(s.tok,s')else .error ⟨5,s.tok.at_⟩
def zco (t:ByteArray)(s:Sc):Except Flt (Nm×Sc):=if s.kind=1∨s.kind=2 then(zam t s).map fun s'=>(s.tok,s')else .error ⟨5,s.tok.at_⟩
theorem zgd {t:ByteArray}{s s':Sc}(h:zam t s=.ok s')(hs:s.at_≤t.size):s'.at_≤t.size∧s.at_≤s'.at_∧(s'.kind≠0→s.at_<s'.at_):=by
 have h1:=zkg zce t s.at_
 have h2:=zm1 zce t s.at_ hs
 have h3:=zkg ze9 t (za4 zce t s.at_)
 have h4:=zkg zcn t (za4 zce t s.at_)
 have h5:=zm1 ze9 t (za4 zce t s.at_) h2
 have h6:=zm1 zcn t (za4 zce t s.at_) h2
 unfold zam at h
 simp only at h
 by_cases b1:za4 zce t s.at_=t.size
 ·rw[if_pos b1]at h
  injection h with h;subst h
  exact⟨h2,h1,fun h=>absurd rfl h⟩
 ·rw[if_neg b1]at h
  have hlt:za4 zce t s.at_<t.size:=by omega
  by_cases b2:zfg (zbb t (za4 zce t s.at_))=true
  ·rw[if_pos b2]at h
   have h7:=zqq (p:=ze9) hlt (by simp[ze9,b2])
   unfold ze4 at h
   by_cases b3:6<za4 ze9 t (za4 zce t s.at_)-za4 zce t s.at_
   ·rw[if_pos b3]at h;cases h
   ·rw[if_neg b3]at h
    injection h with h;subst h
    exact⟨h5,by simp;omega,fun _=>by simp;omega⟩
  ·rw[if_neg b2]at h
   by_cases b4:zcn (zbb t (za4 zce t s.at_))=true
   ·rw[if_pos b4]at h
    have h7:=zqq (p:=zcn) hlt b4
    unfold zgu at h
    by_cases b3:6<za4 zcn t (za4 zce t s.at_)-za4 zce t s.at_
    ·rw[if_pos b3]at h;cases h
    ·rw[if_neg b3]at h
     injection h with h;subst h
     exact⟨h6,by simp;omega,fun _=>by simp;omega⟩
   ·rw[if_neg b4]at h
    unfold zd3 at h
    by_cases b5:zhu (zbb t (za4 zce t s.at_))=true
    ·rw[if_pos b5]at h
     split at h <;> injection h with h <;> subst h <;> exact⟨by simp;omega,by simp;omega,fun _=>by simp;omega⟩
    ·rw[if_neg b5]at h;cases h
end
section
open Go.RowKit
def ScAt (w:World)(sb:Nat)(t:ByteArray)(s:Sc):Prop :=
 Blk w sb 319 #[.string t,.int .i64 s.at_,.int .i64 s.kind,.string s.tok.text,.int .i64 s.tok.at_,.bool s.tok.num,.int .i64 s.tok.n,.int .u8 s.sign.toNat]
theorem zfb (k p:Int)(w:World):Calls Tryz.prog 157 #[.int .i64 k,.int .i64 p] w fun e w' =>
  e=.panicked (zfm w.heap.size)∧w.alloc (.cells #[.int .i64 k,.int .i64 p] 323)=w':=by
 go_enter Tryz.func157,Tryz.ntmps157
 go_wp2
 exact⟨rfl,rfl,rfl⟩
theorem zie (c:UInt8)(w:World):Calls Tryz.prog 238 #[.int .u8 c.toNat] w fun e w'=>e=.returned (.bool (zfg c))∧w=w':=by
 have H:=zH (show zfg c=(decide (97≤(c.toNat:Int))&&decide ((c.toNat:Int)≤122)) by
  unfold zfg;rw[Bool.eq_iff_iff];simp[UInt8.le_iff_toNat_le];omega)
 go_enter Tryz.func238,Tryz.ntmps238
 go_wp2
 all_goals go_ret
 all_goals (refine⟨zdr ?_,rfl⟩;rw[H.out,Bool.eq_iff_iff];simp[*] <;> omega)
theorem ze7 (c:UInt8)(w:World):Calls Tryz.prog 239 #[.int .u8 c.toNat] w fun e w'=>e=.returned (.bool (zcn c))∧w=w':=by
 have H:=zH (show zcn c=(decide (48≤(c.toNat:Int))&&decide ((c.toNat:Int)≤57)) by
  unfold zcn;rw[Bool.eq_iff_iff];simp[UInt8.le_iff_toNat_le];omega)
 go_enter Tryz.func239,Tryz.ntmps239
 go_wp2
 all_goals go_ret
 all_goals (refine⟨zdr ?_,rfl⟩;rw[H.out,Bool.eq_iff_iff];simp[*] <;> omega)
theorem zns (c:UInt8)(w:World)(sb:Nat)(t:ByteArray)(s:Sc)(h:ScAt w sb t s) :
  Calls Tryz.prog 291 #[.pointer (some ⟨sb,0,none⟩),.int .u8 c.toNat] w fun e w'=>e=.returned (.bool (isM s c))∧w=w':=by
 have hc:=Blk.cell h
 have H:=zH (show isM s c=(decide ((s.kind:Int)=3)&&decide ((s.sign.toNat:Int)=c.toNat)) by
  unfold isM;rw[Bool.eq_iff_iff];simp[← UInt8.toNat_inj];omega)
 clear h
 go_enter Tryz.func291,Tryz.ntmps291
 go_wp2
 all_goals go_ret
 all_goals (refine⟨zdr ?_,rfl⟩;rw[H.out,Bool.eq_iff_iff];simp[*] <;> omega)
theorem zu2 (x:ByteArray)(w:World)(sb:Nat)(t:ByteArray)(s:Sc)(h:ScAt w sb t s) :
  Calls Tryz.prog 243 #[.pointer (some ⟨sb,0,none⟩),.string x] w fun e w'=>e=.returned (.bool (za5 s x))∧w=w':=by
 have hc:=Blk.cell h
 have H:=zH (show za5 s x=(decide ((s.kind:Int)=4)&&(s.tok.text.toList==x.toList)) by
  unfold za5 eqB;rw[ByteArray.toList_eq,ByteArray.toList_eq];congr 1;rw[Bool.eq_iff_iff];simp;omega)
 clear h
 go_enter Tryz.func243,Tryz.ntmps243
 go_wp2
 all_goals go_ret
 all_goals (refine⟨zdr ?_,rfl⟩;rw[H.out,Bool.eq_iff_iff];simp[*] <;> omega)
end
end Go.Proofs.YtkmcihhndgdhpaaGreat
