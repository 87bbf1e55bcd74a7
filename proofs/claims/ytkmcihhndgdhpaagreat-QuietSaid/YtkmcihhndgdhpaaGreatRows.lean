/-
  No cell of these rows narrows 'for every input' (looked for: loops, veiled, ifaces, maps, wideKeys, modest, calm, conditions, laid).
  DERIVED. THE GIVEN ROWS OF THIS SEAT. 6 by the template 'for every input the law returns true; each argument reads behind the call as it read before'; 0 by the template 'total and deterministic' (their statements: YtkmcihhndgdhpaaGreatTotals.lean).
  GIVEN WITH THE SEED: the statements are not yours to turn. If you find one false, say at which input.
  Laid BY PROGRAM, IN A SANDBOX (cutbox-rows.mjs): the forced cells as the released guide's own fill.sh prints them over the translation 91fbeebfd93094f7… (all of the seat's roots in one cut). By AI agents, Wed Nov 11 2026. No macro, syntax, notation, axiom, sorry.
-/
import Derived.Test.YtkmcihhndgdhpaaGreatChecked
import GoSem.Claim
import GoSem.ClaimJoined
import GoSem.ClaimMapViews
import Derived.JoinedTies
import Derived.KernelRfl
namespace Go.Proofs.YtkmcihhndgdhpaaGreat
/- THE CELL 'sum', in the pinned program and in every row, IS THE sha256 OF THE DUMP (.gsa) THAT YtkmcihhndgdhpaaGreatProg.lean LOADS. Nothing in Lean hashes anything: it is a label: what it is worth is what the hold of that sum in a sandbox is worth. -/
noncomputable def Tryz.pinned : Pinned := { name := "ytkmcihhndgdhpaagreat", sum := "91fbeebfd93094f788a5e193bfbca8be2790d0e18ec62e5338f4f01984d077f3", checked := Tryz.checked }
namespace Rows
def none {H : Type} : Left H := { results := [], args := [] }

/-- 'raceslaw.Reported': WHATEVER THE INPUT: true; the input reads as it did. -/
def reportedSpec : ChangeSpec := { name := "reported", fn := fun _ => fun
  | [d1, d2] => { results := [.lit (.bool true)], args := [d1, d2] }
  | _ => none }
def reportedRow : OpenClaim := { program := "ytkmcihhndgdhpaagreat", sum := "91fbeebfd93094f788a5e193bfbca8be2790d0e18ec62e5338f4f01984d077f3", func := "races/raceslaw.Reported", spec := "reported", inPlace := ["internal/reflectlite.TypeOf"], unfollowed := true, recurses := true, plainKeys := false, leaving := true, apart := false }
def ReportedSaid : Prop := reportedRow.holds Tryz.pinned (OpenSpec.ofChange reportedSpec)

/-- ITS FALSE NEIGHBOUR: 'it returns false'. Refute it at one input. -/
def reportedWrong : ChangeSpec := { name := "reported", fn := fun _ => fun
  | [d1, d2] => { results := [.lit (.bool false)], args := [d1, d2] }
  | _ => none }
def ReportedWrongFalsely : Prop := reportedRow.holds Tryz.pinned (OpenSpec.ofChange reportedWrong)

/-- 'raceskeep.Loud': WHATEVER THE INPUT: true; the input reads as it did. -/
def loudSpec : ChangeSpec := { name := "loud", fn := fun _ => fun
  | [d1, d2] => { results := [.lit (.bool true)], args := [d1, d2] }
  | _ => none }
def loudRow : OpenClaim := { program := "ytkmcihhndgdhpaagreat", sum := "91fbeebfd93094f788a5e193bfbca8be2790d0e18ec62e5338f4f01984d077f3", func := "races/raceskeep.Loud", spec := "loud", inPlace := ["internal/reflectlite.TypeOf"], unfollowed := true, recurses := true, plainKeys := false, leaving := true, apart := false }
def LoudSaid : Prop := loudRow.holds Tryz.pinned (OpenSpec.ofChange loudSpec)

/-- ITS FALSE NEIGHBOUR: 'it returns false'. Refute it at one input. -/
def loudWrong : ChangeSpec := { name := "loud", fn := fun _ => fun
  | [d1, d2] => { results := [.lit (.bool false)], args := [d1, d2] }
  | _ => none }
def LoudWrongFalsely : Prop := loudRow.holds Tryz.pinned (OpenSpec.ofChange loudWrong)

/-- 'raceskeep.Ways': WHATEVER THE INPUT: true; the input reads as it did. -/
def waysSpec : ChangeSpec := { name := "ways", fn := fun _ => fun
  | [d1, d2, d3, d4] => { results := [.lit (.bool true)], args := [d1, d2, d3, d4] }
  | _ => none }
def waysRow : OpenClaim := { program := "ytkmcihhndgdhpaagreat", sum := "91fbeebfd93094f788a5e193bfbca8be2790d0e18ec62e5338f4f01984d077f3", func := "races/raceskeep.Ways", spec := "ways", inPlace := ["internal/reflectlite.TypeOf", "maps.clone", "(*sync.WaitGroup).Add", "internal/race.ReleaseMerge", "internal/race.Disable", "internal/race.Enable", "internal/synctest.IsInBubble", "internal/synctest.Associate[sync.WaitGroup]", "sync.fatal", "sync/atomic.OrUint64", "sync/atomic.AddUint64", "internal/race.Read", "sync/atomic.LoadUint64", "sync/atomic.StoreUint64", "internal/synctest.Disassociate[sync.WaitGroup]", "sync.runtime_Semrelease", "(*sync.WaitGroup).Done", "(*sync.WaitGroup).Wait", "internal/race.Acquire", "internal/synctest.IsAssociated[sync.WaitGroup]", "sync/atomic.CompareAndSwapUint64", "internal/race.Write", "sync.runtime_SemacquireWaitGroup"], unfollowed := true, recurses := true, plainKeys := false, leaving := true, apart := false }
def WaysSaid : Prop := waysRow.holds Tryz.pinned (OpenSpec.ofChange waysSpec)

/-- ITS FALSE NEIGHBOUR: 'it returns false'. Refute it at one input. -/
def waysWrong : ChangeSpec := { name := "ways", fn := fun _ => fun
  | [d1, d2, d3, d4] => { results := [.lit (.bool false)], args := [d1, d2, d3, d4] }
  | _ => none }
def WaysWrongFalsely : Prop := waysRow.holds Tryz.pinned (OpenSpec.ofChange waysWrong)

/-- 'raceskeep.Watched': WHATEVER THE INPUT: true; the input reads as it did. -/
def watchedSpec : ChangeSpec := { name := "watched", fn := fun _ => fun
  | [d1, d2] => { results := [.lit (.bool true)], args := [d1, d2] }
  | _ => none }
def watchedRow : OpenClaim := { program := "ytkmcihhndgdhpaagreat", sum := "91fbeebfd93094f788a5e193bfbca8be2790d0e18ec62e5338f4f01984d077f3", func := "races/raceskeep.Watched", spec := "watched", inPlace := ["internal/reflectlite.TypeOf", "maps.clone"], unfollowed := true, recurses := true, plainKeys := false, leaving := true, apart := false }
def WatchedSaid : Prop := watchedRow.holds Tryz.pinned (OpenSpec.ofChange watchedSpec)

/-- ITS FALSE NEIGHBOUR: 'it returns false'. Refute it at one input. -/
def watchedWrong : ChangeSpec := { name := "watched", fn := fun _ => fun
  | [d1, d2] => { results := [.lit (.bool false)], args := [d1, d2] }
  | _ => none }
def WatchedWrongFalsely : Prop := watchedRow.holds Tryz.pinned (OpenSpec.ofChange watchedWrong)

/-- 'raceskeep.Found': WHATEVER THE INPUT: true; the input reads as it did. -/
def foundSpec : ChangeSpec := { name := "found", fn := fun _ => fun
  | [d] => { results := [.lit (.bool true)], args := [d] }
  | _ => none }
def foundRow : OpenClaim := { program := "ytkmcihhndgdhpaagreat", sum := "91fbeebfd93094f788a5e193bfbca8be2790d0e18ec62e5338f4f01984d077f3", func := "races/raceskeep.Found", spec := "found", inPlace := ["internal/reflectlite.TypeOf", "maps.clone"], unfollowed := true, recurses := true, plainKeys := false, leaving := true, apart := false }
def FoundSaid : Prop := foundRow.holds Tryz.pinned (OpenSpec.ofChange foundSpec)

/-- ITS FALSE NEIGHBOUR: 'it returns false'. Refute it at one input. -/
def foundWrong : ChangeSpec := { name := "found", fn := fun _ => fun
  | [d] => { results := [.lit (.bool false)], args := [d] }
  | _ => none }
def FoundWrongFalsely : Prop := foundRow.holds Tryz.pinned (OpenSpec.ofChange foundWrong)

/-- 'raceskeep.Quiet': WHATEVER THE INPUT: true; the input reads as it did. -/
def quietSpec : ChangeSpec := { name := "quiet", fn := fun _ => fun
  | [d1, d2] => { results := [.lit (.bool true)], args := [d1, d2] }
  | _ => none }
def quietRow : OpenClaim := { program := "ytkmcihhndgdhpaagreat", sum := "91fbeebfd93094f788a5e193bfbca8be2790d0e18ec62e5338f4f01984d077f3", func := "races/raceskeep.Quiet", spec := "quiet", inPlace := ["internal/reflectlite.TypeOf", "maps.clone"], unfollowed := true, recurses := true, plainKeys := false, leaving := true, apart := false }
def QuietSaid : Prop := quietRow.holds Tryz.pinned (OpenSpec.ofChange quietSpec)

/-- ITS FALSE NEIGHBOUR: 'it returns false'. Refute it at one input. -/
def quietWrong : ChangeSpec := { name := "quiet", fn := fun _ => fun
  | [d1, d2] => { results := [.lit (.bool false)], args := [d1, d2] }
  | _ => none }
def QuietWrongFalsely : Prop := quietRow.holds Tryz.pinned (OpenSpec.ofChange quietWrong)

/- THE SECOND FORM. 'bulk': how many values and letters a reading holds, each counted each time it is reached (what is shared counts as often as it is met; a slice's spare places count too). A statement '..UptoSaid' is the law's where the arguments, and the package variables that the reading takes, are together of bulk at most 1048576: NARROWER than '..Said'. Prove '..Said' where nothing that the law and all that it calls make is longer than what came in: it says more and counts as full. Else prove '..UptoSaid'. A law counts once. -/
mutual
def uptoBulk {H : Type} : DataW H → Nat
  | .lit (.string bytes) => bytes.length + 1
  | .lit _ => 1
  | .nil => 1
  | .ptr d => uptoBulk d + 1
  | .slice elems spare => uptoBulkAll elems + uptoBulkAll spare + 1
  | .agg parts => uptoBulkAll parts + 1
  | .iface _ d => uptoBulk d + 1
  | .map entries => uptoBulkEntries entries + 1
  | .held _ => 1
def uptoBulkAll {H : Type} : List (DataW H) → Nat
  | [] => 0
  | d :: r => uptoBulk d + uptoBulkAll r
def uptoBulkEntries {H : Type} : List (Lit × DataW H) → Nat
  | [] => 0
  | x :: r => uptoBulkEntry x + uptoBulkEntries r
def uptoBulkEntry {H : Type} : Lit × DataW H → Nat
  | (.string bytes, d) => bytes.length + uptoBulk d + 1
  | (_, d) => uptoBulk d + 1
 end
def uptoSmall : (H : Type) → List (DataW H) → Bool := fun _ ds => decide (uptoBulkAll ds ≤ 1048576)
def OpenSpec.upto (s : _root_.Go.ChangeSpec) : _root_.Go.OpenSpec := { _root_.Go.OpenSpec.ofChange s with cond := some uptoSmall }

/-- 'raceslaw.Reported', WHERE WHAT IT READS IS OF BULK AT MOST 1048576: true; the input reads as it did. -/
def reportedUptoRow : OpenClaim := { program := "ytkmcihhndgdhpaagreat", sum := "91fbeebfd93094f788a5e193bfbca8be2790d0e18ec62e5338f4f01984d077f3", func := "races/raceslaw.Reported", spec := "reported", inPlace := ["internal/reflectlite.TypeOf"], unfollowed := true, recurses := true, plainKeys := false, leaving := true, apart := false, narrowed := true }
def ReportedUptoSaid : Prop := reportedUptoRow.holds Tryz.pinned (OpenSpec.upto reportedSpec)

/-- 'raceskeep.Loud', WHERE WHAT IT READS IS OF BULK AT MOST 1048576: true; the input reads as it did. -/
def loudUptoRow : OpenClaim := { program := "ytkmcihhndgdhpaagreat", sum := "91fbeebfd93094f788a5e193bfbca8be2790d0e18ec62e5338f4f01984d077f3", func := "races/raceskeep.Loud", spec := "loud", inPlace := ["internal/reflectlite.TypeOf"], unfollowed := true, recurses := true, plainKeys := false, leaving := true, apart := false, narrowed := true }
def LoudUptoSaid : Prop := loudUptoRow.holds Tryz.pinned (OpenSpec.upto loudSpec)

/-- 'raceskeep.Ways', WHERE WHAT IT READS IS OF BULK AT MOST 1048576: true; the input reads as it did. -/
def waysUptoRow : OpenClaim := { program := "ytkmcihhndgdhpaagreat", sum := "91fbeebfd93094f788a5e193bfbca8be2790d0e18ec62e5338f4f01984d077f3", func := "races/raceskeep.Ways", spec := "ways", inPlace := ["internal/reflectlite.TypeOf", "maps.clone", "(*sync.WaitGroup).Add", "internal/race.ReleaseMerge", "internal/race.Disable", "internal/race.Enable", "internal/synctest.IsInBubble", "internal/synctest.Associate[sync.WaitGroup]", "sync.fatal", "sync/atomic.OrUint64", "sync/atomic.AddUint64", "internal/race.Read", "sync/atomic.LoadUint64", "sync/atomic.StoreUint64", "internal/synctest.Disassociate[sync.WaitGroup]", "sync.runtime_Semrelease", "(*sync.WaitGroup).Done", "(*sync.WaitGroup).Wait", "internal/race.Acquire", "internal/synctest.IsAssociated[sync.WaitGroup]", "sync/atomic.CompareAndSwapUint64", "internal/race.Write", "sync.runtime_SemacquireWaitGroup"], unfollowed := true, recurses := true, plainKeys := false, leaving := true, apart := false, narrowed := true }
def WaysUptoSaid : Prop := waysUptoRow.holds Tryz.pinned (OpenSpec.upto waysSpec)

/-- 'raceskeep.Watched', WHERE WHAT IT READS IS OF BULK AT MOST 1048576: true; the input reads as it did. -/
def watchedUptoRow : OpenClaim := { program := "ytkmcihhndgdhpaagreat", sum := "91fbeebfd93094f788a5e193bfbca8be2790d0e18ec62e5338f4f01984d077f3", func := "races/raceskeep.Watched", spec := "watched", inPlace := ["internal/reflectlite.TypeOf", "maps.clone"], unfollowed := true, recurses := true, plainKeys := false, leaving := true, apart := false, narrowed := true }
def WatchedUptoSaid : Prop := watchedUptoRow.holds Tryz.pinned (OpenSpec.upto watchedSpec)

/-- 'raceskeep.Found', WHERE WHAT IT READS IS OF BULK AT MOST 1048576: true; the input reads as it did. -/
def foundUptoRow : OpenClaim := { program := "ytkmcihhndgdhpaagreat", sum := "91fbeebfd93094f788a5e193bfbca8be2790d0e18ec62e5338f4f01984d077f3", func := "races/raceskeep.Found", spec := "found", inPlace := ["internal/reflectlite.TypeOf", "maps.clone"], unfollowed := true, recurses := true, plainKeys := false, leaving := true, apart := false, narrowed := true }
def FoundUptoSaid : Prop := foundUptoRow.holds Tryz.pinned (OpenSpec.upto foundSpec)

/-- 'raceskeep.Quiet', WHERE WHAT IT READS IS OF BULK AT MOST 1048576: true; the input reads as it did. -/
def quietUptoRow : OpenClaim := { program := "ytkmcihhndgdhpaagreat", sum := "91fbeebfd93094f788a5e193bfbca8be2790d0e18ec62e5338f4f01984d077f3", func := "races/raceskeep.Quiet", spec := "quiet", inPlace := ["internal/reflectlite.TypeOf", "maps.clone"], unfollowed := true, recurses := true, plainKeys := false, leaving := true, apart := false, narrowed := true }
def QuietUptoSaid : Prop := quietUptoRow.holds Tryz.pinned (OpenSpec.upto quietSpec)

end Rows
end Go.Proofs.YtkmcihhndgdhpaaGreat
