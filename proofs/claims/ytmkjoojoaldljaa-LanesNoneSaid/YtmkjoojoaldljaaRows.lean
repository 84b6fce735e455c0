/-
  No cell of these rows narrows 'for every input' (looked for: loops, veiled, ifaces, maps, wideKeys, modest, calm, conditions, laid).
  DERIVED. THE GIVEN ROWS OF THIS SEAT. 6 by the template 'for every input the law returns true; each argument reads behind the call as it read before'; 0 by the template 'total and deterministic' (their statements: YtmkjoojoaldljaaTotals.lean).
  GIVEN WITH THE SEED: the statements are not yours to turn. If you find one false, say at which input.
  Laid BY PROGRAM, IN A SANDBOX (cutbox-rows.mjs): the forced cells as the released guide's own fill.sh prints them over the translation 4929495e17539a43… (all of the seat's roots in one cut). By AI agents, Wed Nov 11 2026. No macro, syntax, notation, axiom, sorry.
-/
import Derived.Test.YtmkjoojoaldljaaChecked
import GoSem.Claim
import GoSem.ClaimJoined
import GoSem.ClaimMapViews
import Derived.JoinedTies
import Derived.KernelRfl
namespace Go.Proofs.Ytmkjoojoaldljaa
/- THE CELL 'sum', in the pinned program and in every row, IS THE sha256 OF THE DUMP (.gsa) THAT YtmkjoojoaldljaaProg.lean LOADS. Nothing in Lean hashes anything: it is a label: what it is worth is what the hold of that sum in a sandbox is worth. -/
noncomputable def Try.pinned : Pinned := { name := "ytmkjoojoaldljaa", sum := "4929495e17539a43ff1a2284eb196a6a0d84da31a5c9ecf6d2c4bbcc1b35729f", checked := Try.checked }
namespace Rows
def none {H : Type} : Left H := { results := [], args := [] }

/-- 'cloisterlaw06.LanesNone': WHATEVER THE INPUT: true; the input reads as it did. -/
def lanesNoneSpec : ChangeSpec := { name := "lanesNone", fn := fun _ => fun
  | [d1, d2] => { results := [.lit (.bool true)], args := [d1, d2] }
  | _ => none }
def lanesNoneRow : OpenClaim := { program := "ytmkjoojoaldljaa", sum := "4929495e17539a43ff1a2284eb196a6a0d84da31a5c9ecf6d2c4bbcc1b35729f", func := "cloister/cloisterlaw06.LanesNone", spec := "lanesNone", inPlace := ["(*sync.WaitGroup).Add", "internal/race.ReleaseMerge", "internal/race.Disable", "internal/race.Enable", "internal/synctest.IsInBubble", "internal/synctest.Associate[sync.WaitGroup]", "sync.fatal", "sync/atomic.OrUint64", "sync/atomic.AddUint64", "internal/race.Read", "sync/atomic.LoadUint64", "sync/atomic.StoreUint64", "internal/synctest.Disassociate[sync.WaitGroup]", "sync.runtime_Semrelease", "(*sync.WaitGroup).Done", "(*sync.WaitGroup).Wait", "internal/race.Acquire", "internal/synctest.IsAssociated[sync.WaitGroup]", "sync/atomic.CompareAndSwapUint64", "internal/race.Write", "sync.runtime_SemacquireWaitGroup"], unfollowed := true, recurses := true, leaving := true, apart := false }
def LanesNoneSaid : Prop := lanesNoneRow.holds Try.pinned (OpenSpec.ofChange lanesNoneSpec)

/-- ITS FALSE NEIGHBOUR: 'it returns false'. Refute it at one input. -/
def lanesNoneWrong : ChangeSpec := { name := "lanesNone", fn := fun _ => fun
  | [d1, d2] => { results := [.lit (.bool false)], args := [d1, d2] }
  | _ => none }
def LanesNoneWrongFalsely : Prop := lanesNoneRow.holds Try.pinned (OpenSpec.ofChange lanesNoneWrong)

/-- 'cloisterlaw06.LanesMerge': WHATEVER THE INPUT: true; the input reads as it did. -/
def lanesMergeSpec : ChangeSpec := { name := "lanesMerge", fn := fun _ => fun
  | [d1, d2] => { results := [.lit (.bool true)], args := [d1, d2] }
  | _ => none }
def lanesMergeRow : OpenClaim := { program := "ytmkjoojoaldljaa", sum := "4929495e17539a43ff1a2284eb196a6a0d84da31a5c9ecf6d2c4bbcc1b35729f", func := "cloister/cloisterlaw06.LanesMerge", spec := "lanesMerge", inPlace := ["(*sync.WaitGroup).Add", "internal/race.ReleaseMerge", "internal/race.Disable", "internal/race.Enable", "internal/synctest.IsInBubble", "internal/synctest.Associate[sync.WaitGroup]", "sync.fatal", "sync/atomic.OrUint64", "sync/atomic.AddUint64", "internal/race.Read", "sync/atomic.LoadUint64", "sync/atomic.StoreUint64", "internal/synctest.Disassociate[sync.WaitGroup]", "sync.runtime_Semrelease", "(*sync.WaitGroup).Done", "(*sync.WaitGroup).Wait", "internal/race.Acquire", "internal/synctest.IsAssociated[sync.WaitGroup]", "sync/atomic.CompareAndSwapUint64", "internal/race.Write", "sync.runtime_SemacquireWaitGroup"], unfollowed := true, recurses := true, leaving := true, apart := false }
def LanesMergeSaid : Prop := lanesMergeRow.holds Try.pinned (OpenSpec.ofChange lanesMergeSpec)

/-- ITS FALSE NEIGHBOUR: 'it returns false'. Refute it at one input. -/
def lanesMergeWrong : ChangeSpec := { name := "lanesMerge", fn := fun _ => fun
  | [d1, d2] => { results := [.lit (.bool false)], args := [d1, d2] }
  | _ => none }
def LanesMergeWrongFalsely : Prop := lanesMergeRow.holds Try.pinned (OpenSpec.ofChange lanesMergeWrong)

/-- 'cloisterlaw06.LanesBehind': WHATEVER THE INPUT: true; the input reads as it did. -/
def lanesBehindSpec : ChangeSpec := { name := "lanesBehind", fn := fun _ => fun
  | [d] => { results := [.lit (.bool true)], args := [d] }
  | _ => none }
def lanesBehindRow : OpenClaim := { program := "ytmkjoojoaldljaa", sum := "4929495e17539a43ff1a2284eb196a6a0d84da31a5c9ecf6d2c4bbcc1b35729f", func := "cloister/cloisterlaw06.LanesBehind", spec := "lanesBehind", inPlace := ["(*sync.WaitGroup).Add", "internal/race.ReleaseMerge", "internal/race.Disable", "internal/race.Enable", "internal/synctest.IsInBubble", "internal/synctest.Associate[sync.WaitGroup]", "sync.fatal", "sync/atomic.OrUint64", "sync/atomic.AddUint64", "internal/race.Read", "sync/atomic.LoadUint64", "sync/atomic.StoreUint64", "internal/synctest.Disassociate[sync.WaitGroup]", "sync.runtime_Semrelease", "(*sync.WaitGroup).Done", "(*sync.WaitGroup).Wait", "internal/race.Acquire", "internal/synctest.IsAssociated[sync.WaitGroup]", "sync/atomic.CompareAndSwapUint64", "internal/race.Write", "sync.runtime_SemacquireWaitGroup"], unfollowed := true, recurses := true, leaving := true, apart := false }
def LanesBehindSaid : Prop := lanesBehindRow.holds Try.pinned (OpenSpec.ofChange lanesBehindSpec)

/-- ITS FALSE NEIGHBOUR: 'it returns false'. Refute it at one input. -/
def lanesBehindWrong : ChangeSpec := { name := "lanesBehind", fn := fun _ => fun
  | [d] => { results := [.lit (.bool false)], args := [d] }
  | _ => none }
def LanesBehindWrongFalsely : Prop := lanesBehindRow.holds Try.pinned (OpenSpec.ofChange lanesBehindWrong)

/-- 'cloisterlaw06.LanesAll': WHATEVER THE INPUT: true; the input reads as it did. -/
def lanesAllSpec : ChangeSpec := { name := "lanesAll", fn := fun _ => fun
  | [d1, d2] => { results := [.lit (.bool true)], args := [d1, d2] }
  | _ => none }
def lanesAllRow : OpenClaim := { program := "ytmkjoojoaldljaa", sum := "4929495e17539a43ff1a2284eb196a6a0d84da31a5c9ecf6d2c4bbcc1b35729f", func := "cloister/cloisterlaw06.LanesAll", spec := "lanesAll", inPlace := ["(*sync.WaitGroup).Add", "internal/race.ReleaseMerge", "internal/race.Disable", "internal/race.Enable", "internal/synctest.IsInBubble", "internal/synctest.Associate[sync.WaitGroup]", "sync.fatal", "sync/atomic.OrUint64", "sync/atomic.AddUint64", "internal/race.Read", "sync/atomic.LoadUint64", "sync/atomic.StoreUint64", "internal/synctest.Disassociate[sync.WaitGroup]", "sync.runtime_Semrelease", "(*sync.WaitGroup).Done", "(*sync.WaitGroup).Wait", "internal/race.Acquire", "internal/synctest.IsAssociated[sync.WaitGroup]", "sync/atomic.CompareAndSwapUint64", "internal/race.Write", "sync.runtime_SemacquireWaitGroup"], unfollowed := true, recurses := true, leaving := true, apart := false }
def LanesAllSaid : Prop := lanesAllRow.holds Try.pinned (OpenSpec.ofChange lanesAllSpec)

/-- ITS FALSE NEIGHBOUR: 'it returns false'. Refute it at one input. -/
def lanesAllWrong : ChangeSpec := { name := "lanesAll", fn := fun _ => fun
  | [d1, d2] => { results := [.lit (.bool false)], args := [d1, d2] }
  | _ => none }
def LanesAllWrongFalsely : Prop := lanesAllRow.holds Try.pinned (OpenSpec.ofChange lanesAllWrong)

/-- 'cloisterlaw06.LanesRising': WHATEVER THE INPUT: true; the input reads as it did. -/
def lanesRisingSpec : ChangeSpec := { name := "lanesRising", fn := fun _ => fun
  | [d] => { results := [.lit (.bool true)], args := [d] }
  | _ => none }
def lanesRisingRow : OpenClaim := { program := "ytmkjoojoaldljaa", sum := "4929495e17539a43ff1a2284eb196a6a0d84da31a5c9ecf6d2c4bbcc1b35729f", func := "cloister/cloisterlaw06.LanesRising", spec := "lanesRising", inPlace := ["(*sync.WaitGroup).Add", "internal/race.ReleaseMerge", "internal/race.Disable", "internal/race.Enable", "internal/synctest.IsInBubble", "internal/synctest.Associate[sync.WaitGroup]", "sync.fatal", "sync/atomic.OrUint64", "sync/atomic.AddUint64", "internal/race.Read", "sync/atomic.LoadUint64", "sync/atomic.StoreUint64", "internal/synctest.Disassociate[sync.WaitGroup]", "sync.runtime_Semrelease", "(*sync.WaitGroup).Done", "(*sync.WaitGroup).Wait", "internal/race.Acquire", "internal/synctest.IsAssociated[sync.WaitGroup]", "sync/atomic.CompareAndSwapUint64", "internal/race.Write", "sync.runtime_SemacquireWaitGroup"], unfollowed := true, recurses := true, leaving := true, apart := false }
def LanesRisingSaid : Prop := lanesRisingRow.holds Try.pinned (OpenSpec.ofChange lanesRisingSpec)

/-- ITS FALSE NEIGHBOUR: 'it returns false'. Refute it at one input. -/
def lanesRisingWrong : ChangeSpec := { name := "lanesRising", fn := fun _ => fun
  | [d] => { results := [.lit (.bool false)], args := [d] }
  | _ => none }
def LanesRisingWrongFalsely : Prop := lanesRisingRow.holds Try.pinned (OpenSpec.ofChange lanesRisingWrong)

/-- 'cloisterlaw06.LanesLeaves': WHATEVER THE INPUT: true; the input reads as it did. -/
def lanesLeavesSpec : ChangeSpec := { name := "lanesLeaves", fn := fun _ => fun
  | [d1, d2, d3] => { results := [.lit (.bool true)], args := [d1, d2, d3] }
  | _ => none }
def lanesLeavesRow : OpenClaim := { program := "ytmkjoojoaldljaa", sum := "4929495e17539a43ff1a2284eb196a6a0d84da31a5c9ecf6d2c4bbcc1b35729f", func := "cloister/cloisterlaw06.LanesLeaves", spec := "lanesLeaves", inPlace := ["(*sync.WaitGroup).Add", "internal/race.ReleaseMerge", "internal/race.Disable", "internal/race.Enable", "internal/synctest.IsInBubble", "internal/synctest.Associate[sync.WaitGroup]", "sync.fatal", "sync/atomic.OrUint64", "sync/atomic.AddUint64", "internal/race.Read", "sync/atomic.LoadUint64", "sync/atomic.StoreUint64", "internal/synctest.Disassociate[sync.WaitGroup]", "sync.runtime_Semrelease", "(*sync.WaitGroup).Done", "(*sync.WaitGroup).Wait", "internal/race.Acquire", "internal/synctest.IsAssociated[sync.WaitGroup]", "sync/atomic.CompareAndSwapUint64", "internal/race.Write", "sync.runtime_SemacquireWaitGroup"], unfollowed := true, recurses := true, leaving := true, apart := false }
def LanesLeavesSaid : Prop := lanesLeavesRow.holds Try.pinned (OpenSpec.ofChange lanesLeavesSpec)

/-- ITS FALSE NEIGHBOUR: 'it returns false'. Refute it at one input. -/
def lanesLeavesWrong : ChangeSpec := { name := "lanesLeaves", fn := fun _ => fun
  | [d1, d2, d3] => { results := [.lit (.bool false)], args := [d1, d2, d3] }
  | _ => none }
def LanesLeavesWrongFalsely : Prop := lanesLeavesRow.holds Try.pinned (OpenSpec.ofChange lanesLeavesWrong)

/- THE SECOND FORM. 'bulk': how many values and letters a reading holds, each counted each time it is reached (what is shared counts as often as it is met; a slice's spare places count too). A statement '..UptoSaid' is the law's where the arguments, and the package variables that the reading takes, are together of bulk at most 1048576: NARROWER than '..Said'. Prove '..Said' where nothing that the law and all that it calls make is longer than what came in: it says more and counts as full. Else prove '..UptoSaid'. A law counts once. -/
mutual
def uptoBulk {H : Type} : DataW H → Nat
  | .lit (.string bytes) => bytes.length + 1
  | .lit _ => 1
  | .nil => 1
  | .ptr d => uptoBulk d + 1
  | .slice elems spare => uptoBulkAll elems + uptoBulkAll spare + 1
  | .agg parts => uptoBulkAll parts + 1
  | .iface _ d => uptoBulk d + 1
  | .map entries => uptoBulkEntries entries + 1
  | .held _ => 1
def uptoBulkAll {H : Type} : List (DataW H) → Nat
  | [] => 0
  | d :: r => uptoBulk d + uptoBulkAll r
def uptoBulkEntries {H : Type} : List (Lit × DataW H) → Nat
  | [] => 0
  | x :: r => uptoBulkEntry x + uptoBulkEntries r
def uptoBulkEntry {H : Type} : Lit × DataW H → Nat
  | (.string bytes, d) => bytes.length + uptoBulk d + 1
  | (_, d) => uptoBulk d + 1
 end
def uptoSmall : (H : Type) → List (DataW H) → Bool := fun _ ds => decide (uptoBulkAll ds ≤ 1048576)
def OpenSpec.upto (s : _root_.Go.ChangeSpec) : _root_.Go.OpenSpec := { _root_.Go.OpenSpec.ofChange s with cond := some uptoSmall }

/-- 'cloisterlaw06.LanesNone', WHERE WHAT IT READS IS OF BULK AT MOST 1048576: true; the input reads as it did. -/
def lanesNoneUptoRow : OpenClaim := { program := "ytmkjoojoaldljaa", sum := "4929495e17539a43ff1a2284eb196a6a0d84da31a5c9ecf6d2c4bbcc1b35729f", func := "cloister/cloisterlaw06.LanesNone", spec := "lanesNone", inPlace := ["(*sync.WaitGroup).Add", "internal/race.ReleaseMerge", "internal/race.Disable", "internal/race.Enable", "internal/synctest.IsInBubble", "internal/synctest.Associate[sync.WaitGroup]", "sync.fatal", "sync/atomic.OrUint64", "sync/atomic.AddUint64", "internal/race.Read", "sync/atomic.LoadUint64", "sync/atomic.StoreUint64", "internal/synctest.Disassociate[sync.WaitGroup]", "sync.runtime_Semrelease", "(*sync.WaitGroup).Done", "(*sync.WaitGroup).Wait", "internal/race.Acquire", "internal/synctest.IsAssociated[sync.WaitGroup]", "sync/atomic.CompareAndSwapUint64", "internal/race.Write", "sync.runtime_SemacquireWaitGroup"], unfollowed := true, recurses := true, leaving := true, apart := false, narrowed := true }
def LanesNoneUptoSaid : Prop := lanesNoneUptoRow.holds Try.pinned (OpenSpec.upto lanesNoneSpec)

/-- 'cloisterlaw06.LanesMerge', WHERE WHAT IT READS IS OF BULK AT MOST 1048576: true; the input reads as it did. -/
def lanesMergeUptoRow : OpenClaim := { program := "ytmkjoojoaldljaa", sum := "4929495e17539a43ff1a2284eb196a6a0d84da31a5c9ecf6d2c4bbcc1b35729f", func := "cloister/cloisterlaw06.LanesMerge", spec := "lanesMerge", inPlace := ["(*sync.WaitGroup).Add", "internal/race.ReleaseMerge", "internal/race.Disable", "internal/race.Enable", "internal/synctest.IsInBubble", "internal/synctest.Associate[sync.WaitGroup]", "sync.fatal", "sync/atomic.OrUint64", "sync/atomic.AddUint64", "internal/race.Read", "sync/atomic.LoadUint64", "sync/atomic.StoreUint64", "internal/synctest.Disassociate[sync.WaitGroup]", "sync.runtime_Semrelease", "(*sync.WaitGroup).Done", "(*sync.WaitGroup).Wait", "internal/race.Acquire", "internal/synctest.IsAssociated[sync.WaitGroup]", "sync/atomic.CompareAndSwapUint64", "internal/race.Write", "sync.runtime_SemacquireWaitGroup"], unfollowed := true, recurses := true, leaving := true, apart := false, narrowed := true }
def LanesMergeUptoSaid : Prop := lanesMergeUptoRow.holds Try.pinned (OpenSpec.upto lanesMergeSpec)

/-- 'cloisterlaw06.LanesBehind', WHERE WHAT IT READS IS OF BULK AT MOST 1048576: true; the input reads as it did. -/
def lanesBehindUptoRow : OpenClaim := { program := "ytmkjoojoaldljaa", sum := "4929495e17539a43ff1a2284eb196a6a0d84da31a5c9ecf6d2c4bbcc1b35729f", func := "cloister/cloisterlaw06.LanesBehind", spec := "lanesBehind", inPlace := ["(*sync.WaitGroup).Add", "internal/race.ReleaseMerge", "internal/race.Disable", "internal/race.Enable", "internal/synctest.IsInBubble", "internal/synctest.Associate[sync.WaitGroup]", "sync.fatal", "sync/atomic.OrUint64", "sync/atomic.AddUint64", "internal/race.Read", "sync/atomic.LoadUint64", "sync/atomic.StoreUint64", "internal/synctest.Disassociate[sync.WaitGroup]", "sync.runtime_Semrelease", "(*sync.WaitGroup).Done", "(*sync.WaitGroup).Wait", "internal/race.Acquire", "internal/synctest.IsAssociated[sync.WaitGroup]", "sync/atomic.CompareAndSwapUint64", "internal/race.Write", "sync.runtime_SemacquireWaitGroup"], unfollowed := true, recurses := true, leaving := true, apart := false, narrowed := true }
def LanesBehindUptoSaid : Prop := lanesBehindUptoRow.holds Try.pinned (OpenSpec.upto lanesBehindSpec)

/-- 'cloisterlaw06.LanesAll', WHERE WHAT IT READS IS OF BULK AT MOST 1048576: true; the input reads as it did. -/
def lanesAllUptoRow : OpenClaim := { program := "ytmkjoojoaldljaa", sum := "4929495e17539a43ff1a2284eb196a6a0d84da31a5c9ecf6d2c4bbcc1b35729f", func := "cloister/cloisterlaw06.LanesAll", spec := "lanesAll", inPlace := ["(*sync.WaitGroup).Add", "internal/race.ReleaseMerge", "internal/race.Disable", "internal/race.Enable", "internal/synctest.IsInBubble", "internal/synctest.Associate[sync.WaitGroup]", "sync.fatal", "sync/atomic.OrUint64", "sync/atomic.AddUint64", "internal/race.Read", "sync/atomic.LoadUint64", "sync/atomic.StoreUint64", "internal/synctest.Disassociate[sync.WaitGroup]", "sync.runtime_Semrelease", "(*sync.WaitGroup).Done", "(*sync.WaitGroup).Wait", "internal/race.Acquire", "internal/synctest.IsAssociated[sync.WaitGroup]", "sync/atomic.CompareAndSwapUint64", "internal/race.Write", "sync.runtime_SemacquireWaitGroup"], unfollowed := true, recurses := true, leaving := true, apart := false, narrowed := true }
def LanesAllUptoSaid : Prop := lanesAllUptoRow.holds Try.pinned (OpenSpec.upto lanesAllSpec)

/-- 'cloisterlaw06.LanesRising', WHERE WHAT IT READS IS OF BULK AT MOST 1048576: true; the input reads as it did. -/
def lanesRisingUptoRow : OpenClaim := { program := "ytmkjoojoaldljaa", sum := "4929495e17539a43ff1a2284eb196a6a0d84da31a5c9ecf6d2c4bbcc1b35729f", func := "cloister/cloisterlaw06.LanesRising", spec := "lanesRising", inPlace := ["(*sync.WaitGroup).Add", "internal/race.ReleaseMerge", "internal/race.Disable", "internal/race.Enable", "internal/synctest.IsInBubble", "internal/synctest.Associate[sync.WaitGroup]", "sync.fatal", "sync/atomic.OrUint64", "sync/atomic.AddUint64", "internal/race.Read", "sync/atomic.LoadUint64", "sync/atomic.StoreUint64", "internal/synctest.Disassociate[sync.WaitGroup]", "sync.runtime_Semrelease", "(*sync.WaitGroup).Done", "(*sync.WaitGroup).Wait", "internal/race.Acquire", "internal/synctest.IsAssociated[sync.WaitGroup]", "sync/atomic.CompareAndSwapUint64", "internal/race.Write", "sync.runtime_SemacquireWaitGroup"], unfollowed := true, recurses := true, leaving := true, apart := false, narrowed := true }
def LanesRisingUptoSaid : Prop := lanesRisingUptoRow.holds Try.pinned (OpenSpec.upto lanesRisingSpec)

/-- 'cloisterlaw06.LanesLeaves', WHERE WHAT IT READS IS OF BULK AT MOST 1048576: true; the input reads as it did. -/
def lanesLeavesUptoRow : OpenClaim := { program := "ytmkjoojoaldljaa", sum := "4929495e17539a43ff1a2284eb196a6a0d84da31a5c9ecf6d2c4bbcc1b35729f", func := "cloister/cloisterlaw06.LanesLeaves", spec := "lanesLeaves", inPlace := ["(*sync.WaitGroup).Add", "internal/race.ReleaseMerge", "internal/race.Disable", "internal/race.Enable", "internal/synctest.IsInBubble", "internal/synctest.Associate[sync.WaitGroup]", "sync.fatal", "sync/atomic.OrUint64", "sync/atomic.AddUint64", "internal/race.Read", "sync/atomic.LoadUint64", "sync/atomic.StoreUint64", "internal/synctest.Disassociate[sync.WaitGroup]", "sync.runtime_Semrelease", "(*sync.WaitGroup).Done", "(*sync.WaitGroup).Wait", "internal/race.Acquire", "internal/synctest.IsAssociated[sync.WaitGroup]", "sync/atomic.CompareAndSwapUint64", "internal/race.Write", "sync.runtime_SemacquireWaitGroup"], unfollowed := true, recurses := true, leaving := true, apart := false, narrowed := true }
def LanesLeavesUptoSaid : Prop := lanesLeavesUptoRow.holds Try.pinned (OpenSpec.upto lanesLeavesSpec)

end Rows
end Go.Proofs.Ytmkjoojoaldljaa
