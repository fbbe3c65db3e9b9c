/-
  No cell of these rows narrows 'for every input' (looked for: loops, veiled, ifaces, maps, wideKeys, modest, calm, conditions, laid).
  DERIVED. THE GIVEN ROWS OF THIS SEAT. 6 by the template 'for every input the law returns true; each argument reads behind the call as it read before'; 0 by the template 'total and deterministic' (their statements: YtpcgjdllgdkobaaTotals.lean).
  GIVEN WITH THE SEED: the statements are not yours to turn. If you find one false, say at which input.
  Laid BY PROGRAM, IN A SANDBOX (cutbox-rows.mjs): the forced cells as the released guide's own fill.sh prints them over the translation b59271af4265a45b… (all of the seat's roots in one cut). By AI agents, Wed Nov 11 2026. No macro, syntax, notation, axiom, sorry.
-/
import Derived.Test.YtpcgjdllgdkobaaChecked
import GoSem.Claim
import GoSem.ClaimJoined
import GoSem.ClaimMapViews
import Derived.JoinedTies
import Derived.KernelRfl
namespace Go.Proofs.Ytpcgjdllgdkobaa
/- THE CELL 'sum', in the pinned program and in every row, IS THE sha256 OF THE DUMP (.gsa) THAT YtpcgjdllgdkobaaProg.lean LOADS. Nothing in Lean hashes anything: it is a label: what it is worth is what the hold of that sum in a sandbox is worth. -/
noncomputable def Try.pinned : Pinned := { name := "ytpcgjdllgdkobaa", sum := "b59271af4265a45b9ef4ec8ddbb1f74c57690d3266d69259b2616e9e43eb2899", checked := Try.checked }
namespace Rows
def none {H : Type} : Left H := { results := [], args := [] }

/-- 'beaconlaw14.DeltaTakes': WHATEVER THE INPUT: true; the input reads as it did. -/
def deltaTakesSpec : ChangeSpec := { name := "deltaTakes", fn := fun _ => fun
  | [d1, d2] => { results := [.lit (.bool true)], args := [d1, d2] }
  | _ => none }
def deltaTakesRow : OpenClaim := { program := "ytpcgjdllgdkobaa", sum := "b59271af4265a45b9ef4ec8ddbb1f74c57690d3266d69259b2616e9e43eb2899", func := "beacon/beaconlaw14.DeltaTakes", spec := "deltaTakes", inPlace := ["math.Float64bits", "math.Float64frombits", "math.archTrunc"], unfollowed := true, recurses := true, apart := false }
def DeltaTakesSaid : Prop := deltaTakesRow.holds Try.pinned (OpenSpec.ofChange deltaTakesSpec)

/-- ITS FALSE NEIGHBOUR: 'it returns false'. Refute it at one input. -/
def deltaTakesWrong : ChangeSpec := { name := "deltaTakes", fn := fun _ => fun
  | [d1, d2] => { results := [.lit (.bool false)], args := [d1, d2] }
  | _ => none }
def DeltaTakesWrongFalsely : Prop := deltaTakesRow.holds Try.pinned (OpenSpec.ofChange deltaTakesWrong)

/-- 'beaconlaw14.DeltaLists': WHATEVER THE INPUT: true; the input reads as it did. -/
def deltaListsSpec : ChangeSpec := { name := "deltaLists", fn := fun _ => fun
  | [d1, d2] => { results := [.lit (.bool true)], args := [d1, d2] }
  | _ => none }
def deltaListsRow : OpenClaim := { program := "ytpcgjdllgdkobaa", sum := "b59271af4265a45b9ef4ec8ddbb1f74c57690d3266d69259b2616e9e43eb2899", func := "beacon/beaconlaw14.DeltaLists", spec := "deltaLists", inPlace := ["math.Float64bits", "math.Float64frombits", "math.archTrunc"], unfollowed := true, recurses := true, apart := false }
def DeltaListsSaid : Prop := deltaListsRow.holds Try.pinned (OpenSpec.ofChange deltaListsSpec)

/-- ITS FALSE NEIGHBOUR: 'it returns false'. Refute it at one input. -/
def deltaListsWrong : ChangeSpec := { name := "deltaLists", fn := fun _ => fun
  | [d1, d2] => { results := [.lit (.bool false)], args := [d1, d2] }
  | _ => none }
def DeltaListsWrongFalsely : Prop := deltaListsRow.holds Try.pinned (OpenSpec.ofChange deltaListsWrong)

/-- 'beaconlaw14.DeltaBack': WHATEVER THE INPUT: true; the input reads as it did. -/
def deltaBackSpec : ChangeSpec := { name := "deltaBack", fn := fun _ => fun
  | [d1, d2, d3] => { results := [.lit (.bool true)], args := [d1, d2, d3] }
  | _ => none }
def deltaBackRow : OpenClaim := { program := "ytpcgjdllgdkobaa", sum := "b59271af4265a45b9ef4ec8ddbb1f74c57690d3266d69259b2616e9e43eb2899", func := "beacon/beaconlaw14.DeltaBack", spec := "deltaBack", inPlace := ["math.Float64bits", "math.Float64frombits", "math.archTrunc"], unfollowed := true, recurses := true, apart := false }
def DeltaBackSaid : Prop := deltaBackRow.holds Try.pinned (OpenSpec.ofChange deltaBackSpec)

/-- ITS FALSE NEIGHBOUR: 'it returns false'. Refute it at one input. -/
def deltaBackWrong : ChangeSpec := { name := "deltaBack", fn := fun _ => fun
  | [d1, d2, d3] => { results := [.lit (.bool false)], args := [d1, d2, d3] }
  | _ => none }
def DeltaBackWrongFalsely : Prop := deltaBackRow.holds Try.pinned (OpenSpec.ofChange deltaBackWrong)

/-- 'beaconlaw14.DeltaEnds': WHATEVER THE INPUT: true; the input reads as it did. -/
def deltaEndsSpec : ChangeSpec := { name := "deltaEnds", fn := fun _ => fun
  | [d1, d2] => { results := [.lit (.bool true)], args := [d1, d2] }
  | _ => none }
def deltaEndsRow : OpenClaim := { program := "ytpcgjdllgdkobaa", sum := "b59271af4265a45b9ef4ec8ddbb1f74c57690d3266d69259b2616e9e43eb2899", func := "beacon/beaconlaw14.DeltaEnds", spec := "deltaEnds", inPlace := ["math.Float64bits", "math.Float64frombits", "math.archTrunc"], unfollowed := true, recurses := true, apart := false }
def DeltaEndsSaid : Prop := deltaEndsRow.holds Try.pinned (OpenSpec.ofChange deltaEndsSpec)

/-- ITS FALSE NEIGHBOUR: 'it returns false'. Refute it at one input. -/
def deltaEndsWrong : ChangeSpec := { name := "deltaEnds", fn := fun _ => fun
  | [d1, d2] => { results := [.lit (.bool false)], args := [d1, d2] }
  | _ => none }
def DeltaEndsWrongFalsely : Prop := deltaEndsRow.holds Try.pinned (OpenSpec.ofChange deltaEndsWrong)

/-- 'beaconlaw14.DeltaPlays': WHATEVER THE INPUT: true; the input reads as it did. -/
def deltaPlaysSpec : ChangeSpec := { name := "deltaPlays", fn := fun _ => fun
  | [d1, d2] => { results := [.lit (.bool true)], args := [d1, d2] }
  | _ => none }
def deltaPlaysRow : OpenClaim := { program := "ytpcgjdllgdkobaa", sum := "b59271af4265a45b9ef4ec8ddbb1f74c57690d3266d69259b2616e9e43eb2899", func := "beacon/beaconlaw14.DeltaPlays", spec := "deltaPlays", inPlace := ["math.Float64bits", "math.Float64frombits", "math.archTrunc"], unfollowed := true, recurses := true, apart := false }
def DeltaPlaysSaid : Prop := deltaPlaysRow.holds Try.pinned (OpenSpec.ofChange deltaPlaysSpec)

/-- ITS FALSE NEIGHBOUR: 'it returns false'. Refute it at one input. -/
def deltaPlaysWrong : ChangeSpec := { name := "deltaPlays", fn := fun _ => fun
  | [d1, d2] => { results := [.lit (.bool false)], args := [d1, d2] }
  | _ => none }
def DeltaPlaysWrongFalsely : Prop := deltaPlaysRow.holds Try.pinned (OpenSpec.ofChange deltaPlaysWrong)

/-- 'beaconlaw14.DeltaAgrees': WHATEVER THE INPUT: true; the input reads as it did. -/
def deltaAgreesSpec : ChangeSpec := { name := "deltaAgrees", fn := fun _ => fun
  | [d] => { results := [.lit (.bool true)], args := [d] }
  | _ => none }
def deltaAgreesRow : OpenClaim := { program := "ytpcgjdllgdkobaa", sum := "b59271af4265a45b9ef4ec8ddbb1f74c57690d3266d69259b2616e9e43eb2899", func := "beacon/beaconlaw14.DeltaAgrees", spec := "deltaAgrees", inPlace := ["math.Float64bits", "math.Float64frombits", "math.archTrunc"], unfollowed := true, recurses := true, apart := false }
def DeltaAgreesSaid : Prop := deltaAgreesRow.holds Try.pinned (OpenSpec.ofChange deltaAgreesSpec)

/-- ITS FALSE NEIGHBOUR: 'it returns false'. Refute it at one input. -/
def deltaAgreesWrong : ChangeSpec := { name := "deltaAgrees", fn := fun _ => fun
  | [d] => { results := [.lit (.bool false)], args := [d] }
  | _ => none }
def DeltaAgreesWrongFalsely : Prop := deltaAgreesRow.holds Try.pinned (OpenSpec.ofChange deltaAgreesWrong)

/- THE SECOND FORM. 'bulk': how many values and letters a reading holds, each counted each time it is reached (what is shared counts as often as it is met; a slice's spare places count too). A statement '..UptoSaid' is the law's where the arguments, and the package variables that the reading takes, are together of bulk at most 1048576: NARROWER than '..Said'. Prove '..Said' where nothing that the law and all that it calls make is longer than what came in: it says more and counts as full. Else prove '..UptoSaid'. A law counts once. -/
mutual
def uptoBulk {H : Type} : DataW H → Nat
  | .lit (.string bytes) => bytes.length + 1
  | .lit _ => 1
  | .nil => 1
  | .ptr d => uptoBulk d + 1
  | .slice elems spare => uptoBulkAll elems + uptoBulkAll spare + 1
  | .agg parts => uptoBulkAll parts + 1
  | .iface _ d => uptoBulk d + 1
  | .map entries => uptoBulkEntries entries + 1
  | .held _ => 1
def uptoBulkAll {H : Type} : List (DataW H) → Nat
  | [] => 0
  | d :: r => uptoBulk d + uptoBulkAll r
def uptoBulkEntries {H : Type} : List (Lit × DataW H) → Nat
  | [] => 0
  | x :: r => uptoBulkEntry x + uptoBulkEntries r
def uptoBulkEntry {H : Type} : Lit × DataW H → Nat
  | (.string bytes, d) => bytes.length + uptoBulk d + 1
  | (_, d) => uptoBulk d + 1
 end
def uptoSmall : (H : Type) → List (DataW H) → Bool := fun _ ds => decide (uptoBulkAll ds ≤ 1048576)
def OpenSpec.upto (s : _root_.Go.ChangeSpec) : _root_.Go.OpenSpec := { _root_.Go.OpenSpec.ofChange s with cond := some uptoSmall }

/-- 'beaconlaw14.DeltaTakes', WHERE WHAT IT READS IS OF BULK AT MOST 1048576: true; the input reads as it did. -/
def deltaTakesUptoRow : OpenClaim := { program := "ytpcgjdllgdkobaa", sum := "b59271af4265a45b9ef4ec8ddbb1f74c57690d3266d69259b2616e9e43eb2899", func := "beacon/beaconlaw14.DeltaTakes", spec := "deltaTakes", inPlace := ["math.Float64bits", "math.Float64frombits", "math.archTrunc"], unfollowed := true, recurses := true, apart := false, narrowed := true }
def DeltaTakesUptoSaid : Prop := deltaTakesUptoRow.holds Try.pinned (OpenSpec.upto deltaTakesSpec)

/-- 'beaconlaw14.DeltaLists', WHERE WHAT IT READS IS OF BULK AT MOST 1048576: true; the input reads as it did. -/
def deltaListsUptoRow : OpenClaim := { program := "ytpcgjdllgdkobaa", sum := "b59271af4265a45b9ef4ec8ddbb1f74c57690d3266d69259b2616e9e43eb2899", func := "beacon/beaconlaw14.DeltaLists", spec := "deltaLists", inPlace := ["math.Float64bits", "math.Float64frombits", "math.archTrunc"], unfollowed := true, recurses := true, apart := false, narrowed := true }
def DeltaListsUptoSaid : Prop := deltaListsUptoRow.holds Try.pinned (OpenSpec.upto deltaListsSpec)

/-- 'beaconlaw14.DeltaBack', WHERE WHAT IT READS IS OF BULK AT MOST 1048576: true; the input reads as it did. -/
def deltaBackUptoRow : OpenClaim := { program := "ytpcgjdllgdkobaa", sum := "b59271af4265a45b9ef4ec8ddbb1f74c57690d3266d69259b2616e9e43eb2899", func := "beacon/beaconlaw14.DeltaBack", spec := "deltaBack", inPlace := ["math.Float64bits", "math.Float64frombits", "math.archTrunc"], unfollowed := true, recurses := true, apart := false, narrowed := true }
def DeltaBackUptoSaid : Prop := deltaBackUptoRow.holds Try.pinned (OpenSpec.upto deltaBackSpec)

/-- 'beaconlaw14.DeltaEnds', WHERE WHAT IT READS IS OF BULK AT MOST 1048576: true; the input reads as it did. -/
def deltaEndsUptoRow : OpenClaim := { program := "ytpcgjdllgdkobaa", sum := "b59271af4265a45b9ef4ec8ddbb1f74c57690d3266d69259b2616e9e43eb2899", func := "beacon/beaconlaw14.DeltaEnds", spec := "deltaEnds", inPlace := ["math.Float64bits", "math.Float64frombits", "math.archTrunc"], unfollowed := true, recurses := true, apart := false, narrowed := true }
def DeltaEndsUptoSaid : Prop := deltaEndsUptoRow.holds Try.pinned (OpenSpec.upto deltaEndsSpec)

/-- 'beaconlaw14.DeltaPlays', WHERE WHAT IT READS IS OF BULK AT MOST 1048576: true; the input reads as it did. -/
def deltaPlaysUptoRow : OpenClaim := { program := "ytpcgjdllgdkobaa", sum := "b59271af4265a45b9ef4ec8ddbb1f74c57690d3266d69259b2616e9e43eb2899", func := "beacon/beaconlaw14.DeltaPlays", spec := "deltaPlays", inPlace := ["math.Float64bits", "math.Float64frombits", "math.archTrunc"], unfollowed := true, recurses := true, apart := false, narrowed := true }
def DeltaPlaysUptoSaid : Prop := deltaPlaysUptoRow.holds Try.pinned (OpenSpec.upto deltaPlaysSpec)

/-- 'beaconlaw14.DeltaAgrees', WHERE WHAT IT READS IS OF BULK AT MOST 1048576: true; the input reads as it did. -/
def deltaAgreesUptoRow : OpenClaim := { program := "ytpcgjdllgdkobaa", sum := "b59271af4265a45b9ef4ec8ddbb1f74c57690d3266d69259b2616e9e43eb2899", func := "beacon/beaconlaw14.DeltaAgrees", spec := "deltaAgrees", inPlace := ["math.Float64bits", "math.Float64frombits", "math.archTrunc"], unfollowed := true, recurses := true, apart := false, narrowed := true }
def DeltaAgreesUptoSaid : Prop := deltaAgreesUptoRow.holds Try.pinned (OpenSpec.upto deltaAgreesSpec)

end Rows
end Go.Proofs.Ytpcgjdllgdkobaa
