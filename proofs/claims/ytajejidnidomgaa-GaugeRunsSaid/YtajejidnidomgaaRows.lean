/-
  No cell of these rows narrows 'for every input' (looked for: loops, veiled, ifaces, maps, wideKeys, modest, calm, conditions, laid).
  DERIVED. THE GIVEN ROWS OF THIS SEAT. 6 by the template 'for every input the law returns true; each argument reads behind the call as it read before'; 0 by the template 'total and deterministic' (their statements: YtajejidnidomgaaTotals.lean).
  GIVEN WITH THE SEED: the statements are not yours to turn. If you find one false, say at which input.
  Laid BY PROGRAM, IN A SANDBOX (cutbox-rows.mjs): the forced cells as the released guide's own fill.sh prints them over the translation 0999f4258800bc08… (all of the seat's roots in one cut). By AI agents, Wed Nov 11 2026. No macro, syntax, notation, axiom, sorry.
-/
import Derived.Test.YtajejidnidomgaaChecked
import GoSem.Claim
import GoSem.ClaimJoined
import GoSem.ClaimMapViews
import Derived.JoinedTies
import Derived.KernelRfl
namespace Go.Proofs.Ytajejidnidomgaa
/- THE CELL 'sum', in the pinned program and in every row, IS THE sha256 OF THE DUMP (.gsa) THAT YtajejidnidomgaaProg.lean LOADS. Nothing in Lean hashes anything: it is a label: what it is worth is what the hold of that sum in a sandbox is worth. -/
noncomputable def Try.pinned : Pinned := { name := "ytajejidnidomgaa", sum := "0999f4258800bc0838885be20dff514d7cf373f34cdf540c1dea3cd549c6fcbe", checked := Try.checked }
namespace Rows
def none {H : Type} : Left H := { results := [], args := [] }

/-- 'beaconlaw05.GaugeFeeds': WHATEVER THE INPUT: true; the input reads as it did. -/
def gaugeFeedsSpec : ChangeSpec := { name := "gaugeFeeds", fn := fun _ => fun
  | [d1, d2] => { results := [.lit (.bool true)], args := [d1, d2] }
  | _ => none }
def gaugeFeedsRow : OpenClaim := { program := "ytajejidnidomgaa", sum := "0999f4258800bc0838885be20dff514d7cf373f34cdf540c1dea3cd549c6fcbe", func := "beacon/beaconlaw05.GaugeFeeds", spec := "gaugeFeeds", inPlace := ["math.Float64bits", "math.Float64frombits"], apart := false }
def GaugeFeedsSaid : Prop := gaugeFeedsRow.holds Try.pinned (OpenSpec.ofChange gaugeFeedsSpec)

/-- ITS FALSE NEIGHBOUR: 'it returns false'. Refute it at one input. -/
def gaugeFeedsWrong : ChangeSpec := { name := "gaugeFeeds", fn := fun _ => fun
  | [d1, d2] => { results := [.lit (.bool false)], args := [d1, d2] }
  | _ => none }
def GaugeFeedsWrongFalsely : Prop := gaugeFeedsRow.holds Try.pinned (OpenSpec.ofChange gaugeFeedsWrong)

/-- 'beaconlaw05.GaugeBetween': WHATEVER THE INPUT: true; the input reads as it did. -/
def gaugeBetweenSpec : ChangeSpec := { name := "gaugeBetween", fn := fun _ => fun
  | [d1, d2] => { results := [.lit (.bool true)], args := [d1, d2] }
  | _ => none }
def gaugeBetweenRow : OpenClaim := { program := "ytajejidnidomgaa", sum := "0999f4258800bc0838885be20dff514d7cf373f34cdf540c1dea3cd549c6fcbe", func := "beacon/beaconlaw05.GaugeBetween", spec := "gaugeBetween", inPlace := ["math.Float64bits", "math.Float64frombits"], apart := false }
def GaugeBetweenSaid : Prop := gaugeBetweenRow.holds Try.pinned (OpenSpec.ofChange gaugeBetweenSpec)

/-- ITS FALSE NEIGHBOUR: 'it returns false'. Refute it at one input. -/
def gaugeBetweenWrong : ChangeSpec := { name := "gaugeBetween", fn := fun _ => fun
  | [d1, d2] => { results := [.lit (.bool false)], args := [d1, d2] }
  | _ => none }
def GaugeBetweenWrongFalsely : Prop := gaugeBetweenRow.holds Try.pinned (OpenSpec.ofChange gaugeBetweenWrong)

/-- 'beaconlaw05.GaugeHolds': WHATEVER THE INPUT: true; the input reads as it did. -/
def gaugeHoldsSpec : ChangeSpec := { name := "gaugeHolds", fn := fun _ => fun
  | [d1, d2] => { results := [.lit (.bool true)], args := [d1, d2] }
  | _ => none }
def gaugeHoldsRow : OpenClaim := { program := "ytajejidnidomgaa", sum := "0999f4258800bc0838885be20dff514d7cf373f34cdf540c1dea3cd549c6fcbe", func := "beacon/beaconlaw05.GaugeHolds", spec := "gaugeHolds", inPlace := ["math.Float64bits", "math.Float64frombits", "math.archTrunc"], apart := false }
def GaugeHoldsSaid : Prop := gaugeHoldsRow.holds Try.pinned (OpenSpec.ofChange gaugeHoldsSpec)

/-- ITS FALSE NEIGHBOUR: 'it returns false'. Refute it at one input. -/
def gaugeHoldsWrong : ChangeSpec := { name := "gaugeHolds", fn := fun _ => fun
  | [d1, d2] => { results := [.lit (.bool false)], args := [d1, d2] }
  | _ => none }
def GaugeHoldsWrongFalsely : Prop := gaugeHoldsRow.holds Try.pinned (OpenSpec.ofChange gaugeHoldsWrong)

/-- 'beaconlaw05.GaugeKeeps': WHATEVER THE INPUT: true; the input reads as it did. -/
def gaugeKeepsSpec : ChangeSpec := { name := "gaugeKeeps", fn := fun _ => fun
  | [d1, d2] => { results := [.lit (.bool true)], args := [d1, d2] }
  | _ => none }
def gaugeKeepsRow : OpenClaim := { program := "ytajejidnidomgaa", sum := "0999f4258800bc0838885be20dff514d7cf373f34cdf540c1dea3cd549c6fcbe", func := "beacon/beaconlaw05.GaugeKeeps", spec := "gaugeKeeps", inPlace := ["math.Float64bits", "math.Float64frombits", "math.RoundToEven", "math.archTrunc"], apart := false }
def GaugeKeepsSaid : Prop := gaugeKeepsRow.holds Try.pinned (OpenSpec.ofChange gaugeKeepsSpec)

/-- ITS FALSE NEIGHBOUR: 'it returns false'. Refute it at one input. -/
def gaugeKeepsWrong : ChangeSpec := { name := "gaugeKeeps", fn := fun _ => fun
  | [d1, d2] => { results := [.lit (.bool false)], args := [d1, d2] }
  | _ => none }
def GaugeKeepsWrongFalsely : Prop := gaugeKeepsRow.holds Try.pinned (OpenSpec.ofChange gaugeKeepsWrong)

/-- 'beaconlaw05.GaugeCosts': WHATEVER THE INPUT: true; the input reads as it did. -/
def gaugeCostsSpec : ChangeSpec := { name := "gaugeCosts", fn := fun _ => fun
  | [d] => { results := [.lit (.bool true)], args := [d] }
  | _ => none }
def gaugeCostsRow : OpenClaim := { program := "ytajejidnidomgaa", sum := "0999f4258800bc0838885be20dff514d7cf373f34cdf540c1dea3cd549c6fcbe", func := "beacon/beaconlaw05.GaugeCosts", spec := "gaugeCosts", inPlace := ["math.Float64bits", "math.Float64frombits", "math.RoundToEven", "math.archFloor", "math.archTrunc"], apart := false }
def GaugeCostsSaid : Prop := gaugeCostsRow.holds Try.pinned (OpenSpec.ofChange gaugeCostsSpec)

/-- ITS FALSE NEIGHBOUR: 'it returns false'. Refute it at one input. -/
def gaugeCostsWrong : ChangeSpec := { name := "gaugeCosts", fn := fun _ => fun
  | [d] => { results := [.lit (.bool false)], args := [d] }
  | _ => none }
def GaugeCostsWrongFalsely : Prop := gaugeCostsRow.holds Try.pinned (OpenSpec.ofChange gaugeCostsWrong)

/-- 'beaconlaw05.GaugeRuns': WHATEVER THE INPUT: true; the input reads as it did. -/
def gaugeRunsSpec : ChangeSpec := { name := "gaugeRuns", fn := fun _ => fun
  | [d] => { results := [.lit (.bool true)], args := [d] }
  | _ => none }
def gaugeRunsRow : OpenClaim := { program := "ytajejidnidomgaa", sum := "0999f4258800bc0838885be20dff514d7cf373f34cdf540c1dea3cd549c6fcbe", func := "beacon/beaconlaw05.GaugeRuns", spec := "gaugeRuns", inPlace := ["math.Float64bits", "math.Float64frombits", "math.RoundToEven", "math.archTrunc", "math.archFloor"], apart := false }
def GaugeRunsSaid : Prop := gaugeRunsRow.holds Try.pinned (OpenSpec.ofChange gaugeRunsSpec)

/-- ITS FALSE NEIGHBOUR: 'it returns false'. Refute it at one input. -/
def gaugeRunsWrong : ChangeSpec := { name := "gaugeRuns", fn := fun _ => fun
  | [d] => { results := [.lit (.bool false)], args := [d] }
  | _ => none }
def GaugeRunsWrongFalsely : Prop := gaugeRunsRow.holds Try.pinned (OpenSpec.ofChange gaugeRunsWrong)

/- THE SECOND FORM. 'bulk': how many values and letters a reading holds, each counted each time it is reached (what is shared counts as often as it is met; a slice's spare places count too). A statement '..UptoSaid' is the law's where the arguments, and the package variables that the reading takes, are together of bulk at most 1048576: NARROWER than '..Said'. Prove '..Said' where nothing that the law and all that it calls make is longer than what came in: it says more and counts as full. Else prove '..UptoSaid'. A law counts once. -/
mutual
def uptoBulk {H : Type} : DataW H → Nat
  | .lit (.string bytes) => bytes.length + 1
  | .lit _ => 1
  | .nil => 1
  | .ptr d => uptoBulk d + 1
  | .slice elems spare => uptoBulkAll elems + uptoBulkAll spare + 1
  | .agg parts => uptoBulkAll parts + 1
  | .iface _ d => uptoBulk d + 1
  | .map entries => uptoBulkEntries entries + 1
  | .held _ => 1
def uptoBulkAll {H : Type} : List (DataW H) → Nat
  | [] => 0
  | d :: r => uptoBulk d + uptoBulkAll r
def uptoBulkEntries {H : Type} : List (Lit × DataW H) → Nat
  | [] => 0
  | x :: r => uptoBulkEntry x + uptoBulkEntries r
def uptoBulkEntry {H : Type} : Lit × DataW H → Nat
  | (.string bytes, d) => bytes.length + uptoBulk d + 1
  | (_, d) => uptoBulk d + 1
 end
def uptoSmall : (H : Type) → List (DataW H) → Bool := fun _ ds => decide (uptoBulkAll ds ≤ 1048576)
def OpenSpec.upto (s : _root_.Go.ChangeSpec) : _root_.Go.OpenSpec := { _root_.Go.OpenSpec.ofChange s with cond := some uptoSmall }

/-- 'beaconlaw05.GaugeFeeds', WHERE WHAT IT READS IS OF BULK AT MOST 1048576: true; the input reads as it did. -/
def gaugeFeedsUptoRow : OpenClaim := { program := "ytajejidnidomgaa", sum := "0999f4258800bc0838885be20dff514d7cf373f34cdf540c1dea3cd549c6fcbe", func := "beacon/beaconlaw05.GaugeFeeds", spec := "gaugeFeeds", inPlace := ["math.Float64bits", "math.Float64frombits"], apart := false, narrowed := true }
def GaugeFeedsUptoSaid : Prop := gaugeFeedsUptoRow.holds Try.pinned (OpenSpec.upto gaugeFeedsSpec)

/-- 'beaconlaw05.GaugeBetween', WHERE WHAT IT READS IS OF BULK AT MOST 1048576: true; the input reads as it did. -/
def gaugeBetweenUptoRow : OpenClaim := { program := "ytajejidnidomgaa", sum := "0999f4258800bc0838885be20dff514d7cf373f34cdf540c1dea3cd549c6fcbe", func := "beacon/beaconlaw05.GaugeBetween", spec := "gaugeBetween", inPlace := ["math.Float64bits", "math.Float64frombits"], apart := false, narrowed := true }
def GaugeBetweenUptoSaid : Prop := gaugeBetweenUptoRow.holds Try.pinned (OpenSpec.upto gaugeBetweenSpec)

/-- 'beaconlaw05.GaugeHolds', WHERE WHAT IT READS IS OF BULK AT MOST 1048576: true; the input reads as it did. -/
def gaugeHoldsUptoRow : OpenClaim := { program := "ytajejidnidomgaa", sum := "0999f4258800bc0838885be20dff514d7cf373f34cdf540c1dea3cd549c6fcbe", func := "beacon/beaconlaw05.GaugeHolds", spec := "gaugeHolds", inPlace := ["math.Float64bits", "math.Float64frombits", "math.archTrunc"], apart := false, narrowed := true }
def GaugeHoldsUptoSaid : Prop := gaugeHoldsUptoRow.holds Try.pinned (OpenSpec.upto gaugeHoldsSpec)

/-- 'beaconlaw05.GaugeKeeps', WHERE WHAT IT READS IS OF BULK AT MOST 1048576: true; the input reads as it did. -/
def gaugeKeepsUptoRow : OpenClaim := { program := "ytajejidnidomgaa", sum := "0999f4258800bc0838885be20dff514d7cf373f34cdf540c1dea3cd549c6fcbe", func := "beacon/beaconlaw05.GaugeKeeps", spec := "gaugeKeeps", inPlace := ["math.Float64bits", "math.Float64frombits", "math.RoundToEven", "math.archTrunc"], apart := false, narrowed := true }
def GaugeKeepsUptoSaid : Prop := gaugeKeepsUptoRow.holds Try.pinned (OpenSpec.upto gaugeKeepsSpec)

/-- 'beaconlaw05.GaugeCosts', WHERE WHAT IT READS IS OF BULK AT MOST 1048576: true; the input reads as it did. -/
def gaugeCostsUptoRow : OpenClaim := { program := "ytajejidnidomgaa", sum := "0999f4258800bc0838885be20dff514d7cf373f34cdf540c1dea3cd549c6fcbe", func := "beacon/beaconlaw05.GaugeCosts", spec := "gaugeCosts", inPlace := ["math.Float64bits", "math.Float64frombits", "math.RoundToEven", "math.archFloor", "math.archTrunc"], apart := false, narrowed := true }
def GaugeCostsUptoSaid : Prop := gaugeCostsUptoRow.holds Try.pinned (OpenSpec.upto gaugeCostsSpec)

/-- 'beaconlaw05.GaugeRuns', WHERE WHAT IT READS IS OF BULK AT MOST 1048576: true; the input reads as it did. -/
def gaugeRunsUptoRow : OpenClaim := { program := "ytajejidnidomgaa", sum := "0999f4258800bc0838885be20dff514d7cf373f34cdf540c1dea3cd549c6fcbe", func := "beacon/beaconlaw05.GaugeRuns", spec := "gaugeRuns", inPlace := ["math.Float64bits", "math.Float64frombits", "math.RoundToEven", "math.archTrunc", "math.archFloor"], apart := false, narrowed := true }
def GaugeRunsUptoSaid : Prop := gaugeRunsUptoRow.holds Try.pinned (OpenSpec.upto gaugeRunsSpec)

end Rows
end Go.Proofs.Ytajejidnidomgaa
