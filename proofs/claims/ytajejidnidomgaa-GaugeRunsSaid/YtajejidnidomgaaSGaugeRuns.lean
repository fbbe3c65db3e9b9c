/- The law GaugeRuns as a statement over numbers and lists, and how its arguments are opened. (Written by xprint.py, a program of this session.) -/
import Derived.Test.YtajejidnidomgaaXRx8
import Derived.Test.YtajejidnidomgaaWRows
namespace Go.Proofs.Ytajejidnidomgaa.XR.GaugeRuns
open Go.RowKit Go.Proofs.YtajejidnidomgaaW.PrintWords
set_option linter.unusedVariables false
/-- The statement over numbers and lists. -/
def Pure : Prop := ∀ (a0 : List Nat), (a0.length * 8 ≤ 140737488351232 ∧ ∀ x ∈ a0, x < 18446744073709551616) → ∃ k, beaconlaw05_GaugeRuns.f k a0 = some true
end Go.Proofs.Ytajejidnidomgaa.XR.GaugeRuns
