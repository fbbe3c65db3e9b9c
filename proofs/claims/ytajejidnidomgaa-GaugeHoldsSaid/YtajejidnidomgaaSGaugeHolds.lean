/- The law GaugeHolds as a statement over numbers and lists, and how its arguments are opened. (Written by xprint.py, a program of this session.) -/
import Derived.Test.YtajejidnidomgaaXGx6
import Derived.Test.YtajejidnidomgaaWRows
namespace Go.Proofs.Ytajejidnidomgaa.XG.GaugeHolds
open Go.RowKit Go.Proofs.YtajejidnidomgaaW.PrintWords
set_option linter.unusedVariables false
/-- The statement over numbers and lists. -/
def Pure : Prop := ∀ (a0 : Nat) (a1 : Nat), (a0 < 18446744073709551616) → (a1 < 18446744073709551616) → ∃ k, beaconlaw05_GaugeHolds.f k a0 a1 = some true
end Go.Proofs.Ytajejidnidomgaa.XG.GaugeHolds
