/- The law GaugeBetween as a statement over numbers and lists, and how its arguments are opened. (Written by xprint.py, a program of this session.) -/
import Derived.Test.YtajejidnidomgaaXGx5
import Derived.Test.YtajejidnidomgaaWRows
namespace Go.Proofs.Ytajejidnidomgaa.XG.GaugeBetween
open Go.RowKit Go.Proofs.YtajejidnidomgaaW.PrintWords
set_option linter.unusedVariables false
/-- The statement over numbers and lists. -/
def Pure : Prop := ∀ (a0 : Int) (a1 : List Int), (0 ≤ a0 ∧ a0 ≤ 4294967295) → (a1.length * 4 ≤ 140737488351232 ∧ ∀ x ∈ a1, 0 ≤ x ∧ x ≤ 4294967295) → ∃ k, beaconlaw05_GaugeBetween.f k a0 a1 = some true
end Go.Proofs.Ytajejidnidomgaa.XG.GaugeBetween
