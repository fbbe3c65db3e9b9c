/- The law GaugeCosts as a statement over numbers and lists, and how its arguments are opened. (Written by xprint.py, a program of this session.) -/
import Derived.Test.YtajejidnidomgaaXGx9
import Derived.Test.YtajejidnidomgaaWRows
namespace Go.Proofs.Ytajejidnidomgaa.XG.GaugeCosts
open Go.RowKit Go.Proofs.YtajejidnidomgaaW.PrintWords
set_option linter.unusedVariables false
def G24 (x : S24) : Prop := ((-9223372036854775808) ≤ x.f0 ∧ x.f0 ≤ 9223372036854775807) ∧ (x.f1 < 18446744073709551616) ∧ (x.f2 < 18446744073709551616)
/-- The statement over numbers and lists. -/
def Pure : Prop := ∀ (a0 : S24), (G24 a0) → ∃ k, beaconlaw05_GaugeCosts.f k (a0).f0 (a0).f1 (a0).f2 = some true
theorem opens24 : Opens Try.prog 24 k24 G24 := (Opens.struct (fun a => ⟨a.1, a.2.1, a.2.2⟩) (fun _ => rfl) Try.underlying24 (by kernel_rfl) (OpensF.cons rfl (Opens.int Try.underlying3 (by kernel_rfl) (lo := -9223372036854775808) (hi := 9223372036854775807) (by decide) (by decide)) (OpensF.cons rfl (Opens.float Try.underlying22 (by kernel_rfl)) (OpensF.one rfl (Opens.float Try.underlying22 (by kernel_rfl)))))).mono (fun _ h => h)
end Go.Proofs.Ytajejidnidomgaa.XG.GaugeCosts
