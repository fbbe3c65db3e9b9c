/- The law DeltaTakes as a statement over numbers and lists, and how its arguments are opened. (Written by xprint.py, a program of this session.) -/
import Derived.Test.YtpcgjdllgdkobaaXDx13
import Derived.Test.YtpcgjdllgdkobaaWRows
namespace Go.Proofs.Ytpcgjdllgdkobaa.XD.DeltaTakes
open Go.RowKit Go.Proofs.YtpcgjdllgdkobaaW.PrintWords
set_option linter.unusedVariables false
def G24 (x : S24) : Prop := (0 ≤ x.f0 ∧ x.f0 ≤ 18446744073709551615)
/-- The statement over numbers and lists. -/
def Pure : Prop := ∀ (a0 : S24) (a1 : List Int), (G24 a0) → (a1.length * 8 ≤ 140737488351232 ∧ ∀ x ∈ a1, 0 ≤ x ∧ x ≤ 18446744073709551615) → ∃ k, beaconlaw14_DeltaTakes.f k (a0).f0 a1 = some true
theorem opens24 : Opens Try.prog 24 k24 G24 := (Opens.struct (fun a => ⟨a⟩) (fun _ => rfl) Try.underlying24 (by kernel_rfl) (OpensF.one rfl (Opens.int Try.underlying22 (by kernel_rfl) (lo := 0) (hi := 18446744073709551615) (by decide) (by decide)))).mono (fun _ h => h)
end Go.Proofs.Ytpcgjdllgdkobaa.XD.DeltaTakes
