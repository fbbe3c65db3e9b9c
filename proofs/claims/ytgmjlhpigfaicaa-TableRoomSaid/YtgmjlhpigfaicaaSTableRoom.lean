/- The law TableRoom as a statement over numbers and lists, and how its arguments are opened. (Written by xprint.py, a program of this session.) -/
import Derived.Test.YtgmjlhpigfaicaaXAx22
import Derived.Test.YtgmjlhpigfaicaaWRows
namespace Go.Proofs.Ytgmjlhpigfaicaa.XA.TableRoom
open Go.RowKit Go.Proofs.YtgmjlhpigfaicaaW.PrintWords
set_option linter.unusedVariables false
def G39 (x : S39) : Prop := ((-9223372036854775808) ≤ x.f0 ∧ x.f0 ≤ 9223372036854775807) ∧ ((-9223372036854775808) ≤ x.f1 ∧ x.f1 ≤ 9223372036854775807) ∧ (x.f2 < 18446744073709551616) ∧ ((-9223372036854775808) ≤ x.f3 ∧ x.f3 ≤ 9223372036854775807) ∧ (x.f4 < 18446744073709551616) ∧ ((-9223372036854775808) ≤ x.f5 ∧ x.f5 ≤ 9223372036854775807)
def G24 (x : S24) : Prop := (x.f0.length * 48 ≤ 140737488351232 ∧ ∀ y ∈ x.f0, G39 y) ∧ (True)
/-- The statement over numbers and lists. -/
def Pure : Prop := ∀ (a0 : S24) (a1 : List (List (S39))) (a2 : Int), (G24 a0) → (a1.length * 24 ≤ 140737488351232 ∧ ∀ x ∈ a1, x.length * 48 ≤ 140737488351232 ∧ ∀ y ∈ x, G39 y) → ((-9223372036854775808) ≤ a2 ∧ a2 ≤ 9223372036854775807) → ∃ k, beaconlaw17_TableRoom.f k (a0).f0 (a0).f1 a1 a2 = some true
theorem opens39 : Opens Try.prog 39 k39 G39 := (Opens.struct (fun a => ⟨a.1, a.2.1, a.2.2.1, a.2.2.2.1, a.2.2.2.2.1, a.2.2.2.2.2⟩) (fun _ => rfl) Try.underlying39 (by kernel_rfl) (OpensF.cons rfl (Opens.int Try.underlying3 (by kernel_rfl) (lo := -9223372036854775808) (hi := 9223372036854775807) (by decide) (by decide)) (OpensF.cons rfl (Opens.int Try.underlying3 (by kernel_rfl) (lo := -9223372036854775808) (hi := 9223372036854775807) (by decide) (by decide)) (OpensF.cons rfl (Opens.float Try.underlying37 (by kernel_rfl)) (OpensF.cons rfl (Opens.int Try.underlying3 (by kernel_rfl) (lo := -9223372036854775808) (hi := 9223372036854775807) (by decide) (by decide)) (OpensF.cons rfl (Opens.float Try.underlying37 (by kernel_rfl)) (OpensF.one rfl (Opens.int Try.underlying3 (by kernel_rfl) (lo := -9223372036854775808) (hi := 9223372036854775807) (by decide) (by decide))))))))).mono (fun _ h => h)
theorem opens24 : Opens Try.prog 24 k24 G24 := (Opens.struct (fun a => ⟨a.1, a.2⟩) (fun _ => rfl) Try.underlying24 (by kernel_rfl) (OpensF.cons rfl (Opens.slice (B := 48) Try.underlying22 (by kernel_rfl) (by kernel_rfl) opens39) (OpensF.one rfl (Opens.bool Try.underlying4 (by kernel_rfl))))).mono (fun _ h => h)
end Go.Proofs.Ytgmjlhpigfaicaa.XA.TableRoom
