/- The law SessionPlays as a statement over numbers and lists, and how its arguments are opened. (Written by xprint.py, a program of this session.) -/
import Derived.Test.YtjodekffbobmlaaXSx3
import Derived.Test.YtjodekffbobmlaaWRows
namespace Go.Proofs.Ytjodekffbobmlaa.XS.SessionPlays
open Go.RowKit Go.Proofs.YtjodekffbobmlaaW.PrintWords
set_option linter.unusedVariables false
def G26 (x : S26) : Prop := (0 ≤ x.f0 ∧ x.f0 ≤ 18446744073709551615) ∧ (0 ≤ x.f1 ∧ x.f1 ≤ 18446744073709551615) ∧ (True) ∧ ((-9223372036854775808) ≤ x.f3 ∧ x.f3 ≤ 9223372036854775807)
def G45 (x : S45) : Prop := ((-9223372036854775808) ≤ x.f0 ∧ x.f0 ≤ 9223372036854775807) ∧ (0 ≤ x.f1 ∧ x.f1 ≤ 18446744073709551615) ∧ (0 ≤ x.f2 ∧ x.f2 ≤ 18446744073709551615) ∧ ((-9223372036854775808) ≤ x.f3 ∧ x.f3 ≤ 9223372036854775807)
/-- The statement over numbers and lists. -/
def Pure : Prop := ∀ (a0 : S26) (a1 : List (S45)), (G26 a0) → (a1.length * 32 ≤ 140737488351232 ∧ ∀ x ∈ a1, G45 x) → ∃ k, beaconlaw12_SessionPlays.f k (a0).f0 (a0).f1 (a0).f2 (a0).f3 a1 = some true
theorem opens26 : Opens Try.prog 26 k26 G26 := (Opens.struct (fun a => ⟨a.1, a.2.1, a.2.2.1, a.2.2.2⟩) (fun _ => rfl) Try.underlying26 (by kernel_rfl) (OpensF.cons rfl (Opens.int Try.underlying22 (by kernel_rfl) (lo := 0) (hi := 18446744073709551615) (by decide) (by decide)) (OpensF.cons rfl (Opens.int Try.underlying22 (by kernel_rfl) (lo := 0) (hi := 18446744073709551615) (by decide) (by decide)) (OpensF.cons rfl (Opens.bool Try.underlying4 (by kernel_rfl)) (OpensF.one rfl (Opens.int Try.underlying3 (by kernel_rfl) (lo := -9223372036854775808) (hi := 9223372036854775807) (by decide) (by decide))))))).mono (fun _ h => h)
theorem opens45 : Opens Try.prog 45 k45 G45 := (Opens.struct (fun a => ⟨a.1, a.2.1, a.2.2.1, a.2.2.2⟩) (fun _ => rfl) Try.underlying45 (by kernel_rfl) (OpensF.cons rfl (Opens.int Try.underlying3 (by kernel_rfl) (lo := -9223372036854775808) (hi := 9223372036854775807) (by decide) (by decide)) (OpensF.cons rfl (Opens.int Try.underlying22 (by kernel_rfl) (lo := 0) (hi := 18446744073709551615) (by decide) (by decide)) (OpensF.cons rfl (Opens.int Try.underlying22 (by kernel_rfl) (lo := 0) (hi := 18446744073709551615) (by decide) (by decide)) (OpensF.one rfl (Opens.int Try.underlying3 (by kernel_rfl) (lo := -9223372036854775808) (hi := 9223372036854775807) (by decide) (by decide))))))).mono (fun _ h => h)
end Go.Proofs.Ytjodekffbobmlaa.XS.SessionPlays
