/- The law SessionAgrees as a statement over numbers and lists, and how its arguments are opened. (Written by xprint.py, a program of this session.) -/
import Derived.Test.YtjodekffbobmlaaXAx3
import Derived.Test.YtjodekffbobmlaaWRows
namespace Go.Proofs.Ytjodekffbobmlaa.XA.SessionAgrees
open Go.RowKit Go.Proofs.YtjodekffbobmlaaW.PrintWords
set_option linter.unusedVariables false
def G23 (x : S23) : Prop := (0 ≤ x.f0 ∧ x.f0 ≤ 18446744073709551615) ∧ (0 ≤ x.f1 ∧ x.f1 ≤ 18446744073709551615)
def G33 (x : S33) : Prop := ((-9223372036854775808) ≤ x.f0 ∧ x.f0 ≤ 9223372036854775807) ∧ ((-9223372036854775808) ≤ x.f1 ∧ x.f1 ≤ 9223372036854775807) ∧ ((-9223372036854775808) ≤ x.f2 ∧ x.f2 ≤ 9223372036854775807) ∧ ((-9223372036854775808) ≤ x.f3 ∧ x.f3 ≤ 9223372036854775807)
/-- The statement over numbers and lists. -/
def Pure : Prop := ∀ (a0 : S23) (a1 : List (S33)), (G23 a0) → (a1.length * 32 ≤ 140737488351232 ∧ ∀ x ∈ a1, G33 x) → ∃ k, beaconlaw12_SessionAgrees.f k (a0).f0 (a0).f1 a1 = some true
theorem opens23 : Opens Try.prog 23 k23 G23 := (Opens.array (n := 2) (e := 22) (c := 1) (fun a => ⟨a.1, a.2⟩) (fun _ => rfl) Try.underlying23 (by kernel_rfl) (by kernel_rfl) (OpensF.cons rfl (Opens.int Try.underlying22 (by kernel_rfl) (lo := 0) (hi := 18446744073709551615) (by decide) (by decide)) (OpensF.one rfl (Opens.int Try.underlying22 (by kernel_rfl) (lo := 0) (hi := 18446744073709551615) (by decide) (by decide))))).mono (fun _ h => h)
theorem opens33 : Opens Try.prog 33 k33 G33 := (Opens.struct (fun a => ⟨a.1, a.2.1, a.2.2.1, a.2.2.2⟩) (fun _ => rfl) Try.underlying33 (by kernel_rfl) (OpensF.cons rfl (Opens.int Try.underlying3 (by kernel_rfl) (lo := -9223372036854775808) (hi := 9223372036854775807) (by decide) (by decide)) (OpensF.cons rfl (Opens.int Try.underlying3 (by kernel_rfl) (lo := -9223372036854775808) (hi := 9223372036854775807) (by decide) (by decide)) (OpensF.cons rfl (Opens.int Try.underlying3 (by kernel_rfl) (lo := -9223372036854775808) (hi := 9223372036854775807) (by decide) (by decide)) (OpensF.one rfl (Opens.int Try.underlying3 (by kernel_rfl) (lo := -9223372036854775808) (hi := 9223372036854775807) (by decide) (by decide))))))).mono (fun _ h => h)
end Go.Proofs.Ytjodekffbobmlaa.XA.SessionAgrees
