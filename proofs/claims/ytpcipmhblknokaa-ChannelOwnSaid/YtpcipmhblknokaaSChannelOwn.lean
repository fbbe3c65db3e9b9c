/- The law ChannelOwn as a statement over numbers and lists, and how its arguments are opened. (Written by xprint.py, a program of this session.) -/
import Derived.Test.YtpcipmhblknokaaXCx8
import Derived.Test.YtpcipmhblknokaaWRows
namespace Go.Proofs.Ytpcipmhblknokaa.XC.ChannelOwn
open Go.RowKit Go.Proofs.YtpcipmhblknokaaW.PrintWords
set_option linter.unusedVariables false
def G27 (x : S27) : Prop := ((-9223372036854775808) ≤ x.f0 ∧ x.f0 ≤ 9223372036854775807) ∧ ((-9223372036854775808) ≤ x.f1 ∧ x.f1 ≤ 9223372036854775807) ∧ (x.f2.size ≤ 140737488351232) ∧ ((-9223372036854775808) ≤ x.f3 ∧ x.f3 ≤ 9223372036854775807)
/-- The statement over numbers and lists. -/
def Pure : Prop := ∀ (a0 : List (S27)), (a0.length * 40 ≤ 140737488351232 ∧ ∀ x ∈ a0, G27 x) → beaconlaw11_ChannelOwn.f a0 = some true
theorem opens27 : Opens Try.prog 27 k27 G27 := (Opens.struct (fun a => ⟨a.1, a.2.1, a.2.2.1, a.2.2.2⟩) (fun _ => rfl) Try.underlying27 (by kernel_rfl) (OpensF.cons rfl (Opens.int Try.underlying3 (by kernel_rfl) (lo := -9223372036854775808) (hi := 9223372036854775807) (by decide) (by decide)) (OpensF.cons rfl (Opens.int Try.underlying3 (by kernel_rfl) (lo := -9223372036854775808) (hi := 9223372036854775807) (by decide) (by decide)) (OpensF.cons rfl (Opens.string Try.underlying9 (by kernel_rfl)) (OpensF.one rfl (Opens.int Try.underlying3 (by kernel_rfl) (lo := -9223372036854775808) (hi := 9223372036854775807) (by decide) (by decide))))))).mono (fun _ h => h)
end Go.Proofs.Ytpcipmhblknokaa.XC.ChannelOwn
