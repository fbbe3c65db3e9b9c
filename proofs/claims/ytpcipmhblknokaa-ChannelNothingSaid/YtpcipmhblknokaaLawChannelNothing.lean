import Derived.Test.YtpcipmhblknokaaXCx2
import Derived.Test.YtpcipmhblknokaaWRows
import Derived.Test.YtpcipmhblknokaaRows
import Derived.WalkKit
import Derived.ProofKit
import Derived.OpenShut
import Derived.ShutString
import Derived.ChangeOld
import Derived.Below
import Derived.SizedLaws
/- The law ChannelNothing as a statement over numbers and lists, and how its arguments are opened. (Written by xprint.py, a program of this session.) -/
namespace Go.Proofs.Ytpcipmhblknokaa.XC.ChannelNothing
open Go.RowKit Go.Proofs.YtpcipmhblknokaaW.PrintWords
set_option linter.unusedVariables false
def G27 (x : S27) : Prop := ((-9223372036854775808) ≤ x.f0 ∧ x.f0 ≤ 9223372036854775807) ∧ ((-9223372036854775808) ≤ x.f1 ∧ x.f1 ≤ 9223372036854775807) ∧ (x.f2.size ≤ 140737488351232) ∧ ((-9223372036854775808) ≤ x.f3 ∧ x.f3 ≤ 9223372036854775807)
def G29 (x : S29) : Prop := ((-9223372036854775808) ≤ x.f0 ∧ x.f0 ≤ 9223372036854775807) ∧ ((-9223372036854775808) ≤ x.f1 ∧ x.f1 ≤ 9223372036854775807) ∧ ((-9223372036854775808) ≤ x.f2 ∧ x.f2 ≤ 9223372036854775807)
def G31 (x : S31) : Prop := (True) ∧ (G27 x.f1) ∧ (G29 x.f2)
/-- The statement over numbers and lists. -/
def Pure : Prop := ∀ (a0 : List (S31)), (a0.length * 72 ≤ 140737488351232 ∧ ∀ x ∈ a0, G31 x) → beaconlaw11_ChannelNothing.f a0 = some true
theorem opens29 : Opens Try.prog 29 k29 G29 := (Opens.struct (fun a => ⟨a.1, a.2.1, a.2.2⟩) (fun _ => rfl) Try.underlying29 (by kernel_rfl) (OpensF.cons rfl (Opens.int Try.underlying3 (by kernel_rfl) (lo := -9223372036854775808) (hi := 9223372036854775807) (by decide) (by decide)) (OpensF.cons rfl (Opens.int Try.underlying3 (by kernel_rfl) (lo := -9223372036854775808) (hi := 9223372036854775807) (by decide) (by decide)) (OpensF.one rfl (Opens.int Try.underlying3 (by kernel_rfl) (lo := -9223372036854775808) (hi := 9223372036854775807) (by decide) (by decide)))))).mono (fun _ h => h)
theorem opens27 : Opens Try.prog 27 k27 G27 := (Opens.struct (fun a => ⟨a.1, a.2.1, a.2.2.1, a.2.2.2⟩) (fun _ => rfl) Try.underlying27 (by kernel_rfl) (OpensF.cons rfl (Opens.int Try.underlying3 (by kernel_rfl) (lo := -9223372036854775808) (hi := 9223372036854775807) (by decide) (by decide)) (OpensF.cons rfl (Opens.int Try.underlying3 (by kernel_rfl) (lo := -9223372036854775808) (hi := 9223372036854775807) (by decide) (by decide)) (OpensF.cons rfl (Opens.string Try.underlying9 (by kernel_rfl)) (OpensF.one rfl (Opens.int Try.underlying3 (by kernel_rfl) (lo := -9223372036854775808) (hi := 9223372036854775807) (by decide) (by decide))))))).mono (fun _ h => h)
theorem opens31 : Opens Try.prog 31 k31 G31 := (Opens.struct (fun a => ⟨a.1, a.2.1, a.2.2⟩) (fun _ => rfl) Try.underlying31 (by kernel_rfl) (OpensF.cons rfl (Opens.bool Try.underlying4 (by kernel_rfl)) (OpensF.cons rfl opens27 (OpensF.one rfl opens29)))).mono (fun _ h => h)
end Go.Proofs.Ytpcipmhblknokaa.XC.ChannelNothing
namespace Go.Proofs.Ytpcipmhblknokaa.Pure
open Go.RowKit Go.Proofs.YtpcipmhblknokaaW.PrintWords Go.Proofs.Ytpcipmhblknokaa.XC

theorem ChannelNothing : Go.Proofs.Ytpcipmhblknokaa.XC.ChannelNothing.Pure := by
  intro a0 h
  unfold beaconlaw11_ChannelNothing.f Go.Proofs.Ytpcipmhblknokaa.Ch.lawNothing
  exact if_pos (by omega)

end Go.Proofs.Ytpcipmhblknokaa.Pure
/- The law ChannelNothing answers true at every input that its row speaks of, and leaves its arguments as they were. No further condition. (Written by xprint.py, a program of this session.) -/
namespace Go.Proofs.Ytpcipmhblknokaa.channelNothing
open Go.ChangeShapes Go.WideShapes Go.ChangeAt Go.RowKit Go.Proofs.YtpcipmhblknokaaW.PrintWords Go.Proofs.Ytpcipmhblknokaa.XC Go.Proofs.Ytpcipmhblknokaa.XC.ChannelNothing
open Go.ChangeMaps (open_string shut_string)
set_option linter.unusedVariables false
theorem own : ownKnob Try.prog.godebug = none := by kernel_rfl
theorem laidOut : laidOutB Try.prog = true := by kernel_rfl
set_option maxRecDepth 100000 in
theorem lifted (os : Os) (started : os.Started) (H : Type) (enc : TypeId × Value → H) :
    ReturnsInHanded {} Try.checked os 3 .any (Rows.channelNothingSpec.pre6 enc Try.prog Try.f3 Rows.channelNothingRow.domain false) (Rows.channelNothingSpec.post enc Try.prog Try.f3 false true false false) := by
  refine returnsInHanded_of_change_sized (C := Try.checked) own started (by kernel_rfl) Try.func3
    (ChangeSpec.witness6 (enc := enc) (C := Try.checked) false ⟨#[], #[.slice none 0 0], []⟩ 8 (by kernel_rfl) (by kernel_rfl) (by kernel_rfl) (by kernel_rfl)) ?_
  intro W base args ds gs before hval0 hW hcnd hsz0 _
  have hsz : (DataW.weightsEach Try.prog (Try.f3.params.toList ++ Rows.channelNothingSpec.plain.varTypes Try.prog) (ds ++ gs)).all (· ≤ reachBytes) = true := hsz0
  have hval : ∀ (j : Nat) t v, Try.f3.params[j]? = some t → args[j]? = some v → Value.okWide Try.prog W .any base t v := hval0
  have hW' := hW
  obtain ⟨p, q, hA0, hV, rfl, hfz, hnd⟩ := hW
  have hA : DataW.TrodAll enc Try.prog W 0 (fun _ => true) true Try.f3.params.toList args.toList ds p := hA0
  rw [Try.params3] at hA hval hsz
  obtain ⟨v0, vs0, d0, ds0, p0, q0, hargs, rfl, rfl, h0, r0⟩ := trodAll_cons hA
  obtain ⟨rfl, rfl, rfl⟩ := trodAll_nil r0
  obtain rfl : args = #[v0] := by cases args; simp_all
  obtain ⟨rfl, rfl⟩ := trodVars_none hV
  have kk0 := h0
  have lt0 : ∀ x ∈ p0, x.block < W.heap.size := by obtain ⟨m, hm⟩ := kk0; exact DataW.trod_lt m _ _ _ hm
  obtain ⟨a0, hK0, hG0⟩ : ∃ a, ((Kd.slice 31 k31)).K W a v0.cells.toList ∧ (a.length * 72 ≤ 140737488351232 ∧ ∀ x ∈ a, G31 x) := by
    obtain ⟨m, hm⟩ := kk0
    exact ((Opens.slice (B := 72) Try.underlying22 (by kernel_rfl) (by kernel_rfl) opens31)).opn enc W 0 true m _ _ hm (fun n hn => by have := List.all_eq_true.1 hsz _ (DataW.weights_mem_each (j := 0) (t := 22) rfl rfl n hn); exact (of_decide_eq_true this : n ≤ reachBytes))
  obtain ⟨A0, len0, cap0, rfl⟩ := okWide_slice Try.underlying22 (hval 0 22 v0 rfl rfl)
  obtain ⟨A0_0, c0_0, he0, l0_0, g0_0⟩ := hK0
  obtain ⟨rfl, rfl, rfl⟩ : A0 = A0_0 ∧ len0 = a0.length ∧ cap0 = c0_0 := by simpa [Value.cells] using he0
  clear hA0 hval0 hsz0 hsz
  have hP := Pure.ChannelNothing a0 hG0
  refine (Go.Proofs.Ytpcipmhblknokaa.XC.beaconlaw11_ChannelNothing.calls _ _ a0 true W g0_0 l0_0 hP rfl).mono fun e W' hE => ?_
  obtain ⟨he, hd⟩ := hE
  have bel : Below W.heap.size W W' := hd
  subst he
  exact ⟨_, rfl, _, _, _, [], _, [], hW', trodAll_mk1 (shut_bool Try.underlying4 _), (trodAll_cons_mk (Below.trod laidOut (by kernel_rfl) (of_decide_eq_true (by kernel_rfl)) kk0 bel lt0) trodAll_mk0), rfl, bel.frame _, fun h => by cases h⟩
theorem over : Rows.channelNothingRow.holds Try.pinned (OpenSpec.ofChange Rows.channelNothingSpec) :=
  OpenClaim.holds_of_wide 3 Try.f3 rfl rfl rfl rfl rfl rfl rfl ⟨rfl, rfl, rfl, rfl, rfl⟩ rfl rfl rfl rfl rfl (by kernel_rfl) Try.func3 (by kernel_rfl)
    (of_decide_eq_true (by kernel_rfl)) (by unfold Func.isWrapper; first | (rw [if_pos (by decide +kernel)]; kernel_rfl) | (rw [if_neg (by decide +kernel)]; exact ⟨rfl, rfl⟩))
    (fun os started H enc _ => lifted os started H enc)
theorem proved : Rows.ChannelNothingSaid := over
end Go.Proofs.Ytpcipmhblknokaa.channelNothing
namespace Go.Proofs.Ytpcipmhblknokaa
/-- The row, under a short name, for the claim. -/
theorem channelNothing_holds : Rows.ChannelNothingSaid := channelNothing.proved
end Go.Proofs.Ytpcipmhblknokaa
