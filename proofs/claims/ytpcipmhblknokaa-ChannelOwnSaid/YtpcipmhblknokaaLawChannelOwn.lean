/- The law ChannelOwn answers true at every input that its row speaks of, and leaves its arguments as they were. No further condition. (Written by xprint.py, a program of this session.) -/
import Derived.Test.YtpcipmhblknokaaRows
import Derived.Test.YtpcipmhblknokaaSChannelOwn
import Derived.Test.YtpcipmhblknokaaPureChannelOwn
import Derived.WalkKit
import Derived.ProofKit
import Derived.OpenShut
import Derived.ShutString
import Derived.ChangeOld
import Derived.Below
import Derived.SizedLaws
namespace Go.Proofs.Ytpcipmhblknokaa.channelOwn
open Go.ChangeShapes Go.WideShapes Go.ChangeAt Go.RowKit Go.Proofs.YtpcipmhblknokaaW.PrintWords Go.Proofs.Ytpcipmhblknokaa.XC Go.Proofs.Ytpcipmhblknokaa.XC.ChannelOwn
open Go.ChangeMaps (open_string shut_string)
set_option linter.unusedVariables false
theorem own : ownKnob Try.prog.godebug = none := by kernel_rfl
theorem laidOut : laidOutB Try.prog = true := by kernel_rfl
set_option maxRecDepth 100000 in
theorem lifted (os : Os) (started : os.Started) (H : Type) (enc : TypeId × Value → H) :
    ReturnsInHanded {} Try.checked os 7 .any (Rows.channelOwnSpec.pre6 enc Try.prog Try.f7 Rows.channelOwnRow.domain false) (Rows.channelOwnSpec.post enc Try.prog Try.f7 false true false false) := by
  refine returnsInHanded_of_change_sized (C := Try.checked) own started (by kernel_rfl) Try.func7
    (ChangeSpec.witness6 (enc := enc) (C := Try.checked) false ⟨#[], #[.slice none 0 0], []⟩ 8 (by kernel_rfl) (by kernel_rfl) (by kernel_rfl) (by kernel_rfl)) ?_
  intro W base args ds gs before hval0 hW hcnd hsz0 _
  have hsz : (DataW.weightsEach Try.prog (Try.f7.params.toList ++ Rows.channelOwnSpec.plain.varTypes Try.prog) (ds ++ gs)).all (· ≤ reachBytes) = true := hsz0
  have hval : ∀ (j : Nat) t v, Try.f7.params[j]? = some t → args[j]? = some v → Value.okWide Try.prog W .any base t v := hval0
  have hW' := hW
  obtain ⟨p, q, hA0, hV, rfl, hfz, hnd⟩ := hW
  have hA : DataW.TrodAll enc Try.prog W 0 (fun _ => true) true Try.f7.params.toList args.toList ds p := hA0
  rw [Try.params7] at hA hval hsz
  obtain ⟨v0, vs0, d0, ds0, p0, q0, hargs, rfl, rfl, h0, r0⟩ := trodAll_cons hA
  obtain ⟨rfl, rfl, rfl⟩ := trodAll_nil r0
  obtain rfl : args = #[v0] := by cases args; simp_all
  obtain ⟨rfl, rfl⟩ := trodVars_none hV
  have kk0 := h0
  have lt0 : ∀ x ∈ p0, x.block < W.heap.size := by obtain ⟨m, hm⟩ := kk0; exact DataW.trod_lt m _ _ _ hm
  obtain ⟨a0, hK0, hG0⟩ : ∃ a, ((Kd.slice 27 k27)).K W a v0.cells.toList ∧ (a.length * 40 ≤ 140737488351232 ∧ ∀ x ∈ a, G27 x) := by
    obtain ⟨m, hm⟩ := kk0
    exact ((Opens.slice (B := 40) Try.underlying34 (by kernel_rfl) (by kernel_rfl) opens27)).opn enc W 0 true m _ _ hm (fun n hn => by have := List.all_eq_true.1 hsz _ (DataW.weights_mem_each (j := 0) (t := 34) rfl rfl n hn); exact (of_decide_eq_true this : n ≤ reachBytes))
  obtain ⟨A0, len0, cap0, rfl⟩ := okWide_slice Try.underlying34 (hval 0 34 v0 rfl rfl)
  obtain ⟨A0_0, c0_0, he0, l0_0, g0_0⟩ := hK0
  obtain ⟨rfl, rfl, rfl⟩ : A0 = A0_0 ∧ len0 = a0.length ∧ cap0 = c0_0 := by simpa [Value.cells] using he0
  clear hA0 hval0 hsz0 hsz
  have hP := Pure.ChannelOwn a0 hG0
  refine (Go.Proofs.Ytpcipmhblknokaa.XC.beaconlaw11_ChannelOwn.calls _ _ a0 true W g0_0 l0_0 hP rfl).mono fun e W' hE => ?_
  obtain ⟨he, hd⟩ := hE
  have bel : Below W.heap.size W W' := hd
  subst he
  exact ⟨_, rfl, _, _, _, [], _, [], hW', trodAll_mk1 (shut_bool Try.underlying4 _), (trodAll_cons_mk (Below.trod laidOut (by kernel_rfl) (of_decide_eq_true (by kernel_rfl)) kk0 bel lt0) trodAll_mk0), rfl, bel.frame _, fun h => by cases h⟩
theorem over : Rows.channelOwnRow.holds Try.pinned (OpenSpec.ofChange Rows.channelOwnSpec) :=
  OpenClaim.holds_of_wide 7 Try.f7 rfl rfl rfl rfl rfl rfl rfl ⟨rfl, rfl, rfl, rfl, rfl⟩ rfl rfl rfl rfl rfl (by kernel_rfl) Try.func7 (by kernel_rfl)
    (of_decide_eq_true (by kernel_rfl)) (by unfold Func.isWrapper; first | (rw [if_pos (by decide +kernel)]; kernel_rfl) | (rw [if_neg (by decide +kernel)]; exact ⟨rfl, rfl⟩))
    (fun os started H enc _ => lifted os started H enc)
theorem proved : Rows.ChannelOwnSaid := over
end Go.Proofs.Ytpcipmhblknokaa.channelOwn
namespace Go.Proofs.Ytpcipmhblknokaa
/-- The row, under a short name, for the claim. -/
theorem channelOwn_holds : Rows.ChannelOwnSaid := channelOwn.proved
end Go.Proofs.Ytpcipmhblknokaa
