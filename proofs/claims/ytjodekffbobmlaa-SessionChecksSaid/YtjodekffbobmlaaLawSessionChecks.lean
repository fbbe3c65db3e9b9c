/- The law SessionChecks answers true at every input that its row speaks of, and leaves its arguments as they were. No further condition. (Written by xprint.py, a program of this session.) -/
import Derived.Test.YtjodekffbobmlaaRows
import Derived.Test.YtjodekffbobmlaaSSessionChecks
import Derived.Test.YtjodekffbobmlaaPureSessionChecks
import Derived.WalkKit
import Derived.ProofKit
import Derived.OpenShut
import Derived.ShutString
import Derived.ChangeOld
import Derived.Below
import Derived.SizedLaws
namespace Go.Proofs.Ytjodekffbobmlaa.sessionChecks
open Go.ChangeShapes Go.WideShapes Go.ChangeAt Go.RowKit Go.Proofs.YtjodekffbobmlaaW.PrintWords Go.Proofs.Ytjodekffbobmlaa.XC Go.Proofs.Ytjodekffbobmlaa.XC.SessionChecks
open Go.ChangeMaps (open_string shut_string)
set_option linter.unusedVariables false
theorem own : ownKnob Try.prog.godebug = none := by kernel_rfl
theorem laidOut : laidOutB Try.prog = true := by kernel_rfl
set_option maxRecDepth 100000 in
theorem lifted (os : Os) (started : os.Started) (H : Type) (enc : TypeId × Value → H) :
    ReturnsInHanded {} Try.checked os 6 .any (Rows.sessionChecksSpec.pre6 enc Try.prog Try.f6 Rows.sessionChecksRow.domain false) (Rows.sessionChecksSpec.post enc Try.prog Try.f6 false true false false) := by
  refine returnsInHanded_of_change_sized (C := Try.checked) own started (by kernel_rfl) Try.func6
    (ChangeSpec.witness6 (enc := enc) (C := Try.checked) false ⟨#[], #[.agg #[.float .f64 0, .int .i64 0, .int .i64 0, .int .i64 0, .int .i64 0, .int .i64 0, .int .i64 0], .int .u64 0], []⟩ 8 (by kernel_rfl) (by kernel_rfl) (by kernel_rfl) (by kernel_rfl)) ?_
  intro W base args ds gs before hval0 hW hcnd hsz0 _
  have hsz : (DataW.weightsEach Try.prog (Try.f6.params.toList ++ Rows.sessionChecksSpec.plain.varTypes Try.prog) (ds ++ gs)).all (· ≤ reachBytes) = true := hsz0
  have hval : ∀ (j : Nat) t v, Try.f6.params[j]? = some t → args[j]? = some v → Value.okWide Try.prog W .any base t v := hval0
  have hW' := hW
  obtain ⟨p, q, hA0, hV, rfl, hfz, hnd⟩ := hW
  have hA : DataW.TrodAll enc Try.prog W 0 (fun _ => true) true Try.f6.params.toList args.toList ds p := hA0
  rw [Try.params6] at hA hval hsz
  obtain ⟨v0, vs0, d0, ds0, p0, q0, hargs, rfl, rfl, h0, r0⟩ := trodAll_cons hA
  obtain ⟨v1, vs1, d1, ds1, p1, q1, rfl, rfl, rfl, h1, r1⟩ := trodAll_cons r0
  obtain ⟨rfl, rfl, rfl⟩ := trodAll_nil r1
  obtain rfl : args = #[v0, v1] := by cases args; simp_all
  obtain ⟨rfl, rfl⟩ := trodVars_none hV
  have kk0 := h0
  have lt0 : ∀ x ∈ p0, x.block < W.heap.size := by obtain ⟨m, hm⟩ := kk0; exact DataW.trod_lt m _ _ _ hm
  obtain ⟨a0, hK0, hG0⟩ : ∃ a, (k54).K W a v0.cells.toList ∧ (G54 a) := by
    obtain ⟨m, hm⟩ := kk0
    exact (opens54).opn enc W 0 true m _ _ hm (fun n hn => by have := List.all_eq_true.1 hsz _ (DataW.weights_mem_each (j := 0) (t := 54) rfl rfl n hn); exact (of_decide_eq_true this : n ≤ reachBytes))
  obtain ⟨cs0, rfl, hcs0⟩ := open_cells Try.underlying54 (hval 0 54 v0 rfl rfl)
  rw [hcs0] at hK0
  obtain rfl := k54_open hK0
  have kk1 := h1
  have lt1 : ∀ x ∈ p1, x.block < W.heap.size := by obtain ⟨m, hm⟩ := kk1; exact DataW.trod_lt m _ _ _ hm
  obtain ⟨a1, hK1, hG1⟩ : ∃ a, ((Kd.int .u64)).K W a v1.cells.toList ∧ (0 ≤ a ∧ a ≤ 18446744073709551615) := by
    obtain ⟨m, hm⟩ := kk1
    exact ((Opens.int Try.underlying22 (by kernel_rfl) (lo := 0) (hi := 18446744073709551615) (by decide) (by decide))).opn enc W 0 true m _ _ hm (fun n hn => by have := List.all_eq_true.1 hsz _ (DataW.weights_mem_each (j := 1) (t := 22) rfl rfl n hn); exact (of_decide_eq_true this : n ≤ reachBytes))
  obtain ⟨b1, rfl⟩ := okWide_int Try.underlying22 (hval 1 22 v1 rfl rfl)
  obtain rfl : a1 = b1 := by have he : [(.int .u64 b1 : Value)] = [.int .u64 a1] := hK1; simpa using he.symm
  clear hA0 hval0 hsz0 hsz
  obtain ⟨k, hP⟩ := Pure.SessionChecks a0 a1 hG0 hG1
  refine (Go.Proofs.Ytjodekffbobmlaa.XC.beaconlaw12_SessionChecks.calls k (a0.f0) (a0.f1) (a0.f2) (a0.f3) (a0.f4) (a0.f5) (a0.f6) a1 true W  hP).mono fun e W' hE => ?_
  obtain ⟨he, hd⟩ := hE
  have bel : Below W.heap.size W W' := hd
  subst he
  exact ⟨_, rfl, _, _, _, [], _, [], hW', trodAll_mk1 (shut_bool Try.underlying4 _), (trodAll_cons_mk (Below.trod laidOut (by kernel_rfl) (of_decide_eq_true (by kernel_rfl)) kk0 bel lt0) (trodAll_cons_mk (Below.trod laidOut (by kernel_rfl) (of_decide_eq_true (by kernel_rfl)) kk1 bel lt1) trodAll_mk0)), rfl, bel.frame _, fun h => by cases h⟩
theorem over : Rows.sessionChecksRow.holds Try.pinned (OpenSpec.ofChange Rows.sessionChecksSpec) :=
  OpenClaim.holds_of_wide 6 Try.f6 rfl rfl rfl rfl rfl rfl rfl ⟨rfl, rfl, rfl, rfl, rfl⟩ rfl rfl rfl rfl rfl (by kernel_rfl) Try.func6 (by kernel_rfl)
    (of_decide_eq_true (by kernel_rfl)) (by unfold Func.isWrapper; first | (rw [if_pos (by decide +kernel)]; kernel_rfl) | (rw [if_neg (by decide +kernel)]; exact ⟨rfl, rfl⟩))
    (fun os started H enc _ => lifted os started H enc)
theorem proved : Rows.SessionChecksSaid := over
end Go.Proofs.Ytjodekffbobmlaa.sessionChecks
namespace Go.Proofs.Ytjodekffbobmlaa
/-- The row, under a short name, for the claim. -/
theorem sessionChecks_holds : Rows.SessionChecksSaid := sessionChecks.proved
end Go.Proofs.Ytjodekffbobmlaa
