/- The law ForwardDecides answers true at every input that its row speaks of, and leaves its arguments as they were. No further condition. (Begun by xprint.py, a program of this session.) -/
import Derived.Test.YtgmjlhpigfaicaaRows
import Derived.Test.YtgmjlhpigfaicaaSForwardDecides
import Derived.Test.YtgmjlhpigfaicaaPureForwardDecides
import Derived.WalkKit
import Derived.ProofKit
import Derived.OpenShut
import Derived.ShutString
import Derived.ChangeOld
import Derived.Below
import Derived.SizedLaws
namespace Go.Proofs.Ytgmjlhpigfaicaa.forwardDecides
open Go.ChangeShapes Go.WideShapes Go.ChangeAt Go.RowKit Go.Proofs.YtgmjlhpigfaicaaW.PrintWords Go.Proofs.Ytgmjlhpigfaicaa.XF Go.Proofs.Ytgmjlhpigfaicaa.XF.ForwardDecides
open Go.ChangeMaps (open_string shut_string)
set_option linter.unusedVariables false
theorem own : ownKnob Try.prog.godebug = none := by kernel_rfl
theorem laidOut : laidOutB Try.prog = true := by kernel_rfl
set_option maxRecDepth 100000 in
theorem lifted (os : Os) (started : os.Started) (H : Type) (enc : TypeId × Value → H) :
    ReturnsInHanded {} Try.checked os 8 .any (Rows.forwardDecidesSpec.pre6 enc Try.prog Try.f8 Rows.forwardDecidesRow.domain false) (Rows.forwardDecidesSpec.post enc Try.prog Try.f8 false true false false) := by
  refine returnsInHanded_of_change_sized (C := Try.checked) own started (by kernel_rfl) Try.func8
    (ChangeSpec.witness6 (enc := enc) (C := Try.checked) false ⟨#[], #[.int .i64 0, .agg #[.slice none 0 0, .bool false], .agg #[.int .i64 0, .int .i64 0, .int .i64 0, .int .i64 0, .int .i64 0, .int .i64 0, .int .u64 0, .int .i64 0, .string ByteArray.empty, .int .i64 0, .int .i64 0, .string ByteArray.empty]], []⟩ 8 (by kernel_rfl) (by kernel_rfl) (by kernel_rfl) (by kernel_rfl)) ?_
  intro W base args ds gs before hval0 hW hcnd hsz0 _
  have hsz : (DataW.weightsEach Try.prog (Try.f8.params.toList ++ Rows.forwardDecidesSpec.plain.varTypes Try.prog) (ds ++ gs)).all (· ≤ reachBytes) = true := hsz0
  have hval : ∀ (j : Nat) t v, Try.f8.params[j]? = some t → args[j]? = some v → Value.okWide Try.prog W .any base t v := hval0
  have hW' := hW
  obtain ⟨p, q, hA0, hV, rfl, hfz, hnd⟩ := hW
  have hA : DataW.TrodAll enc Try.prog W 0 (fun _ => true) true Try.f8.params.toList args.toList ds p := hA0
  rw [Try.params8] at hA hval hsz
  obtain ⟨v0, vs0, d0, ds0, p0, q0, hargs, rfl, rfl, h0, r0⟩ := trodAll_cons hA
  obtain ⟨v1, vs1, d1, ds1, p1, q1, rfl, rfl, rfl, h1, r1⟩ := trodAll_cons r0
  obtain ⟨v2, vs2, d2, ds2, p2, q2, rfl, rfl, rfl, h2, r2⟩ := trodAll_cons r1
  obtain ⟨rfl, rfl, rfl⟩ := trodAll_nil r2
  obtain rfl : args = #[v0, v1, v2] := by cases args; simp_all
  obtain ⟨rfl, rfl⟩ := trodVars_none hV
  have kk0 := h0
  have lt0 : ∀ x ∈ p0, x.block < W.heap.size := by obtain ⟨m, hm⟩ := kk0; exact DataW.trod_lt m _ _ _ hm
  obtain ⟨a0, hK0, hG0⟩ : ∃ a, ((Kd.int .i64)).K W a v0.cells.toList ∧ ((-9223372036854775808) ≤ a ∧ a ≤ 9223372036854775807) := by
    obtain ⟨m, hm⟩ := kk0
    exact ((Opens.int Try.underlying3 (by kernel_rfl) (lo := -9223372036854775808) (hi := 9223372036854775807) (by decide) (by decide))).opn enc W 0 true m _ _ hm (fun n hn => by have := List.all_eq_true.1 hsz _ (DataW.weights_mem_each (j := 0) (t := 3) rfl rfl n hn); exact (of_decide_eq_true this : n ≤ reachBytes))
  obtain ⟨b0, rfl⟩ := okWide_int Try.underlying3 (hval 0 3 v0 rfl rfl)
  obtain rfl : a0 = b0 := by have he : [(.int .i64 b0 : Value)] = [.int .i64 a0] := hK0; simpa using he.symm
  have kk1 := h1
  have lt1 : ∀ x ∈ p1, x.block < W.heap.size := by obtain ⟨m, hm⟩ := kk1; exact DataW.trod_lt m _ _ _ hm
  obtain ⟨a1, hK1, hG1⟩ : ∃ a, (k24).K W a v1.cells.toList ∧ (G24 a) := by
    obtain ⟨m, hm⟩ := kk1
    exact (opens24).opn enc W 0 true m _ _ hm (fun n hn => by have := List.all_eq_true.1 hsz _ (DataW.weights_mem_each (j := 1) (t := 24) rfl rfl n hn); exact (of_decide_eq_true this : n ≤ reachBytes))
  obtain ⟨cs1, rfl, hcs1⟩ := open_cells Try.underlying24 (hval 1 24 v1 rfl rfl)
  rw [hcs1] at hK1
  obtain ⟨A1_0, c1_0, rfl, l1_0, g1_0⟩ := k24_open hK1
  have kk2 := h2
  have lt2 : ∀ x ∈ p2, x.block < W.heap.size := by obtain ⟨m, hm⟩ := kk2; exact DataW.trod_lt m _ _ _ hm
  obtain ⟨a2, hK2, hG2⟩ : ∃ a, (k48).K W a v2.cells.toList ∧ (G48 a) := by
    obtain ⟨m, hm⟩ := kk2
    exact (opens48).opn enc W 0 true m _ _ hm (fun n hn => by have := List.all_eq_true.1 hsz _ (DataW.weights_mem_each (j := 2) (t := 48) rfl rfl n hn); exact (of_decide_eq_true this : n ≤ reachBytes))
  obtain ⟨cs2, rfl, hcs2⟩ := open_cells Try.underlying48 (hval 2 48 v2 rfl rfl)
  rw [hcs2] at hK2
  obtain rfl := k48_open hK2
  clear hA0 hval0 hsz0 hsz
  obtain ⟨k, hP⟩ := Pure.ForwardDecides a0 a1 a2 hG0 hG1 hG2
  refine (Go.Proofs.Ytgmjlhpigfaicaa.XF.beaconlaw19_ForwardDecides.calls k a0 _ _ (a1.f0) (a1.f1) (a2.f0) (a2.f1) (a2.f2) (a2.f3) (a2.f4) (a2.f5) (a2.f6) (a2.f7) (a2.f8) (a2.f9) (a2.f10) (a2.f11) true W g1_0 l1_0 hP rfl).mono fun e W' hE => ?_
  obtain ⟨he, hd⟩ := hE
  have bel : Below W.heap.size W W' := hd
  subst he
  exact ⟨_, rfl, _, _, _, [], _, [], hW', trodAll_mk1 (shut_bool Try.underlying4 _), (trodAll_cons_mk (Below.trod laidOut (by kernel_rfl) (of_decide_eq_true (by kernel_rfl)) kk0 bel lt0) (trodAll_cons_mk (Below.trod laidOut (by kernel_rfl) (of_decide_eq_true (by kernel_rfl)) kk1 bel lt1) (trodAll_cons_mk (Below.trod laidOut (by kernel_rfl) (of_decide_eq_true (by kernel_rfl)) kk2 bel lt2) trodAll_mk0))), rfl, bel.frame _, fun h => by cases h⟩
theorem over : Rows.forwardDecidesRow.holds Try.pinned (OpenSpec.ofChange Rows.forwardDecidesSpec) :=
  OpenClaim.holds_of_wide 8 Try.f8 rfl rfl rfl rfl rfl rfl rfl ⟨rfl, rfl, rfl, rfl, rfl⟩ rfl rfl rfl rfl rfl (by kernel_rfl) Try.func8 (by kernel_rfl)
    (of_decide_eq_true (by kernel_rfl)) (by unfold Func.isWrapper; first | (rw [if_pos (by decide +kernel)]; kernel_rfl) | (rw [if_neg (by decide +kernel)]; exact ⟨rfl, rfl⟩))
    (fun os started H enc _ => lifted os started H enc)
theorem proved : Rows.ForwardDecidesSaid := over
end Go.Proofs.Ytgmjlhpigfaicaa.forwardDecides
namespace Go.Proofs.Ytgmjlhpigfaicaa
/-- The row, under a short name, for the claim. -/
theorem forwardDecides_holds : Rows.ForwardDecidesSaid := forwardDecides.proved
end Go.Proofs.Ytgmjlhpigfaicaa
