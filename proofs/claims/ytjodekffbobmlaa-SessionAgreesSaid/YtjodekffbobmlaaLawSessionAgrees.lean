/- The law SessionAgrees answers true at every input that its row speaks of, and leaves its arguments as they were. No further condition. (Written by xprint.py, a program of this session.) -/
import Derived.Test.YtjodekffbobmlaaRows
import Derived.Test.YtjodekffbobmlaaSSessionAgrees
import Derived.Test.YtjodekffbobmlaaPureSessionAgrees
import Derived.WalkKit
import Derived.ProofKit
import Derived.OpenShut
import Derived.ShutString
import Derived.ChangeOld
import Derived.Below
import Derived.SizedLaws
namespace Go.Proofs.Ytjodekffbobmlaa.sessionAgrees
open Go.ChangeShapes Go.WideShapes Go.ChangeAt Go.RowKit Go.Proofs.YtjodekffbobmlaaW.PrintWords Go.Proofs.Ytjodekffbobmlaa.XA Go.Proofs.Ytjodekffbobmlaa.XA.SessionAgrees
open Go.ChangeMaps (open_string shut_string)
set_option linter.unusedVariables false
theorem own : ownKnob Try.prog.godebug = none := by kernel_rfl
theorem laidOut : laidOutB Try.prog = true := by kernel_rfl
set_option maxRecDepth 100000 in
theorem lifted (os : Os) (started : os.Started) (H : Type) (enc : TypeId × Value → H) :
    ReturnsInHanded {} Try.checked os 5 .any (Rows.sessionAgreesSpec.pre6 enc Try.prog Try.f5 Rows.sessionAgreesRow.domain false) (Rows.sessionAgreesSpec.post enc Try.prog Try.f5 false true false false) := by
  refine returnsInHanded_of_change_sized (C := Try.checked) own started (by kernel_rfl) Try.func5
    (ChangeSpec.witness6 (enc := enc) (C := Try.checked) false ⟨#[], #[.agg #[.int .u64 0, .int .u64 0], .slice none 0 0], []⟩ 8 (by kernel_rfl) (by kernel_rfl) (by kernel_rfl) (by kernel_rfl)) ?_
  intro W base args ds gs before hval0 hW hcnd hsz0 _
  have hsz : (DataW.weightsEach Try.prog (Try.f5.params.toList ++ Rows.sessionAgreesSpec.plain.varTypes Try.prog) (ds ++ gs)).all (· ≤ reachBytes) = true := hsz0
  have hval : ∀ (j : Nat) t v, Try.f5.params[j]? = some t → args[j]? = some v → Value.okWide Try.prog W .any base t v := hval0
  have hW' := hW
  obtain ⟨p, q, hA0, hV, rfl, hfz, hnd⟩ := hW
  have hA : DataW.TrodAll enc Try.prog W 0 (fun _ => true) true Try.f5.params.toList args.toList ds p := hA0
  rw [Try.params5] at hA hval hsz
  obtain ⟨v0, vs0, d0, ds0, p0, q0, hargs, rfl, rfl, h0, r0⟩ := trodAll_cons hA
  obtain ⟨v1, vs1, d1, ds1, p1, q1, rfl, rfl, rfl, h1, r1⟩ := trodAll_cons r0
  obtain ⟨rfl, rfl, rfl⟩ := trodAll_nil r1
  obtain rfl : args = #[v0, v1] := by cases args; simp_all
  obtain ⟨rfl, rfl⟩ := trodVars_none hV
  have kk0 := h0
  have lt0 : ∀ x ∈ p0, x.block < W.heap.size := by obtain ⟨m, hm⟩ := kk0; exact DataW.trod_lt m _ _ _ hm
  obtain ⟨a0, hK0, hG0⟩ : ∃ a, (k23).K W a v0.cells.toList ∧ (G23 a) := by
    obtain ⟨m, hm⟩ := kk0
    exact (opens23).opn enc W 0 true m _ _ hm (fun n hn => by have := List.all_eq_true.1 hsz _ (DataW.weights_mem_each (j := 0) (t := 23) rfl rfl n hn); exact (of_decide_eq_true this : n ≤ reachBytes))
  obtain ⟨cs0, rfl, hcs0⟩ := open_array Try.underlying23 (hval 0 23 v0 rfl rfl)
  rw [hcs0] at hK0
  obtain rfl := k23_open hK0
  have kk1 := h1
  have lt1 : ∀ x ∈ p1, x.block < W.heap.size := by obtain ⟨m, hm⟩ := kk1; exact DataW.trod_lt m _ _ _ hm
  obtain ⟨a1, hK1, hG1⟩ : ∃ a, ((Kd.slice 33 k33)).K W a v1.cells.toList ∧ (a.length * 32 ≤ 140737488351232 ∧ ∀ x ∈ a, G33 x) := by
    obtain ⟨m, hm⟩ := kk1
    exact ((Opens.slice (B := 32) Try.underlying24 (by kernel_rfl) (by kernel_rfl) opens33)).opn enc W 0 true m _ _ hm (fun n hn => by have := List.all_eq_true.1 hsz _ (DataW.weights_mem_each (j := 1) (t := 24) rfl rfl n hn); exact (of_decide_eq_true this : n ≤ reachBytes))
  obtain ⟨A1, len1, cap1, rfl⟩ := okWide_slice Try.underlying24 (hval 1 24 v1 rfl rfl)
  obtain ⟨A1_0, c1_0, he1, l1_0, g1_0⟩ := hK1
  obtain ⟨rfl, rfl, rfl⟩ : A1 = A1_0 ∧ len1 = a1.length ∧ cap1 = c1_0 := by simpa [Value.cells] using he1
  clear hA0 hval0 hsz0 hsz
  obtain ⟨k, hP⟩ := Pure.SessionAgrees a0 a1 hG0 hG1
  refine (Go.Proofs.Ytjodekffbobmlaa.XA.beaconlaw12_SessionAgrees.calls k (a0.f0) (a0.f1) _ _ a1 true W g1_0 l1_0 hP rfl).mono fun e W' hE => ?_
  obtain ⟨he, hd⟩ := hE
  have bel : Below W.heap.size W W' := hd
  subst he
  exact ⟨_, rfl, _, _, _, [], _, [], hW', trodAll_mk1 (shut_bool Try.underlying4 _), (trodAll_cons_mk (Below.trod laidOut (by kernel_rfl) (of_decide_eq_true (by kernel_rfl)) kk0 bel lt0) (trodAll_cons_mk (Below.trod laidOut (by kernel_rfl) (of_decide_eq_true (by kernel_rfl)) kk1 bel lt1) trodAll_mk0)), rfl, bel.frame _, fun h => by cases h⟩
theorem over : Rows.sessionAgreesRow.holds Try.pinned (OpenSpec.ofChange Rows.sessionAgreesSpec) :=
  OpenClaim.holds_of_wide 5 Try.f5 rfl rfl rfl rfl rfl rfl rfl ⟨rfl, rfl, rfl, rfl, rfl⟩ rfl rfl rfl rfl rfl (by kernel_rfl) Try.func5 (by kernel_rfl)
    (of_decide_eq_true (by kernel_rfl)) (by unfold Func.isWrapper; first | (rw [if_pos (by decide +kernel)]; kernel_rfl) | (rw [if_neg (by decide +kernel)]; exact ⟨rfl, rfl⟩))
    (fun os started H enc _ => lifted os started H enc)
theorem proved : Rows.SessionAgreesSaid := over
end Go.Proofs.Ytjodekffbobmlaa.sessionAgrees
namespace Go.Proofs.Ytjodekffbobmlaa
/-- The row, under a short name, for the claim. -/
theorem sessionAgrees_holds : Rows.SessionAgreesSaid := sessionAgrees.proved
end Go.Proofs.Ytjodekffbobmlaa
