/- The law TableRoom answers true at every input that its row speaks of, and leaves its arguments as they were. No further condition. (Begun by xprint.py, a program of this session.) -/
import Derived.Test.YtgmjlhpigfaicaaRows
import Derived.Test.YtgmjlhpigfaicaaSTableRoom
import Derived.Test.YtgmjlhpigfaicaaPureTableRoom
import Derived.WalkKit
import Derived.ProofKit
import Derived.OpenShut
import Derived.ShutString
import Derived.ChangeOld
import Derived.Below
import Derived.SizedLaws
namespace Go.Proofs.Ytgmjlhpigfaicaa.tableRoom
open Go.ChangeShapes Go.WideShapes Go.ChangeAt Go.RowKit Go.Proofs.YtgmjlhpigfaicaaW.PrintWords Go.Proofs.Ytgmjlhpigfaicaa.XA Go.Proofs.Ytgmjlhpigfaicaa.XA.TableRoom
open Go.ChangeMaps (open_string shut_string)
set_option linter.unusedVariables false
theorem own : ownKnob Try.prog.godebug = none := by kernel_rfl
theorem laidOut : laidOutB Try.prog = true := by kernel_rfl
/-- A row that is read stays read in every world that has the blocks of this one: what the loop's table may be (it is kept anew in each round). -/
theorem lent {w : World} {A : Option Addr} {n c : Nat} {xs : List S39} (hl : xs.length ≤ c) (h : Kd.C k39 w A xs.length xs) : Kd.V k39 39 w n (fun k_ => k_ < w.heap.size) (.slice A xs.length c) xs := by
  refine ⟨A, c, rfl, hl, fun W' hW => ⟨h.1, h.2.1, fun hn => ?_⟩⟩
  obtain ⟨ad, e, hc⟩ := h.2.2 hn
  refine ⟨ad, e, fun j p hj => ?_⟩
  obtain ⟨cs, hs, hr, hcell⟩ := hc j p hj
  refine ⟨cs, hs, hr, fun i u hu => ?_⟩
  have h1 := hcell i u hu
  have h2 := hW _ (World.block_lt_of_cell? w _ h1) (World.block_lt_of_cell? w _ h1)
  simpa [World.cell?, h2] using h1
set_option maxHeartbeats 1000000 in
set_option maxRecDepth 100000 in
theorem lifted (os : Os) (started : os.Started) (H : Type) (enc : TypeId × Value → H) :
    ReturnsInHanded {} Try.checked os 3 .any (Rows.tableRoomSpec.pre6 enc Try.prog Try.f3 Rows.tableRoomRow.domain false) (Rows.tableRoomSpec.post enc Try.prog Try.f3 false true false false) := by
  refine returnsInHanded_of_change_sized (C := Try.checked) own started (by kernel_rfl) Try.func3
    (ChangeSpec.witness6 (enc := enc) (C := Try.checked) false ⟨#[], #[.agg #[.slice none 0 0, .bool false], .slice none 0 0, .int .i64 0], []⟩ 8 (by kernel_rfl) (by kernel_rfl) (by kernel_rfl) (by kernel_rfl)) ?_
  intro W base args ds gs before hval0 hW hcnd hsz0 _
  have hsz : (DataW.weightsEach Try.prog (Try.f3.params.toList ++ Rows.tableRoomSpec.plain.varTypes Try.prog) (ds ++ gs)).all (· ≤ reachBytes) = true := hsz0
  have hval : ∀ (j : Nat) t v, Try.f3.params[j]? = some t → args[j]? = some v → Value.okWide Try.prog W .any base t v := hval0
  have hW' := hW
  obtain ⟨p, q, hA0, hV, rfl, hfz, hnd⟩ := hW
  have hA : DataW.TrodAll enc Try.prog W 0 (fun _ => true) true Try.f3.params.toList args.toList ds p := hA0
  rw [Try.params3] at hA hval hsz
  obtain ⟨v0, vs0, d0, ds0, p0, q0, hargs, rfl, rfl, h0, r0⟩ := trodAll_cons hA
  obtain ⟨v1, vs1, d1, ds1, p1, q1, rfl, rfl, rfl, h1, r1⟩ := trodAll_cons r0
  obtain ⟨v2, vs2, d2, ds2, p2, q2, rfl, rfl, rfl, h2, r2⟩ := trodAll_cons r1
  obtain ⟨rfl, rfl, rfl⟩ := trodAll_nil r2
  obtain rfl : args = #[v0, v1, v2] := by cases args; simp_all
  obtain ⟨rfl, rfl⟩ := trodVars_none hV
  have kk0 := h0
  have lt0 : ∀ x ∈ p0, x.block < W.heap.size := by obtain ⟨m, hm⟩ := kk0; exact DataW.trod_lt m _ _ _ hm
  obtain ⟨a0, hK0, hG0⟩ : ∃ a, (k24).K W a v0.cells.toList ∧ (G24 a) := by
    obtain ⟨m, hm⟩ := kk0
    exact (opens24).opn enc W 0 true m _ _ hm (fun n hn => by have := List.all_eq_true.1 hsz _ (DataW.weights_mem_each (j := 0) (t := 24) rfl rfl n hn); exact (of_decide_eq_true this : n ≤ reachBytes))
  obtain ⟨cs0, rfl, hcs0⟩ := open_cells Try.underlying24 (hval 0 24 v0 rfl rfl)
  rw [hcs0] at hK0
  obtain ⟨A0_0, c0_0, rfl, l0_0, g0_0⟩ := k24_open hK0
  have kk1 := h1
  have lt1 : ∀ x ∈ p1, x.block < W.heap.size := by obtain ⟨m, hm⟩ := kk1; exact DataW.trod_lt m _ _ _ hm
  obtain ⟨a1, hK1, hG1⟩ : ∃ a, ((Kd.slice 22 (Kd.slice 39 k39))).K W a v1.cells.toList ∧ (a.length * 24 ≤ 140737488351232 ∧ ∀ x ∈ a, x.length * 48 ≤ 140737488351232 ∧ ∀ y ∈ x, G39 y) := by
    obtain ⟨m, hm⟩ := kk1
    exact ((Opens.slice (B := 24) Try.underlying25 (by kernel_rfl) (by kernel_rfl) (Opens.slice (B := 48) Try.underlying22 (by kernel_rfl) (by kernel_rfl) opens39))).opn enc W 0 true m _ _ hm (fun n hn => by have := List.all_eq_true.1 hsz _ (DataW.weights_mem_each (j := 1) (t := 25) rfl rfl n hn); exact (of_decide_eq_true this : n ≤ reachBytes))
  obtain ⟨A1, len1, cap1, rfl⟩ := okWide_slice Try.underlying25 (hval 1 25 v1 rfl rfl)
  obtain ⟨A1_0, c1_0, he1, l1_0, g1_0⟩ := hK1
  obtain ⟨rfl, rfl, rfl⟩ : A1 = A1_0 ∧ len1 = a1.length ∧ cap1 = c1_0 := by simpa [Value.cells] using he1
  have kk2 := h2
  have lt2 : ∀ x ∈ p2, x.block < W.heap.size := by obtain ⟨m, hm⟩ := kk2; exact DataW.trod_lt m _ _ _ hm
  obtain ⟨a2, hK2, hG2⟩ : ∃ a, ((Kd.int .i64)).K W a v2.cells.toList ∧ ((-9223372036854775808) ≤ a ∧ a ≤ 9223372036854775807) := by
    obtain ⟨m, hm⟩ := kk2
    exact ((Opens.int Try.underlying3 (by kernel_rfl) (lo := -9223372036854775808) (hi := 9223372036854775807) (by decide) (by decide))).opn enc W 0 true m _ _ hm (fun n hn => by have := List.all_eq_true.1 hsz _ (DataW.weights_mem_each (j := 2) (t := 3) rfl rfl n hn); exact (of_decide_eq_true this : n ≤ reachBytes))
  obtain ⟨b2, rfl⟩ := okWide_int Try.underlying3 (hval 2 3 v2 rfl rfl)
  obtain rfl : a2 = b2 := by have he : [(.int .i64 b2 : Value)] = [.int .i64 a2] := hK2; simpa using he.symm
  clear hA0 hval0 hsz0 hsz
  obtain ⟨k, hP⟩ := Pure.TableRoom a0 a1 a2 hG0 hG1 hG2
  refine (Go.Proofs.Ytgmjlhpigfaicaa.XA.beaconlaw17_TableRoom.calls k (fun k_ => k_ < W.heap.size) A0_0 c0_0 (a0.f0) (a0.f1) _ _ a1 a2 true W (lent l0_0 g0_0) g1_0 l1_0 hP).mono fun e W' hE => ?_
  obtain ⟨he, hd⟩ := hE
  have bel : Below W.heap.size W W' := hd
  subst he
  exact ⟨_, rfl, _, _, _, [], _, [], hW', trodAll_mk1 (shut_bool Try.underlying4 _), (trodAll_cons_mk (Below.trod laidOut (by kernel_rfl) (of_decide_eq_true (by kernel_rfl)) kk0 bel lt0) (trodAll_cons_mk (Below.trod laidOut (by kernel_rfl) (of_decide_eq_true (by kernel_rfl)) kk1 bel lt1) (trodAll_cons_mk (Below.trod laidOut (by kernel_rfl) (of_decide_eq_true (by kernel_rfl)) kk2 bel lt2) trodAll_mk0))), rfl, bel.frame _, fun h => by cases h⟩
theorem over : Rows.tableRoomRow.holds Try.pinned (OpenSpec.ofChange Rows.tableRoomSpec) :=
  OpenClaim.holds_of_wide 3 Try.f3 rfl rfl rfl rfl rfl rfl rfl ⟨rfl, rfl, rfl, rfl, rfl⟩ rfl rfl rfl rfl rfl (by kernel_rfl) Try.func3 (by kernel_rfl)
    (of_decide_eq_true (by kernel_rfl)) (by unfold Func.isWrapper; first | (rw [if_pos (by decide +kernel)]; kernel_rfl) | (rw [if_neg (by decide +kernel)]; exact ⟨rfl, rfl⟩))
    (fun os started H enc _ => lifted os started H enc)
theorem proved : Rows.TableRoomSaid := over
end Go.Proofs.Ytgmjlhpigfaicaa.tableRoom
namespace Go.Proofs.Ytgmjlhpigfaicaa
/-- The row, under a short name, for the claim. -/
theorem tableRoom_holds : Rows.TableRoomSaid := tableRoom.proved
end Go.Proofs.Ytgmjlhpigfaicaa
