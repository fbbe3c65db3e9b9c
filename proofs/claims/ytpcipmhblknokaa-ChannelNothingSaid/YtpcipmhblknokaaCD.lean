/- A flight's rows as cells; Delete over them. -/
import Derived.Test.YtpcipmhblknokaaCC
namespace Go.Proofs.Ytpcipmhblknokaa.Ch
open Go.RowKit Go.Proofs.Ytpcipmhblknokaa.XC Go.Proofs.YtpcipmhblknokaaW.PrintWords Go.Proofs.YtpcipmhblknokaaW.PrintLast Go.Proofs.YtpcipmhblknokaaW.PrintMore
attribute [local go_sem] max2_int min2_int max_two min_two max_three min_three max_four min_four   -- for this text's walks alone
set_option linter.unusedVariables false
set_option linter.unusedSimpArgs false
open List renaming setIfInBounds_toArray → xA, set_cons_zero → xB, set_cons_succ → xC
open Go.Proofs.YtpcipmhblknokaaW.PrintWords renaming blk_drewN → bN, blk_drew → bD, blk_alloc → bA, below_set → bS, blk_frozen → bF, blk_cell → bC, cell_far → cF, blk_far → bZ, blk_below → bB, pw_below_drewN → bwN, below_drew1 → bw1, below_alloc → bwA
open Go.Proofs.YtpcipmhblknokaaW.PrintZ
open Bool renaming true → T,false → F

def c27 (x : S27) : List Value := [.int .i64 x.f0, .int .i64 x.f1, .string x.f2, .int .i64 x.f3]
def cells (m : List S27) : List Value := m.flatMap c27
theorem cells_cons (x : S27) (m : List S27) : cells (x :: m) = c27 x ++ cells m := rfl
theorem cells_len : ∀ m : List S27, (cells m).length = m.length * 4
  | [] => rfl
  | x :: m => by rw [cells_cons, List.length_append, cells_len m, List.length_cons]; simp only [c27, List.length_cons, List.length_nil]; omega
theorem cells_app (a b : List S27) : cells (a ++ b) = cells a ++ cells b := List.flatMap_append
theorem cells_take : ∀ (m : List S27) (i : Nat), (cells m).take (i * 4) = cells (m.take i)
  | [], i => by simp [cells]
  | x :: m, 0 => by simp [cells]
  | x :: m, i + 1 => by
    rw [cells_cons, List.take_succ_cons, cells_cons, ← cells_take m i, show (i + 1) * 4 = i * 4 + 1 + 1 + 1 + 1 by omega]
    rfl
theorem cells_drop : ∀ (m : List S27) (i : Nat), (cells m).drop (i * 4) = cells (m.drop i)
  | [], i => by simp [cells]
  | x :: m, 0 => by simp [cells]
  | x :: m, i + 1 => by
    rw [cells_cons, List.drop_succ_cons, ← cells_drop m i, show (i + 1) * 4 = i * 4 + 1 + 1 + 1 + 1 by omega]
    rfl
theorem cells_one {m : List S27} : ∀ u ∈ cells m, u.oneCell' = true := by
  intro u hu
  obtain ⟨x, _, h⟩ := List.mem_flatMap.1 hu
  simp only [c27, List.mem_cons, List.not_mem_nil, or_false] at h
  rcases h with rfl | rfl | rfl | rfl <;> rfl
theorem reps_cells {w : World} {base : Nat} {ok : Nat → Prop} : ∀ m : List S27, Reps (k27.M w base ok) 4 m (cells m)
  | [] => Reps.none _ _
  | x :: m => Reps.front (k27_mkM w base ok x) rfl (reps_cells m) rfl
theorem cells_reps {w : World} {base : Nat} {ok : Nat → Prop} : ∀ (m : List S27) (inner : List Value), Reps (k27.M w base ok) 4 m inner → inner = cells m
  | [], inner, h => List.eq_nil_of_length_eq_zero (by rw [h.1]; rfl)
  | x :: m, inner, h => by
    have h0 := k27_openM (h.2 0 x rfl)
    rw [Nat.zero_mul, List.drop_zero] at h0
    have ht : Reps (k27.M w base ok) 4 m (inner.drop 4) := by
      refine ⟨by rw [List.length_drop, h.1, List.length_cons]; omega, fun j p hj => ?_⟩
      have := h.2 (j + 1) p hj
      rw [List.drop_drop, show 4 + j * 4 = (j + 1) * 4 by omega]
      exact this
    rw [cells_cons, ← cells_reps m _ ht]
    refine (List.take_append_drop 4 inner).symm.trans ?_
    rw [h0]
    rfl
/-- An own row of datagrams is its cells. -/
theorem R27 {w : World} {base : Nat} {P : Nat → Prop} {v : Value} {m : List S27} : Kd.R k27 27 w base P v m ↔ (∀ k, v.ownBlock = some k → P k) ∧ w.ownsRow base 27 4 v m.length (cells m) := by
  constructor
  · rintro ⟨h0, inner, ho, hr⟩
    rw [cells_reps m inner hr] at ho
    exact ⟨h0, ho⟩
  · rintro ⟨h0, ho⟩
    exact ⟨h0, _, ho, reps_cells m⟩
section
variable {w : World} {base i j : Nat} {P : Nat → Prop} {u : Value} {m : List S27}
theorem del_calls (hR : Kd.R k27 27 w base P u m) (hi : i < m.length) (hj : j = i + 1) :
    Calls Try.prog 35 #[u, .int .i64 i, .int .i64 j] w fun e w' => ∃ v, e = .returned v ∧ Kd.R k27 27 w' base P v (m.eraseIdx i) ∧ v.ownBlock = u.ownBlock ∧ w.grownBy w' u.ownBlock := by
  obtain ⟨h0, hl, ho⟩ := R27.1 hR
  rcases ho with ⟨rfl, h⟩ | ⟨g, cap, cur, rfl, hg, hh, hn, hm, hs, ht⟩
  · omega
  · have h1 : ∀ x ∈ cur.toList.take (m.length * 4), x.oneCell' = true := by rw [ht]; exact cells_one
    refine (del_cells hh hs hn hm h1 hi hj).mono ?_
    rintro e w' ⟨rfl, rfl⟩
    have hcs : cur.size = cur.toList.length := by simp
    have hml := cells_len m
    have hnl : ((cur.toList.take (m.length * 4)).drop (j * 4)).length = (m.length - j) * 4 := by rw [List.length_drop, List.length_take]; omega
    obtain ⟨c1, a1, a2, a3⟩ := setCells_row ((cur.toList.take (m.length * 4)).drop (j * 4)) (i * 4) w.drew cur hh (by omega)
    obtain ⟨c2, b1, b2, b3⟩ := setCells_row z27c ((m.length - 1) * 4) _ c1 a1 (by simp only [z27c, List.length_cons, List.length_nil]; omega)
    have s1 := setCells_same g ((cur.toList.take (m.length * 4)).drop (j * 4)) (i * 4) w.drew
    have s2 := setCells_same g z27c ((m.length - 1) * 4) (w.drew.setCells g (i * 4) ((cur.toList.take (m.length * 4)).drop (j * 4)))
    refine ⟨_, rfl, R27.2 ⟨h0, ?_, .inr ⟨g, cap, c2, ?_, hg, b1, ?_, hm, by omega, ?_⟩⟩, rfl, ⟨s2.1.trans s1.1, s2.2.1.trans s1.2.1, s2.2.2.1.trans s1.2.2.1, by rw [s2.2.2.2, s1.2.2.2]; exact Nat.le_refl _, fun k hk hne => ?_⟩⟩
    · rw [cells_len]
    · rw [List.length_eraseIdx_of_lt hi]
    · rw [List.length_eraseIdx_of_lt hi]; omega
    · have hc1 : c1.toList.length = cur.toList.length := by simp; omega
      rw [List.length_eraseIdx_of_lt hi, b3, List.append_assoc, List.take_append_of_le_length (by rw [List.length_take]; omega), List.take_take, Nat.min_self, a3, ht, List.eraseIdx_eq_take_drop_succ, cells_app, ← cells_take, ← cells_drop, ← hj, ← ht, List.take_take, Nat.min_eq_left (by omega)]
      rw [List.take_append_of_le_length (by rw [List.length_append, List.length_take]; omega), List.take_of_length_le (by rw [List.length_append, List.length_take]; omega)]
    · have hkg : k ≠ g := fun e => hne (by rw [e]; rfl)
      rw [setCells_far _ _ k hkg, setCells_far _ _ k hkg]
      rfl
end
end Go.Proofs.Ytpcipmhblknokaa.Ch
