/- A flight (channel): what its methods do, by hand: is, there, Len, New. -/
import Derived.Test.YtpcipmhblknokaaXCx0
namespace Go.Proofs.Ytpcipmhblknokaa.Ch
open Go.RowKit Go.Proofs.Ytpcipmhblknokaa.XC Go.Proofs.YtpcipmhblknokaaW.PrintWords Go.Proofs.YtpcipmhblknokaaW.PrintLast Go.Proofs.YtpcipmhblknokaaW.PrintMore
attribute [local go_sem] max2_int min2_int max_two min_two max_three min_three max_four min_four   -- for this text's walks alone
set_option linter.unusedVariables false
set_option linter.unusedSimpArgs false
open List renaming setIfInBounds_toArray → xA, set_cons_zero → xB, set_cons_succ → xC
open Go.Proofs.YtpcipmhblknokaaW.PrintWords renaming blk_drewN → bN, blk_drew → bD, blk_alloc → bA, below_set → bS, blk_frozen → bF, blk_cell → bC, cell_far → cF, blk_far → bZ, blk_below → bB, pw_below_drewN → bwN, below_drew1 → bw1, below_alloc → bwA
open Go.Proofs.YtpcipmhblknokaaW.PrintZ
open Bool renaming true → T,false → F

/-- A flight at g of W: was it made, and its slice. -/
abbrev FB (W : World) (g : Nat) (b : Bool) (A : Option Addr) (n c : Nat) : Prop := W.heap[g]? = some (.cells #[.bool b, .slice A n c] 55 (0, 0))
section
variable {w : World} {g n c : Nat} {b : Bool} {A : Option Addr}
theorem is_calls (hK : FB w g b A n c) : Calls Try.prog 22 #[.pointer (some ⟨g, 0, none⟩)] w fun e w' => e = .returned (.bool b) ∧ w' = w := by
  have hc0 : w.cell? ⟨g, 0, none⟩ = some (.bool b) := (bC hK 0).trans rfl
  have hf0 := bF hK 0
  clear hK
  go_enter Try.func22, Try.ntmps22
  go_wp2
  go_ret
  exact ⟨rfl, rfl⟩
theorem is_nil : Calls Try.prog 22 #[.pointer none] w fun e w' => e = .returned (.bool false) ∧ w' = w := by
  go_enter Try.func22, Try.ntmps22
  go_wp2
  go_ret
  exact ⟨rfl, rfl⟩
theorem there_calls (hK : FB w g b A n c) (hn : n ≤ 9223372036854775807) (i : Int) : Calls Try.prog 34 #[.pointer (some ⟨g, 0, none⟩), .int .i64 i] w fun e w' => e = .returned (.bool (decide (0 ≤ i) && decide (i < n))) ∧ w' = w := by
  have hc1 : w.cell? ⟨g, 1, none⟩ = some (.slice A n c) := (bC hK 1).trans rfl
  have hf1 := bF hK 1
  clear hK
  by_cases h : 0 ≤ i
  · have hb : decide (0 ≤ i) = true := decide_eq_true h
    go_enter Try.func34, Try.ntmps34
    go_wp2
    go_ret
    exact ⟨by rw [hb]; rfl, rfl⟩
  · have hb : decide (0 ≤ i) = false := decide_eq_false h
    go_enter Try.func34, Try.ntmps34
    go_wp2
    go_ret
    exact ⟨rfl, rfl⟩
theorem len_calls (hK : FB w g true A n c) : Calls Try.prog 21 #[.pointer (some ⟨g, 0, none⟩)] w fun e w' => e = .returned (.int .i64 n) ∧ w' = w := by
  have hc1 : w.cell? ⟨g, 1, none⟩ = some (.slice A n c) := (bC hK 1).trans rfl
  have hf1 := bF hK 1
  go_enter Try.func21, Try.ntmps21
  go_wp2_with (first | ((with_reducible refine gate_callee (f := 22) rfl ?_); refine zg (some 4) Try.func22 #[.pointer (some ⟨g, 0, none⟩)] ?_; (with_reducible refine (is_calls hK).mono ?_); rintro e w4 ⟨rfl, rfl⟩; refine ⟨_, rfl, ?_⟩))
  go_ret
  exact ⟨rfl, rfl⟩
theorem len_not (hK : FB w g false A n c) : Calls Try.prog 21 #[.pointer (some ⟨g, 0, none⟩)] w fun e w' => e = .returned (.int .i64 0) ∧ w' = w := by
  go_enter Try.func21, Try.ntmps21
  go_wp2_with (first | ((with_reducible refine gate_callee (f := 22) rfl ?_); refine zg (some 4) Try.func22 #[.pointer (some ⟨g, 0, none⟩)] ?_; (with_reducible refine (is_calls hK).mono ?_); rintro e w4 ⟨rfl, rfl⟩; refine ⟨_, rfl, ?_⟩))
  go_ret
  exact ⟨rfl, rfl⟩
theorem len_nil : Calls Try.prog 21 #[.pointer none] w fun e w' => e = .returned (.int .i64 0) ∧ w' = w := by
  go_enter Try.func21, Try.ntmps21
  go_wp2_with (first | ((with_reducible refine gate_callee (f := 22) rfl ?_); refine zg (some 4) Try.func22 #[.pointer none] ?_; (with_reducible refine is_nil.mono ?_); rintro e w4 ⟨rfl, rfl⟩; refine ⟨_, rfl, ?_⟩))
  go_ret
  exact ⟨rfl, rfl⟩
theorem new_calls : Calls Try.prog 8 #[] w fun e w' => ∃ g, e = .returned (.pointer (some ⟨g, 0, none⟩)) ∧ w.heap.size ≤ g ∧ FB w' g true none 0 0 ∧ Below w.heap.size w w' := by
  have hu55 := Try.underlying55
  go_enter Try.func8, Try.ntmps8
  go_wp2_with (first | ((with_reducible refine gate_dst (N := 2) rfl ?_); refine zb (N := 2) (cs := #[.bool true, .slice none 0 0]) (t := 55) ?_; intro G hg w1 hbox hb))
  go_ret
  subst hg
  exact ⟨_, rfl, Nat.le_refl _, hbox, hb⟩
end
end Go.Proofs.Ytpcipmhblknokaa.Ch
