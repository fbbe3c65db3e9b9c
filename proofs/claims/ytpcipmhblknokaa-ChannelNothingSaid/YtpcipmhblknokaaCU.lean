/- What the document's flights do (pure): Put, Take, without, tick, cut. -/
import Derived.Test.YtpcipmhblknokaaCT
import Derived.Test.YtpcipmhblknokaaCL
import Derived.Test.YtpcipmhblknokaaXCx7
namespace Go.Proofs.Ytpcipmhblknokaa.Ch
open Go.RowKit Go.Proofs.Ytpcipmhblknokaa.XC Go.Proofs.YtpcipmhblknokaaW.PrintWords Go.Proofs.YtpcipmhblknokaaW.PrintLast Go.Proofs.YtpcipmhblknokaaW.PrintMore
attribute [local go_sem] max2_int min2_int max_two min_two max_three min_three max_four min_four   -- for this text's walks alone
set_option linter.unusedVariables false
set_option linter.unusedSimpArgs false
open List renaming setIfInBounds_toArray → xA, set_cons_zero → xB, set_cons_succ → xC
open Go.Proofs.YtpcipmhblknokaaW.PrintWords renaming blk_drewN → bN, blk_drew → bD, blk_alloc → bA, below_set → bS, blk_frozen → bF, blk_cell → bC, cell_far → cF, blk_far → bZ, blk_below → bB, pw_below_drewN → bwN, below_drew1 → bw1, below_alloc → bwA
open Go.Proofs.YtpcipmhblknokaaW.PrintZ
open Bool renaming true → T,false → F

set_option maxRecDepth 100000
set_option maxHeartbeats 4000000
theorem rid_f (x : Int) : beaconref11_number.f x = some (idB x) := by
  unfold beaconref11_number.f beaconref02_CheckId.f idB
  by_cases h1 : x < 1
  · rw [if_pos h1, decide_eq_false (by omega)]
    rfl
  · by_cases h2 : x > 2147483647
    · rw [if_neg h1, if_pos h2, decide_eq_false (by omega)]
      rfl
    · rw [if_neg h1, if_neg h2, decide_eq_true (by omega)]
      rfl
theorem rmay_f (x : S27) : beaconref11_May.f x.f0 x.f1 x.f2 x.f3 = some (mayB x) := by
  unfold beaconref11_May.f mayB
  rw [rid_f, rid_f]
  cases idB x.f0 with
  | false => rfl
  | true =>
    cases idB x.f1 with
    | false => rfl
    | true =>
      simp only [Option.bind_some, if_true, Bool.true_and]
      by_cases h : x.f0 = x.f1
      · rw [if_pos h, decide_eq_false (by simp [h])]
        rfl
      · rw [if_neg h, decide_eq_true h, Bool.true_and]
        by_cases h2 : x.f2.size ≤ 65536
        · rw [if_pos (by omega), decide_eq_true h2, Bool.true_and]
          by_cases h3 : 0 ≤ x.f3
          · rw [if_pos h3, decide_eq_true h3, Bool.true_and]
          · rw [if_neg (by omega), decide_eq_false h3, Bool.false_and]
        · rw [if_neg (by omega), decide_eq_false h2, Bool.false_and]
theorem rput_f {m : List S27} (hl : m.length ≤ 65536) (x : S27) : beaconref11_Put.f (m.length + 1) m x.f0 x.f1 x.f2 x.f3 = some (putM m x, putE m x) := by
  unfold beaconref11_Put.f putM putE
  rw [rmay_f, copy_f (by omega)]
  simp only [Option.bind_some]
  by_cases h : mayB x = true
  · rw [if_pos h, if_pos h, if_pos h]
    by_cases h2 : 65536 ≤ m.length
    · rw [if_pos (by omega), if_pos h2, if_pos h2]
    · rw [if_neg (by omega), if_neg h2, if_neg h2, if_pos (by simp; omega)]
  · rw [if_neg h, if_neg h, if_neg h]
def woN (n : Int) (m : List S27) (i : Nat) : List S27 := match i with
  | 0 => []
  | i + 1 => if (i : Int) = n then woN n m i else woN n m i ++ [rd_T27 m (i : Nat)]
theorem woN_len (n : Int) (m : List S27) : ∀ i, (woN n m i).length ≤ i
  | 0 => Nat.le_refl _
  | i + 1 => by
    have := woN_len n m i
    unfold woN
    by_cases h : (i : Int) = n
    · rw [if_pos h]; omega
    · rw [if_neg h, List.length_append]
      exact Nat.succ_le_succ this
theorem wo_l0 (m : List S27) (a : Int) (hl : m.length ≤ 65536) : ∀ (d k n : Nat), n + d = m.length → d < k → beaconref11_without.l0 k m a (woN a m n) n = some (woN a m m.length)
  | d, 0, _, _, hk => absurd hk (by omega)
  | 0, k + 1, n, hd, _ => by
    obtain rfl : n = m.length := by omega
    rw [beaconref11_without.l0, if_neg (by omega)]
  | d + 1, k + 1, n, hd, hk => by
    have hi := wo_l0 m a hl d k (n + 1) (by omega) (by omega)
    have hln := woN_len a m n
    rw [beaconref11_without.l0, if_pos (by omega), show wrap64 ((n : Int) + 1) = ((n + 1 : Nat) : Int) by unfold wrap64; omega]
    by_cases h : (n : Int) = a
    · rw [if_pos h, ← hi, woN, if_pos h]
    · rw [if_neg h, if_pos (by omega), if_pos (by omega), ← hi, woN, if_neg h]
theorem woN_take {m : List S27} {n : Nat} : ∀ i, i ≤ n → i ≤ m.length → woN (n : Int) m i = m.take i
  | 0, _, _ => rfl
  | i + 1, h, hl => by
    unfold woN
    rw [if_neg (by omega), woN_take i (by omega) (by omega), rd27 (by omega), List.take_add_one, List.getElem?_eq_getElem (by omega)]
    rfl
theorem woN_rest {m : List S27} {n : Nat} (hn : n < m.length) : ∀ i, n + 1 ≤ i → i ≤ m.length → woN (n : Int) m i = (m.take i).eraseIdx n
  | 0, h, _ => absurd h (by omega)
  | i + 1, h, hl => by
    unfold woN
    by_cases hi : i = n
    · subst hi
      rw [if_pos rfl, woN_take i (Nat.le_refl _) (by omega), List.eraseIdx_eq_take_drop_succ, List.take_take, Nat.min_eq_left (by omega), List.drop_take, Nat.sub_self, List.take_zero, List.append_nil]
    · rw [if_neg (by omega), woN_rest hn i (by omega) (by omega), rd27 (by omega), List.take_add_one, List.getElem?_eq_getElem (by omega)]
      rw [List.eraseIdx_append_of_lt_length (by rw [List.length_take]; omega)]
      rfl
theorem wo_f {m : List S27} (hl : m.length ≤ 65536) {n : Nat} (hn : n < m.length) : beaconref11_without.f (m.length + 1) m n = some (m.eraseIdx n) := by
  rw [beaconref11_without.f]
  have h := wo_l0 m n hl m.length (m.length + 1) 0 (by omega) (by omega)
  rw [woN_rest hn m.length hn (Nat.le_refl _), List.take_length] at h
  exact h
theorem rtake_f {m : List S27} (hl : m.length ≤ 65536) (i : Int) : beaconref11_Take.f (m.length + 2) m i = some ((takeR m i).1, (takeR m i).2.1.f0, (takeR m i).2.1.f1, (takeR m i).2.1.f2, (takeR m i).2.1.f3, (takeR m i).2.2) := by
  unfold beaconref11_Take.f takeR
  cases ha : atI m i with
  | none =>
    have hb := at_none ha
    unfold inB at hb
    by_cases h : i < 0
    · rw [if_pos h]
      rfl
    · rw [if_neg h, decide_eq_true (by simp at hb; omega)]
      rfl
  | some y =>
    obtain ⟨hb, hi, hn, hy⟩ := at_some ha
    rw [if_neg (by omega), decide_eq_false (by omega), beaconref11_Take.j0, if_neg (by simp), if_pos (by omega), if_pos (by omega)]
    have hr : rd_T27 m i = y := by rw [hi]; exact rd_y hn hy
    rw [hr]
    simp only
    by_cases h : 0 < y.f3
    · rw [if_pos h, if_pos h]
      rfl
    · rw [if_neg h, if_neg h, hi, wo_f hl hn]
      rfl
theorem rtk_l0 {m0 : List S27} (hG : Good m0) : ∀ (d k n : Nat), n + d = m0.length → d < k → beaconref11_tick.l0 k (tickM m0 n) n = some (m0.map tk)
  | d, 0, _, _, hk => absurd hk (by omega)
  | 0, k + 1, n, hd, _ => by
    obtain rfl : n = m0.length := by omega
    rw [beaconref11_tick.l0, if_neg (by rw [tickM_len]; omega), tickM_all]
  | d + 1, k + 1, n, hd, hk => by
    have hi := rtk_l0 hG d k (n + 1) (by omega) (by omega)
    have hlen := hG.len
    have hn : n < m0.length := by omega
    have hy : m0[n]? = some m0[n] := List.getElem?_eq_getElem hn
    have hg := tickM_get hy
    have hr : rd_T27 (tickM m0 n) (n : Int) = m0[n] := rd_y (by rw [tickM_len]; exact hn) hg
    obtain ⟨w0, w1⟩ := may_wait (hG.all _ (List.getElem_mem hn))
    rw [beaconref11_tick.l0, if_pos (by rw [tickM_len]; omega), if_pos (by omega), hr, show wrap64 ((n : Int) + 1) = ((n + 1 : Nat) : Int) by unfold wrap64; omega, ← hi, ← tickM_succ hy]
    have hw : wrap64 (m0[n].f3 - 1) = m0[n].f3 - 1 := by unfold wrap64; omega
    by_cases h : m0[n].f3 > 0
    · rw [if_pos h, tk, hw, waitS]
      have : (if m0[n].f3 - 1 ≤ 0 then (0 : Int) else m0[n].f3 - 1) = m0[n].f3 - 1 := by
        by_cases h2 : m0[n].f3 - 1 ≤ 0
        · rw [if_pos h2]; omega
        · rw [if_neg h2]
      rw [this]
      rfl
    · rw [if_neg h, tk, hw, waitS, if_pos (by omega)]
      have h0 : m0[n].f3 = 0 := by omega
      have : ((tickM m0 n).set n ⟨m0[n].f0, m0[n].f1, m0[n].f2, 0⟩) = tickM m0 n := by
        have e : (⟨m0[n].f0, m0[n].f1, m0[n].f2, 0⟩ : S27) = m0[n] := by
          rw [← h0]
        rw [e]
        apply List.ext_getElem?
        intro j
        rw [List.getElem?_set]
        by_cases hj : n = j
        · subst hj
          rw [if_pos rfl, if_pos (by rw [tickM_len]; exact hn), hg]
        · rw [if_neg hj]
      rw [this]
theorem rtick_f {m : List S27} (hG : Good m) : beaconref11_tick.f (m.length + 1) m = some (m.map tk) := by
  have hlen := hG.len
  rw [beaconref11_tick.f, copy_f (by omega), Option.bind_some]
  have h := rtk_l0 hG m.length (m.length + 1) 0 (by omega) (by omega)
  rw [tickM_zero] at h
  exact h
theorem rcut_l0 (m : List S27) (a b : Int) (hl : m.length ≤ 65536) : ∀ (d k n : Nat), n + d = m.length → d < k → beaconref11_cut.l0 k m a b (keepB a b (m.take n)) n = some (keepB a b m)
  | d, 0, _, _, hk => absurd hk (by omega)
  | 0, k + 1, n, hd, _ => by
    obtain rfl : n = m.length := by omega
    rw [beaconref11_cut.l0, if_neg (by omega), List.take_length]
  | d + 1, k + 1, n, hd, hk => by
    have hi := rcut_l0 m a b hl d k (n + 1) (by omega) (by omega)
    have hn : n < m.length := by omega
    have hln : (keepB a b (m.take n)).length ≤ n := Nat.le_trans (List.length_filter_le _ _) (by rw [List.length_take]; omega)
    rw [take_y (List.getElem?_eq_getElem hn), keepB_app] at hi
    rw [beaconref11_cut.l0, if_pos (by omega), if_pos (by omega), rd27 hn, show wrap64 ((n : Int) + 1) = ((n + 1 : Nat) : Int) by unfold wrap64; omega]
    have hk2 : keepB a b [m[n]] = if betB a b m[n] = true then [] else [m[n]] := by
      unfold keepB
      cases hb : betB a b m[n] <;> simp [hb]
    rw [hk2] at hi
    unfold betB at hi
    rw [if_pos (show (keepB a b (m.take n)).length < 3518437208883 by omega)]
    simp only [Bool.or_eq_true, Bool.and_eq_true, beq_iff_eq] at hi
    have hc : ∀ c : Prop, ∀ [Decidable c], c → beaconref11_cut.l0 k m a b (keepB a b (m.take n) ++ if c then [] else [m[n]]) ((n + 1 : Nat) : Int) = some (keepB a b m) → beaconref11_cut.l0 k m a b (keepB a b (m.take n)) ((n + 1 : Nat) : Int) = some (keepB a b m) := by
      intro c _ h hh
      rw [if_pos h, List.append_nil] at hh
      exact hh
    have hd2 : ∀ c : Prop, ∀ [Decidable c], ¬ c → beaconref11_cut.l0 k m a b (keepB a b (m.take n) ++ if c then [] else [m[n]]) ((n + 1 : Nat) : Int) = some (keepB a b m) → beaconref11_cut.l0 k m a b (keepB a b (m.take n) ++ [⟨m[n].f0, m[n].f1, m[n].f2, m[n].f3⟩]) ((n + 1 : Nat) : Int) = some (keepB a b m) := by
      intro c _ h hh
      rw [if_neg h] at hh
      exact hh
    by_cases h1 : m[n].f0 = a
    · rw [if_pos h1]
      by_cases h2 : m[n].f1 = b
      · rw [if_pos h2]
        exact hc _ (.inl ⟨h1, h2⟩) hi
      · rw [if_neg h2]
        by_cases h3 : m[n].f0 = b
        · rw [if_pos h3]
          by_cases h4 : m[n].f1 = a
          · rw [if_pos h4]
            exact hc _ (.inr ⟨h3, h4⟩) hi
          · rw [if_neg h4]
            exact hd2 _ (fun h => h.elim (fun h => h2 h.2) (fun h => h4 h.2)) hi
        · rw [if_neg h3]
          exact hd2 _ (fun h => h.elim (fun h => h2 h.2) (fun h => h3 h.1)) hi
    · rw [if_neg h1]
      by_cases h3 : m[n].f0 = b
      · rw [if_pos h3]
        by_cases h4 : m[n].f1 = a
        · rw [if_pos h4]
          exact hc _ (.inr ⟨h3, h4⟩) hi
        · rw [if_neg h4]
          exact hd2 _ (fun h => h.elim (fun h => h1 h.1) (fun h => h4 h.2)) hi
      · rw [if_neg h3]
        exact hd2 _ (fun h => h.elim (fun h => h1 h.1) (fun h => h3 h.1)) hi
theorem rcut_f {m : List S27} (hl : m.length ≤ 65536) (a b : Int) : beaconref11_cut.f (m.length + 1) m a b = some (keepB a b m) := rcut_l0 m a b hl m.length _ 0 (by omega) (by omega)
end Go.Proofs.Ytpcipmhblknokaa.Ch
