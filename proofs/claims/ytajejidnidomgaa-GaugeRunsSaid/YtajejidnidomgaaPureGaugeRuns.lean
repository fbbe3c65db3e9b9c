/- GaugeRuns: a whole run of samples gives the reference's costs, gauge and refusals, bit by bit. -/
import Derived.Test.YtajejidnidomgaaSGaugeRuns
import Derived.Test.YtajejidnidomgaaRR
namespace Go.Proofs.Ytajejidnidomgaa.Pure
open Go.RowKit Go.Proofs.YtajejidnidomgaaW.PrintWords Go.Proofs.Ytajejidnidomgaa.XR Go.Proofs.Ytajejidnidomgaa.RA

theorem rd_lt' {l : List Nat} (hl : ∀ x ∈ l, x < 18446744073709551616) (i : Int) : rdOf (0 : Nat) l i < 18446744073709551616 := by
  unfold rdOf
  rw [List.getD_eq_getElem?_getD]
  cases h : l[i.toNat]? with
  | none => simp
  | some x => exact hl x (List.mem_of_getElem? h)
theorem runs {l : List Nat} (hl : ∀ x ∈ l, x < 18446744073709551616) (hb : l.length * 8 ≤ 140737488351232) (d : Nat) : ∀ (k : Nat) (ys : List Nat) (dr i n : Int) (m v : Nat), d + 8388630 ≤ k → 0 ≤ i → i + d = l.length → n ≤ 9223372036854775807 → m < 18446744073709551616 → v < 18446744073709551616 →
    (ys.length : Int) ≤ i → (∀ y ∈ ys, y < 18446744073709551616) →
    ∃ r : List Nat × Int × Nat × Nat × Int, gauge_Run.l0 k ys dr l (l.length : Int) i n m v = some r ∧ beaconref05_Run.l0 k l ys dr i n m v = some r ∧ r.1.length ≤ l.length := by
  induction d with
  | zero =>
    intro k ys dr i n m v hk h0 hd hn hm hv hy hy2
    obtain ⟨k, rfl⟩ : ∃ q, k = q + 1 := ⟨k - 1, by omega⟩
    refine ⟨(ys, n, m, v, dr), ?_, ?_, by simp only; omega⟩
    · rw [gauge_Run.l0, if_neg (by omega)]
    · rw [beaconref05_Run.l0, if_neg (by omega)]
  | succ d ih =>
    intro k ys dr i n m v hk h0 hd hn hm hv hy hy2
    obtain ⟨k, rfl⟩ : ∃ q, k = q + 1 + 1 := ⟨k - 2, by omega⟩
    have hw : wrap64 (i + 1) = i + 1 := by unfold wrap64; omega
    have ha := rd_lt' hl i
    have hlt : i < (l.length : Int) := by omega
    rw [gauge_Run.l0, beaconref05_Run.l0]
    simp only [eq_true hlt, eq_true h0, if_true]
    rw [feed_f hn hm hv ha, rfeed_f hn hm hv ha, Option.bind_some, Option.bind_some, hw]
    by_cases h1 : May n m v
    · rw [if_pos h1]
      by_cases h2 : MayS (rdOf (0 : Nat) l i)
      · rw [if_pos h2]
        have hs : rdOf (0 : Nat) l i % 9223372036854775808 < 9218868437227405312 := by unfold MayS at h2; omega
        obtain ⟨f1, f2, f3⟩ := fed_may hn h1 hs
        generalize Fed n m v (rdOf (0 : Nat) l i % 9223372036854775808) = F at *
        obtain ⟨n', m', v'⟩ := F
        simp only at f1 f2 f3 ⊢
        obtain ⟨c1, c2, c3, c4⟩ := cost_f f1 (by omega)
        have hm' := f1.2.1
        have hv' := f1.2.2.1
        have hR := weight_lt (round_f c3).2
        rw [if_pos trivial, if_pos trivial, c4, rcost_f f1 (by omega) (by omega), Option.bind_some, Option.bind_some]
        simp only
        generalize Rd (fadd m' (fmul v' 4616189618054758400)) = R at *
        by_cases hy0 : (ys.length : Int) > 0
        · have hw2 : wrap64 ((ys.length : Int) - 1) = (ys.length : Int) - 1 := by unfold wrap64; omega
          have g1 : 0 ≤ (ys.length : Int) - 1 := by omega
          have g2 : (ys.length : Int) - 1 < (ys.length : Int) := by omega
          have g3 : ys.length < 17592186044416 := by omega
          simp only [eq_true hy0, hw2, eq_true g1, eq_true g2, eq_true g3, if_true]
          have hlast := rd_lt' hy2 ((ys.length : Int) - 1)
          obtain ⟨e, r, hr, hr2⟩ := hold_f (k := k) (a := rdOf (0 : Nat) ys ((ys.length : Int) - 1)) (b := R) hlast (by omega)
          have hr3 : r.1 < 18446744073709551616 := by
            rcases hr2 with rfl | ⟨_, _, rfl⟩
            · simp
            · simp only
              unfold Held
              split <;> omega
          rw [e, hr, Option.bind_some, Option.bind_some]
          refine ih (k + 1) (ys ++ [r.1]) dr (i + 1) n' m' v' (by omega) (by omega) (by omega) f3 (by omega) (by omega) (by rw [List.length_append]; simp only [List.length_singleton]; omega) ?_
          intro y hy'
          rcases List.mem_append.1 hy' with h | h
          · exact hy2 y h
          · rw [List.mem_singleton.1 h]; exact hr3
        · have g3 : ys.length < 17592186044416 := by omega
          simp only [eq_false hy0, eq_true g3, if_true, if_false]
          refine ih (k + 1) (ys ++ [R]) dr (i + 1) n' m' v' (by omega) (by omega) (by omega) f3 (by omega) (by omega) (by rw [List.length_append]; simp only [List.length_singleton]; omega) ?_
          intro y hy'
          rcases List.mem_append.1 hy' with h | h
          · exact hy2 y h
          · rw [List.mem_singleton.1 h]; omega
      · rw [if_neg h2]
        simp only
        rw [if_neg (by decide), if_neg (by decide)]
        exact ih (k + 1) ys (wrap64 (dr + 1)) (i + 1) n m v (by omega) (by omega) (by omega) hn hm hv (by omega) hy2
    · rw [if_neg h1]
      simp only
      rw [if_neg (by decide), if_neg (by decide)]
      exact ih (k + 1) ys (wrap64 (dr + 1)) (i + 1) n m v (by omega) (by omega) (by omega) hn hm hv (by omega) hy2
theorem all_same (l : List Nat) (hb : l.length < 17592186044416) (d : Nat) : ∀ (k : Nat) (i : Int), d + 1 ≤ k → 0 ≤ i → i + d = l.length → beaconref05_SameAll.l0 k l l i = some true := by
  induction d with
  | zero =>
    intro k i hk h0 hd
    obtain ⟨k, rfl⟩ : ∃ q, k = q + 1 := ⟨k - 1, by omega⟩
    rw [beaconref05_SameAll.l0, if_neg (by omega)]
  | succ d ih =>
    intro k i hk h0 hd
    obtain ⟨k, rfl⟩ : ∃ q, k = q + 1 := ⟨k - 1, by omega⟩
    have hw : wrap64 (i + 1) = i + 1 := by unfold wrap64; omega
    rw [beaconref05_SameAll.l0, if_pos (by omega), if_pos h0, if_pos (by omega), same_f, Option.bind_some, if_pos (by simp), hw]
    exact ih k (i + 1) (by omega) (by omega) (by omega)
theorem GaugeRuns : Go.Proofs.Ytajejidnidomgaa.XR.GaugeRuns.Pure := by
  rintro l ⟨hb, hl⟩
  obtain ⟨K, hK⟩ : ∃ K, K = l.length + 8388640 := ⟨_, rfl⟩
  refine ⟨K, ?_⟩
  unfold beaconlaw05_GaugeRuns.f
  rw [Option.bind_some, if_pos (by simp; omega), Option.bind_some, List.nil_append]
  unfold gauge_Run.f beaconref05_Run.f
  obtain ⟨r, h1, h2, h3⟩ := runs hl hb l.length K [] 0 0 0 0 0 (by omega) (by omega) (by omega) (by omega) (by omega) (by omega) (by simp) (by simp)
  rw [h1, h2, Option.bind_some, Option.bind_some]
  unfold beaconref05_SameAll.f
  rw [if_pos rfl, all_same r.1 (by omega) r.1.length K 0 (by omega) (by omega) (by omega), Option.bind_some, if_pos rfl, gsame_f, Option.bind_some, if_pos (by simp), if_pos rfl, if_pos rfl, all_same l (by omega) l.length K 0 (by omega) (by omega) (by omega), Option.bind_some, if_pos rfl, awake_f]
  rfl
end Go.Proofs.Ytajejidnidomgaa.Pure
