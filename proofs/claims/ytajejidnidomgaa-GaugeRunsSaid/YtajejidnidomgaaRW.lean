/- What a weight is: the program's tests and the reference's answer alike. -/
import Derived.Test.YtajejidnidomgaaXRx
import Derived.Test.YtajejidnidomgaaRA
import Derived.Test.YtajejidnidomgaaWFr
namespace Go.Proofs.Ytajejidnidomgaa.RA
open Go.RowKit Go.Proofs.YtajejidnidomgaaW.PrintWords Go.Proofs.Ytajejidnidomgaa.XR

/-- A weight: from one to 2^20, in quarters. -/
def IsW (a : Nat) : Prop := 4607182418800017408 ≤ a ∧ a ≤ 4697254411347427328 ∧ ∃ n : Nat, va (a + 2 * 4503599627370496) = n * U 1074
theorem rnan_f {a : Nat} (ha : a < 18446744073709551616) : beaconref01_nan.f a = some (decide (9218868437227405312 < a % 9223372036854775808)) := by
  unfold beaconref01_nan.f
  by_cases h : isN a
  · rw [feq_nan (.inl h)]
    unfold isN at h
    simp [h]
  · rw [feq_key ha ha h h]
    unfold isN at h
    simp [h]
theorem rinf_f {a : Nat} (ha : a < 18446744073709551616) (hn : ¬ isN a) : beaconref01_inf.f a = some (decide (a % 9223372036854775808 = 9218868437227405312)) := by
  unfold beaconref01_inf.f
  rw [flt_key (by omega) ha (by unfold isN; omega) hn, flt_key ha (by omega) hn (by unfold isN; omega)]
  unfold isN at hn
  have h1 : key 9218868437227405311 = 9218868437227405311 := by decide
  have h2 : key 18442240474082181119 = -9218868437227405311 := by decide
  rw [h1, h2]
  have hk : (a < 9223372036854775808 ∧ key a = (a : Int)) ∨ (9223372036854775808 ≤ a ∧ key a = -((a - 9223372036854775808 : Nat) : Int)) := by unfold key; split <;> omega
  generalize key a = q at *
  by_cases h3 : 9218868437227405311 < q
  · rw [if_pos (by simpa using h3)]
    congr 1
    symm
    rw [decide_eq_true_eq]
    omega
  · rw [if_neg (by simpa using h3)]
    congr 1
    exact decide_eq_decide.2 (by omega)
theorem rsign1_f {a : Nat} (ha : a < 18446744073709551616) : beaconref01_sign.f a = some (decide (9223372036854775808 ≤ a)) := by
  unfold beaconref01_sign.f fbits
  congr 1
  rw [show ((((a : Nat) : Int) / 9223372036854775808) == 1) = decide (((a : Nat) : Int) / 9223372036854775808 = 1) from rfl]
  exact decide_eq_decide.2 (by omega)
theorem whole_iff {x : Nat} (hx : x < 9218868437227405312) (hb : va x < 4503599627370496 * U 1074) : fround .zero x = x ↔ ∃ n : Nat, va x = n * U 1074 := by
  obtain ⟨_, ⟨n, h1, _, h2, h3⟩, _⟩ := fround_spec hx
  have hn : n < 4503599627370496 := by
    rcases Nat.lt_or_ge n 4503599627370496 with h | h
    · exact h
    · have := Nat.mul_le_mul_right (U 1074) h; omega
  obtain ⟨h4, h5⟩ := fofint_val hn
  rw [h1]
  constructor
  · intro h; exact ⟨n, by rw [← h4, h]⟩
  · rintro ⟨m, hm⟩
    have h6 : n = m := by
      rw [hm] at h2 h3
      have := Nat.le_of_mul_le_mul_right h2 (U_pos _)
      have := Nat.lt_of_mul_lt_mul_right h3
      omega
    subst h6
    have p1 := le_of_va (r := fofint (n : Int)) (s := x) (by rw [h4, hm]; exact Nat.le_refl _)
    have p2 := le_of_va (r := x) (s := fofint (n : Int)) (by rw [h4, hm]; exact Nat.le_refl _)
    omega
theorem va_20 : va 4697254411347427328 = 1048576 * U 1074 := by
  have := va_U (q := 1042) (m := 0) (by decide)
  simp only [Nat.add_zero] at this
  have h20 : U 20 = 1048576 := by unfold U; decide
  rw [show (4697254411347427328 : Nat) = (1042 + 1) * 4503599627370496 from by decide, this, ← U52, ← h20, ← U_add, ← U_add]
theorem va_22 {a : Nat} (h1 : 4607182418800017408 ≤ a) (h2 : a ≤ 4697254411347427328) : va (a + 2 * 4503599627370496) ≤ 4194304 * U 1074 := by
  rw [va_up 2 (by omega), U2]
  have := va_le h2
  rw [va_20] at this
  omega
theorem quarters {a : Nat} (h1 : 4607182418800017408 ≤ a) (h2 : a ≤ 4697254411347427328) : fmulOk a 4616189618054758400 = true ∧ fmul a 4616189618054758400 = a + 2 * 4503599627370496 ∧ froundOk (a + 2 * 4503599627370496) = true ∧
    (fround .zero (a + 2 * 4503599627370496) = a + 2 * 4503599627370496 ↔ ∃ n : Nat, va (a + 2 * 4503599627370496) = n * U 1074) ∧ fround .zero (a + 2 * 4503599627370496) ≤ 9218868437227405312 := by
  obtain ⟨h3, h4⟩ := fmul_two (a := a) (c := 4616189618054758400) (s := 2) (by omega) (by omega) (by omega) (by omega) (by omega)
  have hb := va_22 h1 h2
  have hU := U_pos 1074
  obtain ⟨h5, ⟨n, h6, _, h7, _⟩, _⟩ := fround_spec (x := a + 2 * 4503599627370496) (by omega)
  refine ⟨h3, h4, h5, whole_iff (by omega) (by omega), ?_⟩
  rw [h6]
  have : n < 4503599627370496 := by
    rcases Nat.lt_or_ge n 4503599627370496 with h | h
    · exact h
    · have := Nat.mul_le_mul_right (U 1074) h; omega
  exact Nat.le_of_lt (fofint_val this).2
theorem weight_f {a : Nat} (ha : a < 18446744073709551616) : ∃ c, metric_Weight.f a = some c ∧ beaconref01_Weight.f a = some c ∧ (c = 0 ↔ IsW a) := by
  unfold metric_Weight.f beaconref01_Weight.f metric_within.f beaconref01_bounded.f
  rw [isNaN_f ha, rnan_f ha]
  by_cases h1 : 9218868437227405312 < a % 9223372036854775808
  · refine ⟨10, by simp [h1], by simp [h1], ?_⟩
    unfold IsW; omega
  have d1 : decide (9218868437227405312 < a % 9223372036854775808) = false := by simpa using h1
  rw [d1, isInf_f ha, rinf_f ha h1]
  by_cases h2 : a % 9223372036854775808 = 9218868437227405312
  · refine ⟨11, by simp [h2], by simp [h2], ?_⟩
    unfold IsW; omega
  have d2 : decide (a % 9223372036854775808 = 9218868437227405312) = false := by simpa using h2
  rw [d2, signbit_f ha, rsign1_f ha]
  by_cases h3 : 9223372036854775808 ≤ a
  · refine ⟨12, by simp [h3], by simp [h3], ?_⟩
    unfold IsW; omega
  have d3 : decide (9223372036854775808 ≤ a) = false := by simpa using h3
  rw [d3, flt_pos (by omega) (by omega), flt_pos (by omega) (by omega)]
  by_cases h4 : a < 4607182418800017408
  · refine ⟨13, by simp [h4], by simp [h4], ?_⟩
    unfold IsW; omega
  have d4 : decide (a < 4607182418800017408) = false := by simpa using h4
  rw [d4]
  by_cases h5 : 4697254411347427328 < a
  · refine ⟨14, by simp [h5], by simp [h5], ?_⟩
    unfold IsW; omega
  have d5 : decide (4697254411347427328 < a) = false := by simpa using h5
  rw [d5]
  obtain ⟨q1, q2, q3, q4, q5⟩ := quarters (a := a) (by omega) (by omega)
  obtain ⟨x, hx⟩ : ∃ x, x = a + 2 * 4503599627370496 := ⟨_, rfl⟩
  have hw : IsW a ↔ fround .zero x = x := by
    rw [hx]; unfold IsW
    exact ⟨fun h => q4.2 h.2.2, fun h => ⟨by omega, by omega, q4.1 h⟩⟩
  rw [← hx] at q2 q3 q5
  have hxl : x ≤ 9218868437227405312 := by omega
  clear q4
  clear hx
  unfold metric_quarter.f beaconref01_quarter.f math_Trunc.f
  rw [q1, q2, q3, if_pos rfl, if_pos rfl]
  simp only [Option.bind_some, Bool.false_eq_true, if_false]
  rw [feq_pos hxl q5, feq_pos q5 hxl, hw]
  generalize fround .zero x = y at *
  by_cases h6 : y = x
  · refine ⟨0, by simp [h6], by simp [h6], ?_⟩
    simp [h6]
  · have h7 : ¬ x = y := fun h => h6 h.symm
    refine ⟨15, by simp [h7], by simp [h6], ?_⟩
    simp [h6]
/-- How far two weights lie apart: nought, or no tiny number. -/
theorem apart_big {a b : Nat} (ha : 4607182418800017408 ≤ a) (ha2 : a < 9218868437227405312) (hb : 4607182418800017408 ≤ b) (hb2 : b < 9218868437227405312) : apart a b = 0 ∨ 971 * 4503599627370496 ≤ apart a b := by
  have key : ∀ {x y : Nat}, 4607182418800017408 ≤ y → y < x → x < 9218868437227405312 → 971 * 4503599627370496 ≤ fsub x y := fun {x y} h1 h2 h3 => by
    obtain ⟨d, _, _, e, _, _, _, _, _, hd⟩ := fsub_spec (a := x) (b := y) h3 (by omega) (by omega)
    rw [e]
    refine hd _ (by omega) ?_
    have hv : va (971 * 4503599627370496) = U 1022 := by
      have := va_U (q := 970) (m := 0) (by decide)
      simp only [Nat.add_zero] at this
      rw [show (971 * 4503599627370496 : Nat) = (970 + 1) * 4503599627370496 from by decide, this, ← U52, ← U_add]
    have hm : ∀ z, 4607182418800017408 ≤ z → ∃ n, va z = n * U 1022 := fun z hz => by
      obtain ⟨q, m, hm, e1, e2⟩ := va_split z (by omega)
      refine ⟨(4503599627370496 + m) * U (q - 1022), ?_⟩
      rw [e2, U_pow, Nat.mul_assoc, ← U_add]
      congr 2
      omega
    obtain ⟨n, hn⟩ := hm x (by omega)
    obtain ⟨k, hk⟩ := hm y h1
    have hlt := va_lt h2
    rw [hv, hn, hk]
    rw [hn, hk] at hlt
    have h4 := Nat.lt_of_mul_lt_mul_right hlt
    rw [← Nat.sub_mul]
    calc U 1022 = 1 * U 1022 := (Nat.one_mul _).symm
      _ ≤ (n - k) * U 1022 := Nat.mul_le_mul_right _ (by omega)
  unfold apart
  split
  · rename_i h
    rcases Nat.lt_or_eq_of_le h with h1 | h1
    · exact .inr (key hb h1 ha2)
    · obtain ⟨d, _, _, e, _, e2, _⟩ := fsub_spec (a := a) (b := b) ha2 hb2 h
      left; rw [e, e2 h1]
  · rename_i h
    exact .inr (key ha (by omega) hb2)
theorem weight_lt {a : Nat} (h : IsW a) : 4607182418800017408 ≤ a ∧ a < 9218868437227405312 := by unfold IsW at h; omega
theorem fmul_zero8 : fmulOk 0 4620693217682128896 = true ∧ fmul 0 4620693217682128896 = 0 := by unfold fmulOk fmul; decide +kernel
/-- Hold: over two weights. -/
def Held (a b : Nat) : Nat := if apart b a = 0 ∨ apart b a + 3 * 4503599627370496 ≤ a then a else b
theorem hold_f {k a b : Nat} (ha : a < 18446744073709551616) (hb : b < 18446744073709551616) :
    gauge_Hold.f (k + 1) a b = beaconref05_Hold.f (k + 1) a b ∧ ∃ r, beaconref05_Hold.f (k + 1) a b = some r ∧ ((r = (0, 1)) ∨ (IsW a ∧ IsW b ∧ r = (Held a b, 0))) := by
  obtain ⟨c, h1, h2, h3⟩ := weight_f ha
  obtain ⟨c', h1', h2', h3'⟩ := weight_f hb
  unfold gauge_Hold.f beaconref05_Hold.f
  rw [h1, h2, h1', h2']
  simp only [Option.bind_some, gauge_Hold.j0, beaconref05_Hold.j0]
  by_cases hc : c = 0
  · rw [if_pos hc, if_pos hc]
    by_cases hc' : c' = 0
    · have wa := h3.1 hc
      have wb := h3'.1 hc'
      have la := weight_lt wa
      have lb := weight_lt wb
      have hn : (c' != 0) = false := by simp [hc']
      rw [hn]
      simp only [Bool.false_eq_true, if_false]
      obtain ⟨p1, p2⟩ := apart_prog lb.2 la.2
      obtain ⟨r1, r2, r3⟩ := apart_ref lb.2 la.2
      obtain ⟨d1, d2⟩ := fdiv_two (a := a) (c := 4620693217682128896) (s := 3) read_eight (by omega) (by omega) la.2
      have hap := apart_le lb.2 la.2
      have hbig := apart_big lb.1 lb.2 la.1 la.2
      have hm : fmulOk (apart b a) 4620693217682128896 = true ∧ fle (fmul (apart b a) 4620693217682128896) a = decide (apart b a = 0 ∨ apart b a + 3 * 4503599627370496 ≤ a) := by
        rcases hbig with h0 | h0
        · rw [h0, fmul_zero8.1, fmul_zero8.2, fle_pos (by omega) (by omega)]
          simp
        · by_cases hs : apart b a + 3 * 4503599627370496 ≤ 9218868437227405312
          · obtain ⟨m1, m2⟩ := fmul_two (a := apart b a) (c := 4620693217682128896) (s := 3) (by omega) (by omega) (by omega) hs hap
            rw [m1, m2, fle_pos (by omega) (by omega)]
            exact ⟨rfl, decide_eq_decide.2 (by omega)⟩
          · obtain ⟨m1, m2⟩ := fmul_fin hap (b := 4620693217682128896) (by omega)
            have hv : va (4620693217682128896 : Nat) = U 1074 * U 3 := read_pow_val (s := 3) (by omega)
            have m3 := le_fmul (r := 9218868437227405312) hap (b := 4620693217682128896) (by omega) (by omega) (by
              have e1 : va (apart b a) * va 4620693217682128896 = va (apart b a + 3 * 4503599627370496) * U 1074 := by rw [hv, va_up 3 (by omega)]; ac_rfl
              rw [e1]
              exact Nat.mul_le_mul_right _ (va_le (by omega)))
            rw [m1, fle_pos m2 (by omega)]
            exact ⟨rfl, decide_eq_decide.2 (by omega)⟩
      have hr : fle (apart b a) (fdiv a 4620693217682128896) = decide (apart b a = 0 ∨ apart b a + 3 * 4503599627370496 ≤ a) := by
        rw [d2, fle_pos (by omega) (by omega)]
        exact decide_eq_decide.2 (by omega)
      have hH : (if decide (apart b a = 0 ∨ apart b a + 3 * 4503599627370496 ≤ a) = true then some (a, (0 : Int)) else some (b, 0)) = some (Held a b, 0) := by
        unfold Held
        by_cases hq : apart b a = 0 ∨ apart b a + 3 * 4503599627370496 ≤ a
        · rw [if_pos hq, if_pos (decide_eq_true hq)]
        · rw [if_neg hq, if_neg (by rw [decide_eq_true_iff]; exact hq)]
      have hR : (if fsubOk b a = true then (if flt (fsub b a) 0 = true then (if fsubOk a b = true then (if fdivOk a 4620693217682128896 = true then (if fle (fsub a b) (fdiv a 4620693217682128896) = true then some (a, (0 : Int)) else some (b, 0)) else none) else none) else (if fdivOk a 4620693217682128896 = true then (if fle (fsub b a) (fdiv a 4620693217682128896) = true then some (a, 0) else some (b, 0)) else none)) else none) = some (Held a b, 0) := by
        rw [r1, r2, d1]
        simp only [if_true]
        by_cases hs : flt (fsub b a) 0 = true
        · rw [if_pos hs] at r3
          rw [if_pos hs, r3, hr]
          exact hH
        · rw [if_neg hs] at r3
          rw [if_neg hs, r3, hr]
          exact hH
      rw [hR, p1, p2, if_pos rfl, Option.bind_some, hm.1, if_pos rfl, hm.2]
      exact ⟨hH, _, rfl, .inr ⟨wa, wb, rfl⟩⟩
    · have hn : (c' != 0) = true := by simp [hc']
      rw [hn]
      exact ⟨rfl, _, rfl, .inl rfl⟩
  · rw [if_neg hc, if_neg hc]
    exact ⟨rfl, _, rfl, .inl rfl⟩
theorem held_self (a : Nat) : Held a a = a := by
  unfold Held; split <;> rfl
end Go.Proofs.Ytajejidnidomgaa.RA
