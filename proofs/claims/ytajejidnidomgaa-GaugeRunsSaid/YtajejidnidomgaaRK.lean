/- Feed keeps a gauge in bounds, and Cost's answer is a weight. -/
import Derived.Test.YtajejidnidomgaaXRx
import Derived.Test.YtajejidnidomgaaRW
import Derived.Test.YtajejidnidomgaaWFh
namespace Go.Proofs.Ytajejidnidomgaa.RA
open Go.RowKit Go.Proofs.YtajejidnidomgaaW.PrintWords Go.Proofs.Ytajejidnidomgaa.XR

theorem va_max : va 9218868437227405311 = 9007199254740991 * U 2045 := by
  have e5 : (9218868437227405311 : Nat) = (2045 + 1) * 4503599627370496 + 4503599627370495 := by decide
  have := va_U (q := 2045) (m := 4503599627370495) (by decide)
  rw [e5, this]
theorem k78 : va 4606056518893174784 = 7 * U 1071 := by
  have := va_U (q := 1021) (m := 3377699720527872) (by decide)
  have h : U 1071 = U 50 * U 1021 := U_add 50 1021
  rw [U50] at h
  have e5 : (4606056518893174784 : Nat) = (1021 + 1) * 4503599627370496 + 3377699720527872 := by decide
  rw [e5, this, h]
  generalize U 1021 = z
  omega
theorem k18 : va 4593671619917905920 = U 1071 := by
  have := va_U (q := 1019) (m := 0) (by decide)
  simp only [Nat.add_zero] at this
  have h : U 1071 = U 52 * U 1019 := U_add 52 1019
  rw [U52] at h
  have e5 : (4593671619917905920 : Nat) = (1019 + 1) * 4503599627370496 := by decide
  rw [e5, this, h]
theorem k34 : va 4604930618986332160 = 3 * U 1072 := by
  have := va_U (q := 1021) (m := 2251799813685248) (by decide)
  have h : U 1072 = U 51 * U 1021 := U_add 51 1021
  have h51 : U 51 = 2251799813685248 := by unfold U; decide
  rw [h51] at h
  have e5 : (4604930618986332160 : Nat) = (1021 + 1) * 4503599627370496 + 2251799813685248 := by decide
  rw [e5, this, h]
  generalize U 1021 = z
  omega
theorem k14 : va 4598175219545276416 = U 1072 := by
  have := va_U (q := 1020) (m := 0) (by decide)
  simp only [Nat.add_zero] at this
  have h : U 1072 = U 52 * U 1020 := U_add 52 1020
  rw [U52] at h
  have e5 : (4598175219545276416 : Nat) = (1020 + 1) * 4503599627370496 := by decide
  rw [e5, this, h]
theorem mean_le {m s : Nat} (hm : m < 9218868437227405312) (hs : s < 9218868437227405312) : fadd (fmul m 4606056518893174784) (fmul s 4593671619917905920) < 9218868437227405312 := by
  have vm := va_le (r := m) (s := 9218868437227405311) (by omega)
  have vs := va_le (r := s) (s := 9218868437227405311) (by omega)
  rw [va_max] at vm vs
  have r1 : va (9214364837600034816 + 3377699720527871) = 7881299347898367 * U 2045 := by
    have := va_U (q := 2045) (m := 3377699720527871) (by decide)
    have e5 : (9214364837600034816 + 3377699720527871 : Nat) = (2045 + 1) * 4503599627370496 + 3377699720527871 := by decide
    rw [e5, this]
  have r1' : va (9214364837600034816 + 3377699720527871 + 1) = 7881299347898368 * U 2045 := by
    have := va_U (q := 2045) (m := 3377699720527872) (by decide)
    have e5 : (9214364837600034816 + 3377699720527871 + 1 : Nat) = (2045 + 1) * 4503599627370496 + 3377699720527872 := by decide
    rw [e5, this]
  have r2 : va 9205357638345293823 = 9007199254740991 * U 2042 := by
    have := va_U (q := 2042) (m := 4503599627370495) (by decide)
    have e5 : (9205357638345293823 : Nat) = (2042 + 1) * 4503599627370496 + 4503599627370495 := by decide
    rw [e5, this]
  have u1 : U 2045 = 8 * U 2042 := by have := U_add 3 2042; rw [U3] at this; exact this
  have u2 : U 1074 = 8 * U 1071 := by have := U_add 3 1071; rw [U3] at this; exact this
  have h1 : fmul m 4606056518893174784 ≤ 9214364837600034816 + 3377699720527871 := by
    refine fmul_half hm (by omega) ?_
    rw [k78, r1, r1', u2]
    have : va m * (7 * U 1071) ≤ 9007199254740991 * U 2045 * (7 * U 1071) := Nat.mul_le_mul_right _ vm
    have e1 : 9007199254740991 * U 2045 * (7 * U 1071) = 9007199254740991 * 7 * (U 2045 * U 1071) := by ac_rfl
    have e2 : (7881299347898367 * U 2045 + 7881299347898368 * U 2045) * (8 * U 1071) = (7881299347898367 + 7881299347898368) * 8 * (U 2045 * U 1071) := by rw [← Nat.add_mul]; ac_rfl
    have hz : 0 < U 2045 * U 1071 := Nat.mul_pos (U_pos _) (U_pos _)
    rw [e2]
    rw [e1] at this
    generalize U 2045 * U 1071 = z at *
    omega
  have h2 : fmul s 4593671619917905920 ≤ 9205357638345293823 := by
    refine fmul_le hs (by omega) ?_
    rw [k18, r2, u2]
    have : va s * U 1071 ≤ 9007199254740991 * U 2045 * U 1071 := Nat.mul_le_mul_right _ vs
    rw [u1] at this
    have e1 : 9007199254740991 * (8 * U 2042) * U 1071 = 9007199254740991 * U 2042 * (8 * U 1071) := by ac_rfl
    rw [e1] at this
    exact this
  have v1 := va_le h1
  have v2 := va_le h2
  rw [r1] at v1
  rw [r2] at v2
  have := fadd_le (r := 9218868437227405311) (a := fmul m 4606056518893174784) (b := fmul s 4593671619917905920) (by omega) (by omega) (by
    rw [va_max, u1]
    rw [u1] at v1
    generalize U 2042 = z at *
    omega)
  omega
theorem vary_le {v s : Nat} (hm : v < 9218868437227405312) (hs : s < 9218868437227405312) : fadd (fmul v 4604930618986332160) (fmul s 4598175219545276416) < 9218868437227405312 := by
  have vm := va_le (r := v) (s := 9218868437227405311) (by omega)
  have vs := va_le (r := s) (s := 9218868437227405311) (by omega)
  rw [va_max] at vm vs
  have r1 : va (9214364837600034816 + 2251799813685247) = 6755399441055743 * U 2045 := by
    have := va_U (q := 2045) (m := 2251799813685247) (by decide)
    have e5 : (9214364837600034816 + 2251799813685247 : Nat) = (2045 + 1) * 4503599627370496 + 2251799813685247 := by decide
    rw [e5, this]
  have r1' : va (9214364837600034816 + 2251799813685247 + 1) = 6755399441055744 * U 2045 := by
    have := va_U (q := 2045) (m := 2251799813685248) (by decide)
    have e5 : (9214364837600034816 + 2251799813685247 + 1 : Nat) = (2045 + 1) * 4503599627370496 + 2251799813685248 := by decide
    rw [e5, this]
  have r2 : va 9209861237972664319 = 9007199254740991 * U 2043 := by
    have := va_U (q := 2043) (m := 4503599627370495) (by decide)
    have e5 : (9209861237972664319 : Nat) = (2043 + 1) * 4503599627370496 + 4503599627370495 := by decide
    rw [e5, this]
  have u1 : U 2045 = 4 * U 2043 := by have := U_add 2 2043; rw [U2] at this; exact this
  have u2 : U 1074 = 4 * U 1072 := by have := U_add 2 1072; rw [U2] at this; exact this
  have h1 : fmul v 4604930618986332160 ≤ 9214364837600034816 + 2251799813685247 := by
    refine fmul_half hm (by omega) ?_
    rw [k34, r1, r1', u2]
    have : va v * (3 * U 1072) ≤ 9007199254740991 * U 2045 * (3 * U 1072) := Nat.mul_le_mul_right _ vm
    have e1 : 9007199254740991 * U 2045 * (3 * U 1072) = 9007199254740991 * 3 * (U 2045 * U 1072) := by ac_rfl
    have e2 : (6755399441055743 * U 2045 + 6755399441055744 * U 2045) * (4 * U 1072) = (6755399441055743 + 6755399441055744) * 4 * (U 2045 * U 1072) := by rw [← Nat.add_mul]; ac_rfl
    have hz : 0 < U 2045 * U 1072 := Nat.mul_pos (U_pos _) (U_pos _)
    rw [e2]
    rw [e1] at this
    generalize U 2045 * U 1072 = z at *
    omega
  have h2 : fmul s 4598175219545276416 ≤ 9209861237972664319 := by
    refine fmul_le hs (by omega) ?_
    rw [k14, r2, u2]
    have : va s * U 1072 ≤ 9007199254740991 * U 2045 * U 1072 := Nat.mul_le_mul_right _ vs
    rw [u1] at this
    have e1 : 9007199254740991 * (4 * U 2043) * U 1072 = 9007199254740991 * U 2043 * (4 * U 1072) := by ac_rfl
    rw [e1] at this
    exact this
  have v1 := va_le h1
  have v2 := va_le h2
  rw [r1] at v1
  rw [r2] at v2
  have := fadd_le (r := 9218868437227405311) (a := fmul v 4604930618986332160) (b := fmul s 4598175219545276416) (by omega) (by omega) (by
    rw [va_max, u1]
    rw [u1] at v1
    generalize U 2043 = z at *
    omega)
  omega
theorem fed_may {n : Int} {m v s : Nat} (hn : n ≤ 9223372036854775807) (h : May n m v) (hs : s < 9218868437227405312) : May (Fed n m v s).1 (Fed n m v s).2.1 (Fed n m v s).2.2 ∧ 0 < (Fed n m v s).1 ∧ (Fed n m v s).1 ≤ 9223372036854775807 := by
  obtain ⟨h0, hm, hv, _⟩ := h
  unfold Fed
  by_cases hz : n = 0
  · rw [if_pos hz]
    have := (fdiv_ok2 hs).2
    exact ⟨⟨by simp, hs, by simp only; omega, fun h => absurd (show (1 : Int) = 0 from h) (by decide)⟩, by simp, by simp⟩
  · rw [if_neg hz]
    simp only
    have hp : 0 < (if n < 9223372036854775807 then n + 1 else n) ∧ (if n < 9223372036854775807 then n + 1 else n) ≤ 9223372036854775807 := by split <;> omega
    exact ⟨⟨by omega, mean_le hm hs, vary_le hv (apart_le hm hs), fun h => absurd (h : (if n < 9223372036854775807 then n + 1 else n) = 0) (by omega)⟩, hp.1, hp.2⟩
/-! ### rounding to a weight -/
theorem va_four : va 4616189618054758400 = 4 * U 1074 := by
  have := read_pow_val (c := 4616189618054758400) (s := 2) (by omega)
  rw [U2] at this
  omega
/-- What Round gives for a float that is not below nought. -/
def Rd (x : Nat) : Nat := if x ≤ 4607182418800017408 then 4607182418800017408 else if 4697254411347427328 ≤ x then 4697254411347427328 else fdiv (fround .even (x + 2 * 4503599627370496)) 4616189618054758400
theorem one_w : IsW 4607182418800017408 := by
  refine ⟨by omega, by omega, 4, ?_⟩
  have e5 : (4607182418800017408 + 2 * 4503599627370496 : Nat) = 4616189618054758400 := by decide
  rw [e5, va_four]
theorem most_w : IsW 4697254411347427328 := by
  refine ⟨by omega, by omega, 4194304, ?_⟩
  rw [va_up 2 (by omega), va_20, U2]
  generalize U 1074 = z
  omega
/-- Between the bounds. -/
theorem rd_mid {x : Nat} (h1 : 4607182418800017408 < x) (h2 : x < 4697254411347427328) : fmulOk x 4616189618054758400 = true ∧ fmul x 4616189618054758400 = x + 2 * 4503599627370496 ∧ froundOk (x + 2 * 4503599627370496) = true ∧
    ∃ e : Nat, fround .even (x + 2 * 4503599627370496) = fofint (e : Int) ∧ 4 ≤ e ∧ e ≤ 4194304 ∧ fdivOk (fofint (e : Int)) 4616189618054758400 = true ∧ fdiv (fofint (e : Int)) 4616189618054758400 + 2 * 4503599627370496 = fofint (e : Int) ∧ IsW (fdiv (fofint (e : Int)) 4616189618054758400) ∧
      2 * e * U 1074 ≤ 2 * va (x + 2 * 4503599627370496) + U 1074 ∧ 2 * va (x + 2 * 4503599627370496) ≤ (2 * e + 1) * U 1074 ∧ (2 * va (x + 2 * 4503599627370496) = (2 * e + 1) * U 1074 → e % 2 = 0) ∧ (2 * e * U 1074 = 2 * va (x + 2 * 4503599627370496) + U 1074 → e % 2 = 0) := by
  obtain ⟨q1, q2, q3, _, _⟩ := quarters (a := x) (by omega) (by omega)
  obtain ⟨_, _, e, he, c1, c2, c3, c4⟩ := fround_spec (x := x + 2 * 4503599627370496) (by omega)
  refine ⟨q1, q2, q3, e, he, ?_⟩
  have hU := U_pos 1074
  have hb := va_22 (a := x) (by omega) (by omega)
  have hl : 4 * U 1074 ≤ va (x + 2 * 4503599627370496) := by
    rw [← va_four]; exact va_le (by omega)
  have e1 : 4 ≤ e := by
    have h3 : (2 * 4) * U 1074 ≤ (2 * e + 1) * U 1074 := by rw [Nat.mul_assoc]; omega
    have := Nat.le_of_mul_le_mul_right h3 hU
    omega
  have e2 : e ≤ 4194304 := by
    have h3 : (2 * e) * U 1074 ≤ (2 * 4194304 + 1) * U 1074 := by rw [Nat.add_mul, Nat.mul_assoc 2 4194304]; omega
    have := Nat.le_of_mul_le_mul_right h3 hU
    omega
  obtain ⟨f1, f2⟩ := fofint_val (n := e) (by omega)
  have g1 : 4616189618054758400 ≤ fofint (e : Int) := le_of_va (by rw [va_four, f1]; exact Nat.mul_le_mul_right _ e1)
  have g2 : fofint (e : Int) ≤ 4697254411347427328 + 2 * 4503599627370496 := le_of_va (by
    rw [f1, va_up 2 (by omega), va_20, U2]
    have := Nat.mul_le_mul_right (U 1074) e2
    omega)
  obtain ⟨d1, d2⟩ := fdiv_two (a := fofint (e : Int)) (c := 4616189618054758400) (s := 2) read_four (by omega) (by omega) f2
  have d3 : fdiv (fofint (e : Int)) 4616189618054758400 + 2 * 4503599627370496 = fofint (e : Int) := by omega
  exact ⟨e1, e2, d1, d3, ⟨by omega, by omega, e, by rw [d3, f1]⟩, c1, c2, c3, c4⟩
theorem round_f {x : Nat} (hx : x ≤ 9218868437227405312) : metric_Round.f x = some (Rd x, 0) ∧ IsW (Rd x) := by
  unfold metric_Round.f Rd
  rw [isNaN_f (by omega), Option.bind_some, if_neg (by simp; omega), fle_pos hx (by omega), fle_pos (by omega) hx]
  by_cases h1 : x ≤ 4607182418800017408
  · rw [if_pos (by simpa using h1), if_pos h1]
    exact ⟨rfl, one_w⟩
  · rw [if_neg (by simpa using h1), if_neg h1]
    by_cases h2 : 4697254411347427328 ≤ x
    · rw [if_pos (by simpa using h2), if_pos h2]
      exact ⟨rfl, most_w⟩
    · rw [if_neg (by simpa using h2), if_neg h2]
      obtain ⟨q1, q2, q3, e, he, _, _, d1, _, d3, _⟩ := rd_mid (x := x) (by omega) (by omega)
      rw [q1, q2, q3, he, d1]
      exact ⟨rfl, d3⟩
theorem cost_f {n : Int} {m v : Nat} (h : May n m v) (hn : n ≠ 0) : fmulOk v 4616189618054758400 = true ∧ faddOk m (fmul v 4616189618054758400) = true ∧ fadd m (fmul v 4616189618054758400) ≤ 9218868437227405312 ∧ gauge_Cost.f n m v = some (Rd (fadd m (fmul v 4616189618054758400)), 0) := by
  have hm := h.2.1
  have hv := h.2.2.1
  obtain ⟨a1, a2⟩ := fmul_fin hv (b := 4616189618054758400) (by omega)
  obtain ⟨a3, a4⟩ := fadd_ok (Nat.le_of_lt hm) a2
  refine ⟨a1, a3, a4, ?_⟩
  unfold gauge_Cost.f
  rw [check_f (by omega) (by omega), Option.bind_some, if_pos h, if_pos rfl, if_neg hn, a1, if_pos rfl, a3, if_pos rfl, (round_f a4).1]
  rfl
end Go.Proofs.Ytajejidnidomgaa.RA
