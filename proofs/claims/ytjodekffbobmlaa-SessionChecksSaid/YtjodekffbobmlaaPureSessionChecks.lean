/- SessionChecks: any settings and any nonce are checked as the reference checks them, and the usual settings may be. -/
import Derived.Test.YtjodekffbobmlaaSSessionChecks
import Derived.Test.YtjodekffbobmlaaWFr
set_option linter.unusedSimpArgs false
namespace Go.Proofs.Ytjodekffbobmlaa.Pure
open Go.RowKit Go.Proofs.YtjodekffbobmlaaW.PrintWords Go.Proofs.Ytjodekffbobmlaa.XC

theorem isNaN_f {a : Nat} (ha : a < 18446744073709551616) : math_IsNaN.f a = some (decide (9218868437227405312 < a % 9223372036854775808)) := by
  unfold math_IsNaN.f
  by_cases h : isN a
  · rw [feq_nan (.inl h)]
    unfold isN at h
    simp [h]
  · rw [feq_key ha ha h h]
    unfold isN at h
    simp [h]
theorem abs_f {a : Nat} (ha : a < 18446744073709551616) : math_Abs.f a = some (a % 9223372036854775808) := by
  unfold math_Abs.f
  rw [abs_bits ha]
theorem isInf_f {a : Nat} (ha : a < 18446744073709551616) : math_IsInf.f a 0 = some (decide (a % 9223372036854775808 = 9218868437227405312)) := by
  unfold math_IsInf.f
  rw [if_pos rfl, abs_f ha, Option.bind_some]
  congr 1
  by_cases h : isN (a % 9223372036854775808)
  · rw [flt_nan (.inr h)]
    unfold isN at h
    symm
    rw [decide_eq_false_iff_not]
    omega
  · unfold isN at h
    rw [flt_pos (by omega) (by omega)]
    exact decide_eq_decide.2 (by omega)
theorem signbit_f {a : Nat} (ha : a < 18446744073709551616) : math_Signbit.f a = some (decide (9223372036854775808 ≤ a)) := by
  unfold math_Signbit.f fbits
  congr 1
  exact decide_eq_decide.2 (by unfold wrap64; omega)
theorem rnan_f {a : Nat} (ha : a < 18446744073709551616) : beaconref01_nan.f a = some (decide (9218868437227405312 < a % 9223372036854775808)) := by
  unfold beaconref01_nan.f
  by_cases h : isN a
  · rw [feq_nan (.inl h)]
    unfold isN at h
    simp [h]
  · rw [feq_key ha ha h h]
    unfold isN at h
    simp [h]
theorem rinf_f {a : Nat} (ha : a < 18446744073709551616) (hn : ¬ isN a) : beaconref01_inf.f a = some (decide (a % 9223372036854775808 = 9218868437227405312)) := by
  unfold beaconref01_inf.f
  rw [flt_key (by omega) ha (by unfold isN; omega) hn, flt_key ha (by omega) hn (by unfold isN; omega)]
  unfold isN at hn
  have h1 : key 9218868437227405311 = 9218868437227405311 := by decide
  have h2 : key 18442240474082181119 = -9218868437227405311 := by decide
  rw [h1, h2]
  have hk : (a < 9223372036854775808 ∧ key a = (a : Int)) ∨ (9223372036854775808 ≤ a ∧ key a = -((a - 9223372036854775808 : Nat) : Int)) := by unfold key; split <;> omega
  generalize key a = q at *
  by_cases h3 : 9218868437227405311 < q
  · rw [if_pos (by simpa using h3)]
    congr 1
    symm
    rw [decide_eq_true_eq]
    omega
  · rw [if_neg (by simpa using h3)]
    congr 1
    exact decide_eq_decide.2 (by omega)
theorem rsign1_f {a : Nat} (ha : a < 18446744073709551616) : beaconref01_sign.f a = some (decide (9223372036854775808 ≤ a)) := by
  unfold beaconref01_sign.f fbits
  congr 1
  rw [show ((((a : Nat) : Int) / 9223372036854775808) == 1) = decide (((a : Nat) : Int) / 9223372036854775808 = 1) from rfl]
  exact decide_eq_decide.2 (by omega)
theorem limit_same {a : Nat} (ha : a < 18446744073709551616) : ∃ c, metric_Limit.f a = some c ∧ beaconref01_Limit.f a = some c := by
  unfold metric_Limit.f beaconref01_Limit.f metric_within.f beaconref01_bounded.f
  rw [isNaN_f ha, rnan_f ha]
  by_cases h1 : 9218868437227405312 < a % 9223372036854775808
  · exact ⟨10, by simp [h1], by simp [h1]⟩
  have d1 : decide (9218868437227405312 < a % 9223372036854775808) = false := by simpa using h1
  rw [d1, isInf_f ha, rinf_f ha h1]
  by_cases h2 : a % 9223372036854775808 = 9218868437227405312
  · exact ⟨11, by simp [h2], by simp [h2]⟩
  have d2 : decide (a % 9223372036854775808 = 9218868437227405312) = false := by simpa using h2
  rw [d2, signbit_f ha, rsign1_f ha]
  by_cases h3 : 9223372036854775808 ≤ a
  · exact ⟨12, by simp [h3], by simp [h3]⟩
  have d3 : decide (9223372036854775808 ≤ a) = false := by simpa using h3
  rw [d3, flt_pos (by omega) (by omega), flt_pos (by omega) (by omega)]
  by_cases h4 : a < 4607182418800017408
  · exact ⟨13, by simp [h4], by simp [h4]⟩
  have d4 : decide (a < 4607182418800017408) = false := by simpa using h4
  rw [d4]
  by_cases h5 : 4742290407621132288 < a
  · exact ⟨14, by simp [h5], by simp [h5]⟩
  have d5 : decide (4742290407621132288 < a) = false := by simpa using h5
  rw [d5]
  obtain ⟨q1, q2⟩ := fmul_two (a := a) (c := 4616189618054758400) (s := 2) (by omega) (by omega) (by omega) (by omega) (by omega)
  obtain ⟨x, hx⟩ : ∃ x, x = a + 2 * 4503599627370496 := ⟨_, rfl⟩
  rw [← hx] at q2
  have hxl : x < 9218868437227405312 := by omega
  obtain ⟨q3, ⟨n, hn, _, n1, _⟩, _⟩ := fround_spec hxl
  have hy : fround .zero x ≤ 9218868437227405312 := by
    rw [hn, nearest_nat]; exact rn_inf _ _
  clear hx
  unfold metric_quarter.f beaconref01_quarter.f math_Trunc.f
  rw [q1, q2, q3, if_pos rfl, if_pos rfl]
  simp only [Option.bind_some, Bool.false_eq_true, if_false]
  rw [feq_pos (Nat.le_of_lt hxl) hy, feq_pos hy (Nat.le_of_lt hxl)]
  clear hn
  generalize fround .zero x = y at *
  by_cases h6 : y = x
  · exact ⟨0, by simp [h6], by simp [h6]⟩
  · have h7 : ¬ x = y := fun h => h6 h.symm
    exact ⟨15, by simp [h7], by simp [h6]⟩
theorem check_same {k : Nat} {a : Nat} (ha : a < 18446744073709551616) (b c d e f g : Int) : session_Check.f (k + 1) a b c d e f g = beaconref12_Check.f (k + 1) a b c d e f g ∧ ∃ r, session_Check.f (k + 1) a b c d e f g = some r := by
  obtain ⟨l, h1, h2⟩ := limit_same ha
  have A : session_Check.f (k + 1) a b c d e f g = some (if l = 0 ∧ 1 ≤ b ∧ b ≤ 65536 ∧ 0 ≤ c ∧ c ≤ 65536 ∧ 1 ≤ d ∧ d ≤ 1048576 ∧ 1 ≤ e ∧ e ≤ 1048576 ∧ 1 ≤ f ∧ f ≤ 1048576 ∧ 1 ≤ g ∧ g ≤ 1048576 then 0 else 120) := by
    unfold session_Check.f
    simp only [session_Check.j0, session_between.f, h1]
    have bw : ∀ x lo hi : Int, (if x ≥ lo then some (decide (x ≤ hi)) else some false) = some (decide (lo ≤ x ∧ x ≤ hi)) := fun x lo hi => by
      by_cases q : lo ≤ x
      · rw [if_pos q]; simp [q]
      · rw [if_neg q]; simp [q]
    simp only [bw, Option.bind_some, decide_eq_true_eq]
    repeat' split
    all_goals first
      | rfl
      | (exfalso; omega)
      | (exfalso; simp only [Bool.false_eq_true, not_true_eq_false] at *; done)
      | (exfalso; simp only [Bool.false_eq_true] at *; omega)
      | (exfalso; simp_all; omega)
  have B : beaconref12_Check.f (k + 1) a b c d e f g = some (if l = 0 ∧ 1 ≤ b ∧ b ≤ 65536 ∧ 0 ≤ c ∧ c ≤ 65536 ∧ 1 ≤ d ∧ d ≤ 1048576 ∧ 1 ≤ e ∧ e ≤ 1048576 ∧ 1 ≤ f ∧ f ≤ 1048576 ∧ 1 ≤ g ∧ g ≤ 1048576 then 0 else 120) := by
    unfold beaconref12_Check.f
    simp only [beaconref12_Check.j0, beaconref12_life.f, h2]
    have bw : ∀ x : Int, (if x ≥ 1 then some (decide (x ≤ 1048576)) else some false) = some (decide (1 ≤ x ∧ x ≤ 1048576)) := fun x => by
      by_cases q : 1 ≤ x
      · rw [if_pos q]; simp [q]
      · rw [if_neg q]; simp [q]
    simp only [bw, Option.bind_some, decide_eq_true_eq]
    repeat' split
    all_goals first
      | rfl
      | (exfalso; omega)
      | (exfalso; simp only [Bool.false_eq_true, not_true_eq_false] at *; done)
      | (exfalso; simp only [Bool.false_eq_true] at *; omega)
      | (exfalso; simp_all; omega)
  rw [A, B]
  exact ⟨rfl, _, rfl⟩
theorem limit_usual : metric_Limit.f 4643211215818981376 = some 0 := by decide +kernel
theorem check_usual (k : Nat) : session_Check.f (k + 1) 4643211215818981376 256 256 6 3 40 8 = some 0 := by
  unfold session_Check.f
  simp only [session_Check.j0, session_between.f, limit_usual]
  rfl
theorem awake_c (k : Nat) : beaconlaw12_awake.f (k + 1) = some true := by
  unfold beaconlaw12_awake.f session_New.f session_Hear.f session_Hear.j0 session_heard.f
  simp
theorem same_c (m p : Int) (u : Bool) (s : Int) : beaconref12_Same.f m p u s m p u s = some true := by
  unfold beaconref12_Same.f
  simp
theorem new_c (m : Int) : session_New.f m = beaconref12_New.f m ∧ ∃ r, beaconref12_New.f m = some r := by
  unfold session_New.f beaconref12_New.f
  refine ⟨rfl, ?_⟩
  split <;> exact ⟨_, rfl⟩
theorem SessionChecks : Go.Proofs.Ytjodekffbobmlaa.XC.SessionChecks.Pure := by
  rintro ⟨a, b, c, d, e, f, g⟩ m ⟨ha, _⟩ _
  simp only at ha
  refine ⟨2, ?_⟩
  unfold beaconlaw12_SessionChecks.f
  rw [show session_Usual.f = some (4643211215818981376, 256, 256, 6, 3, 40, 8) from rfl, show beaconref12_Usual.f = some (4643211215818981376, 256, 256, 6, 3, 40, 8) from rfl]
  simp only [Option.bind_some]
  rw [feq_pos (by omega) (by omega)]
  simp only [decide_true, if_true, beaconlaw12_SessionChecks.j0]
  obtain ⟨n1, n, n2⟩ := new_c m
  rw [n1, n2, Option.bind_some, Option.bind_some]
  obtain ⟨c1, r, c2⟩ := check_same (k := 0) ha b c d e f g
  rw [← c1, c2, Option.bind_some, Option.bind_some, if_pos rfl, if_pos (by decide), check_usual, Option.bind_some, if_pos rfl, same_c, Option.bind_some, if_pos rfl, if_pos rfl, awake_c]
  rfl
end Go.Proofs.Ytjodekffbobmlaa.Pure
