/- What gauge's small functions and the reference's answer, over float64's bits: Check, may, sample, Feed. -/
import Derived.Test.YtajejidnidomgaaXRx
import Derived.Test.YtajejidnidomgaaWFl
namespace Go.Proofs.Ytajejidnidomgaa.RA
open Go.RowKit Go.Proofs.YtajejidnidomgaaW.PrintWords Go.Proofs.Ytajejidnidomgaa.XR

theorem isNaN_f {a : Nat} (ha : a < 18446744073709551616) : math_IsNaN.f a = some (decide (9218868437227405312 < a % 9223372036854775808)) := by
  unfold math_IsNaN.f
  by_cases h : isN a
  · rw [feq_nan (.inl h)]
    unfold isN at h
    simp [h]
  · rw [feq_key ha ha h h]
    unfold isN at h
    simp [h]
theorem abs_f {a : Nat} (ha : a < 18446744073709551616) : math_Abs.f a = some (a % 9223372036854775808) := by
  unfold math_Abs.f
  rw [abs_bits ha]
theorem isInf_f {a : Nat} (ha : a < 18446744073709551616) : math_IsInf.f a 0 = some (decide (a % 9223372036854775808 = 9218868437227405312)) := by
  unfold math_IsInf.f
  rw [if_pos rfl, abs_f ha, Option.bind_some]
  congr 1
  by_cases h : isN (a % 9223372036854775808)
  · rw [flt_nan (.inr h)]
    unfold isN at h
    symm
    rw [decide_eq_false_iff_not]
    omega
  · unfold isN at h
    rw [flt_pos (by omega) (by omega)]
    exact decide_eq_decide.2 (by omega)
theorem finite_f {a : Nat} (ha : a < 18446744073709551616) : gauge_finite.f a = some (decide (a % 9223372036854775808 < 9218868437227405312)) := by
  unfold gauge_finite.f
  rw [isNaN_f ha, Option.bind_some]
  by_cases h : 9218868437227405312 < a % 9223372036854775808
  · rw [if_pos (by simpa using h)]
    congr 1
    symm
    rw [decide_eq_false_iff_not]
    omega
  · rw [if_neg (by simpa using h), isInf_f ha, Option.bind_some]
    congr 1
    rw [← decide_not]
    exact decide_eq_decide.2 (by omega)
theorem signbit_f {a : Nat} (ha : a < 18446744073709551616) : math_Signbit.f a = some (decide (9223372036854775808 ≤ a)) := by
  unfold math_Signbit.f fbits
  congr 1
  exact decide_eq_decide.2 (by unfold wrap64; omega)
theorem rfinite_f {a : Nat} (ha : a < 18446744073709551616) : beaconref05_finite.f a = some (decide (a % 9223372036854775808 < 9218868437227405312)) := by
  unfold beaconref05_finite.f
  by_cases h : isN a
  · rw [fle_nan (.inl h)]
    unfold isN at h
    rw [if_neg (by simp)]
    congr 1
    symm
    rw [decide_eq_false_iff_not]
    omega
  · rw [fle_key ha (by omega) h (by unfold isN; omega), fle_key (by omega) ha (by unfold isN; omega) h]
    unfold isN at h
    have h1 : key 9218868437227405311 = 9218868437227405311 := by decide
    have h2 : key 18442240474082181119 = -9218868437227405311 := by decide
    rw [h1, h2]
    have hk : (a < 9223372036854775808 ∧ key a = (a : Int)) ∨ (9223372036854775808 ≤ a ∧ key a = -((a - 9223372036854775808 : Nat) : Int)) := by unfold key; split <;> omega
    generalize key a = q at *
    by_cases h3 : q ≤ 9218868437227405311
    · rw [if_pos (by simpa using h3)]
      congr 1
      exact decide_eq_decide.2 (by omega)
    · rw [if_neg (by simpa using h3)]
      congr 1
      symm
      rw [decide_eq_false_iff_not]
      omega
theorem rsign_f {a : Nat} (ha : a < 18446744073709551616) : beaconref05_sign.f a = some (decide (9223372036854775808 ≤ a)) := by
  unfold beaconref05_sign.f fbits
  congr 1
  rw [show ((((a : Nat) : Int) / 9223372036854775808) == 1) = decide (((a : Nat) : Int) / 9223372036854775808 = 1) from rfl]
  exact decide_eq_decide.2 (by omega)
theorem same_f (a b : Nat) : beaconref01_Same.f a b = some (decide (a = b)) := by
  unfold beaconref01_Same.f fbits
  congr 1
  rw [show (((a : Nat) : Int) == ((b : Nat) : Int)) = decide (((a : Nat) : Int) = ((b : Nat) : Int)) from rfl]
  exact decide_eq_decide.2 (by omega)

/-- May a gauge be? -/
def May (n : Int) (m v : Nat) : Prop := 0 ≤ n ∧ m < 9218868437227405312 ∧ v < 9218868437227405312 ∧ (n = 0 → m = 0 ∧ v = 0)
instance (n : Int) (m v : Nat) : Decidable (May n m v) := by unfold May; exact inferInstance
theorem check_f {n : Int} {m v : Nat} (hm : m < 18446744073709551616) (hv : v < 18446744073709551616) : gauge_Check.f n m v = some (if May n m v then 0 else 1) := by
  unfold gauge_Check.f
  by_cases h0 : n ≥ 0
  · rw [if_pos h0, finite_f hm, Option.bind_some]
    by_cases h1 : m % 9223372036854775808 < 9218868437227405312
    · rw [if_pos (by simpa using h1), finite_f hv, Option.bind_some]
      by_cases h2 : v % 9223372036854775808 < 9218868437227405312
      · rw [if_pos (by simpa using h2), signbit_f hm, Option.bind_some]
        by_cases h3 : 9223372036854775808 ≤ m
        · rw [if_pos (by simpa using h3), if_neg (by unfold May; omega)]
        · rw [if_neg (by simpa using h3), signbit_f hv, Option.bind_some]
          by_cases h4 : 9223372036854775808 ≤ v
          · rw [if_pos (by simpa using h4), if_neg (by unfold May; omega)]
          · rw [if_neg (by simpa using h4)]
            by_cases h5 : n = 0
            · rw [if_pos h5, feq_pos (by omega) (by omega), feq_pos (by omega) (by omega)]
              by_cases h6 : m = 0
              · rw [if_pos (by simpa using h6)]
                by_cases h7 : v = 0
                · rw [if_pos (by simpa using h7), if_pos (by unfold May; omega)]
                · rw [if_neg (by simpa using h7), if_neg (by unfold May; omega)]
              · rw [if_neg (by simpa using h6), if_neg (by unfold May; omega)]
            · rw [if_neg h5, if_pos (by unfold May; omega)]
      · rw [if_neg (by simpa using h2), if_neg (by unfold May; omega)]
    · rw [if_neg (by simpa using h1), if_neg (by unfold May; omega)]
  · rw [if_neg h0, if_neg (by unfold May; omega)]
theorem rcheck_j {k : Nat} {b : Bool} {n : Int} {m v : Nat} (hm : m < 18446744073709551616) (hv : v < 18446744073709551616) (hb : b = decide (n = 0 ∧ m = 0 ∧ v = 0)) : beaconref05_Check.j0 (k + 1) b n m v = some (if May n m v then 0 else 1) := by
  simp only [beaconref05_Check.j0]
  by_cases h : n = 0 ∧ m = 0 ∧ v = 0
  · rw [if_pos (by rw [hb]; simpa using h), if_pos (by unfold May; omega)]
  · rw [if_neg (by rw [hb]; simpa using h)]
    by_cases h0 : n < 1
    · rw [if_pos h0, if_neg (by unfold May; omega)]
    · rw [if_neg h0, rfinite_f hm, Option.bind_some]
      by_cases h1 : m % 9223372036854775808 < 9218868437227405312
      · rw [if_pos (by simpa using h1), rfinite_f hv, Option.bind_some]
        by_cases h2 : v % 9223372036854775808 < 9218868437227405312
        · rw [if_pos (by simpa using h2), rsign_f hm, Option.bind_some]
          by_cases h3 : 9223372036854775808 ≤ m
          · rw [if_pos (by simpa using h3), if_neg (by unfold May; omega)]
          · rw [if_neg (by simpa using h3), rsign_f hv, Option.bind_some]
            by_cases h4 : 9223372036854775808 ≤ v
            · rw [if_pos (by simpa using h4), if_neg (by unfold May; omega)]
            · rw [if_neg (by simpa using h4), if_pos (by unfold May; omega)]
        · rw [if_neg (by simpa using h2), if_neg (by unfold May; omega)]
      · rw [if_neg (by simpa using h1), if_neg (by unfold May; omega)]
theorem rcheck_f {k : Nat} {n : Int} {m v : Nat} (hm : m < 18446744073709551616) (hv : v < 18446744073709551616) : beaconref05_Check.f (k + 1) n m v = some (if May n m v then 0 else 1) := by
  unfold beaconref05_Check.f
  by_cases h : n = 0
  · rw [if_pos h, same_f, Option.bind_some]
    by_cases h1 : m = 0
    · rw [if_pos (by simpa using h1), same_f, Option.bind_some, rcheck_j hm hv]
      exact decide_eq_decide.2 (by omega)
    · rw [if_neg (by simpa using h1), rcheck_j hm hv]
      symm; rw [decide_eq_false_iff_not]; omega
  · rw [if_neg h, rcheck_j hm hv]
    symm; rw [decide_eq_false_iff_not]; omega

/-- May a sample be? -/
def MayS (a : Nat) : Prop := a < 9218868437227405312 ∨ a = 9223372036854775808
instance (a : Nat) : Decidable (MayS a) := by unfold MayS; exact inferInstance
theorem may_f {a : Nat} (ha : a < 18446744073709551616) : gauge_may.f a = some (decide (MayS a)) := by
  unfold gauge_may.f
  rw [finite_f ha, Option.bind_some]
  by_cases h1 : a % 9223372036854775808 < 9218868437227405312
  · rw [if_pos (by simpa using h1), fle_key (by omega) ha (by unfold isN; omega) (by unfold isN; omega)]
    congr 1
    refine decide_eq_decide.2 ?_
    unfold key MayS
    rw [if_pos (by omega)]
    split <;> omega
  · rw [if_neg (by simpa using h1)]
    congr 1
    symm; rw [decide_eq_false_iff_not]; unfold MayS; omega
theorem sample_f {k a : Nat} (ha : a < 18446744073709551616) : beaconref05_sample.f (k + 1) a = some (if MayS a then a % 9223372036854775808 else 0, decide (MayS a)) := by
  unfold beaconref05_sample.f
  rw [rfinite_f ha, Option.bind_some]
  simp only [beaconref05_sample.j0]
  by_cases h1 : a % 9223372036854775808 < 9218868437227405312
  · rw [if_pos (by simpa using h1), flt_key ha (by omega) (by unfold isN; omega) (by unfold isN; omega), feq_key ha (by omega) (by unfold isN; omega) (by unfold isN; omega)]
    have hk : key a = if a < 9223372036854775808 then (a : Int) else -((a - 9223372036854775808 : Nat) : Int) := rfl
    have h0 : key 0 = 0 := by decide
    rw [h0]
    by_cases h2 : MayS a
    · have h3 : ¬ key a < 0 := by unfold MayS at h2; rw [hk]; split <;> omega
      rw [if_neg (by simpa using h3), if_pos h2]
      unfold MayS at h2
      by_cases h4 : key a = 0
      · rw [if_pos (by simpa using h4)]
        have : a % 9223372036854775808 = 0 := by rw [hk] at h4; split at h4 <;> omega
        rw [this]; congr 2; symm; rw [decide_eq_true_eq]; exact h2
      · rw [if_neg (by simpa using h4)]
        have : a % 9223372036854775808 = a := by rw [hk] at h4; split at h4 <;> omega
        rw [this]; congr 2; symm; rw [decide_eq_true_eq]; exact h2
    · have h3 : key a < 0 := by unfold MayS at h2; rw [hk]; split <;> omega
      rw [if_pos (by simpa using h3), if_neg h2]
      congr 2; symm; rw [decide_eq_false_iff_not]; exact h2
  · rw [if_neg (by simpa using h1), if_pos trivial]
    have h2 : ¬ MayS a := by unfold MayS; omega
    rw [if_neg h2]
    congr 2; symm; rw [decide_eq_false_iff_not]; exact h2

/-- How far two finite floats, neither below nought, lie apart. -/
def apart (m s : Nat) : Nat := if s ≤ m then fsub m s else fsub s m
theorem apart_le {m s : Nat} (hm : m < 9218868437227405312) (hs : s < 9218868437227405312) : apart m s < 9218868437227405312 := by
  unfold apart
  split
  · rename_i h
    obtain ⟨d, _, _, h1, _, _, _, h2, _⟩ := fsub_spec hm hs h
    omega
  · rename_i h
    obtain ⟨d, _, _, h1, _, _, _, h2, _⟩ := fsub_spec hs hm (by omega)
    omega
theorem apart_prog {m s : Nat} (hm : m < 9218868437227405312) (hs : s < 9218868437227405312) : fsubOk m s = true ∧ math_Abs.f (fsub m s) = some (apart m s) := by
  unfold apart
  by_cases h : s ≤ m
  · obtain ⟨d, h1, _, h2, _, _, _, h3, _⟩ := fsub_spec hm hs h
    refine ⟨h1, ?_⟩
    rw [if_pos h, abs_f (by omega)]
    congr 1; omega
  · obtain ⟨d, _, h1, h2, h3, _, _, h4, _⟩ := fsub_spec hs hm (by omega)
    refine ⟨h1, ?_⟩
    have := h3 (by omega)
    rw [if_neg h, abs_f (by omega)]
    congr 1; omega
theorem apart_ref {m s : Nat} (hm : m < 9218868437227405312) (hs : s < 9218868437227405312) :
    fsubOk m s = true ∧ fsubOk s m = true ∧ (if flt (fsub m s) 0 = true then fsub s m else fsub m s) = apart m s := by
  unfold apart
  by_cases h : s ≤ m
  · obtain ⟨d, h1, h1', h2, _, _, _, h3, _⟩ := fsub_spec hm hs h
    refine ⟨h1, h1', ?_⟩
    rw [if_pos h, flt_pos (by omega) (by omega), if_neg (by simp)]
  · obtain ⟨d, h1', h1, h2, h3, _, h5, h4, _⟩ := fsub_spec hs hm (by omega)
    refine ⟨h1, h1', ?_⟩
    have h6 := h3 (by omega)
    have h7 := h5 (by omega)
    rw [if_neg h, flt_key (by omega) (by omega) (by unfold isN; omega) (by unfold isN; omega)]
    have : key (fsub m s) < key 0 := by unfold key; rw [if_neg (by omega), if_pos (by omega)]; omega
    rw [if_pos (by simpa using this)]

/-- What a gauge that may be and a sample's size come to. -/
def Fed (n : Int) (m v s : Nat) : Int × Nat × Nat :=
  if n = 0 then (1, s, fdiv s 4611686018427387904) else
    (if n < 9223372036854775807 then n + 1 else n, fadd (fmul m 4606056518893174784) (fmul s 4593671619917905920), fadd (fmul v 4604930618986332160) (fmul (apart m s) 4598175219545276416))
theorem oks {m v s : Nat} (hm : m < 9218868437227405312) (hv : v < 9218868437227405312) (hs : s < 9218868437227405312) :
    fmulOk v 4604930618986332160 = true ∧ fmulOk (apart m s) 4598175219545276416 = true ∧ faddOk (fmul v 4604930618986332160) (fmul (apart m s) 4598175219545276416) = true ∧
    fmulOk m 4606056518893174784 = true ∧ fmulOk s 4593671619917905920 = true ∧ faddOk (fmul m 4606056518893174784) (fmul s 4593671619917905920) = true := by
  have ha := apart_le hm hs
  obtain ⟨h1, h2⟩ := fmul_fin hv (b := 4604930618986332160) (by omega)
  obtain ⟨h3, h4⟩ := fmul_fin ha (b := 4598175219545276416) (by omega)
  obtain ⟨h5, h6⟩ := fmul_fin hm (b := 4606056518893174784) (by omega)
  obtain ⟨h7, h8⟩ := fmul_fin hs (b := 4593671619917905920) (by omega)
  exact ⟨h1, h3, (fadd_ok h2 h4).1, h5, h7, (fadd_ok h6 h8).1⟩
theorem feed_f {n : Int} {m v a : Nat} (hn : n ≤ 9223372036854775807) (hm : m < 18446744073709551616) (hv : v < 18446744073709551616) (ha : a < 18446744073709551616) :
    gauge_Feed.f n m v a = some (if May n m v then (if MayS a then ((Fed n m v (a % 9223372036854775808)).1, (Fed n m v (a % 9223372036854775808)).2.1, (Fed n m v (a % 9223372036854775808)).2.2, 0) else (0, 0, 0, 50)) else (0, 0, 0, 1)) := by
  unfold gauge_Feed.f
  rw [check_f hm hv, Option.bind_some]
  by_cases h0 : May n m v
  · rw [if_pos h0, if_pos rfl, if_pos h0, may_f ha, Option.bind_some]
    by_cases h1 : MayS a
    · rw [if_pos (by simpa using h1), if_pos h1, abs_f ha, Option.bind_some]
      have hs : a % 9223372036854775808 < 9218868437227405312 := by unfold MayS at h1; omega
      generalize a % 9223372036854775808 = s at *
      obtain ⟨h00, hm', hv', _⟩ := h0
      obtain ⟨o1, o2, o3, o4, o5, o6⟩ := oks hm' hv' hs
      obtain ⟨p1, p2⟩ := apart_prog hm' hs
      unfold Fed
      by_cases h2 : n = 0
      · rw [if_pos h2, if_pos (fdiv_ok2 hs).1, if_pos h2]
      · rw [if_neg h2, if_neg h2]
        by_cases h3 : n < 9223372036854775807
        · rw [if_pos h3, if_pos p1, p2, Option.bind_some, if_pos o1, if_pos o2, if_pos o3, if_pos o4, if_pos o5, if_pos o6, if_pos h3]
          have : wrap64 (n + 1) = n + 1 := by unfold wrap64; omega
          rw [this]
        · rw [if_neg h3, if_pos p1, p2, Option.bind_some, if_pos o1, if_pos o2, if_pos o3, if_pos o4, if_pos o5, if_pos o6, if_neg h3]
    · rw [if_neg (by simpa using h1), if_neg h1]
  · rw [if_neg h0, if_neg (by decide), if_neg h0]
theorem rfeed_f {k : Nat} {n : Int} {m v a : Nat} (hn : n ≤ 9223372036854775807) (hm : m < 18446744073709551616) (hv : v < 18446744073709551616) (ha : a < 18446744073709551616) :
    beaconref05_Feed.f (k + 1) n m v a = some (if May n m v then (if MayS a then ((Fed n m v (a % 9223372036854775808)).1, (Fed n m v (a % 9223372036854775808)).2.1, (Fed n m v (a % 9223372036854775808)).2.2, 0) else (0, 0, 0, 50)) else (0, 0, 0, 1)) := by
  unfold beaconref05_Feed.f
  rw [rcheck_f hm hv, Option.bind_some]
  by_cases h0 : May n m v
  · rw [if_pos h0, if_pos rfl, if_pos h0, sample_f ha, Option.bind_some]
    by_cases h1 : MayS a
    · simp only [if_pos h1, decide_eq_true h1, if_true]
      have hs : a % 9223372036854775808 < 9218868437227405312 := by unfold MayS at h1; omega
      generalize a % 9223372036854775808 = s at *
      obtain ⟨h00, hm', hv', _⟩ := h0
      obtain ⟨o1, o2, o3, o4, o5, o6⟩ := oks hm' hv' hs
      obtain ⟨p1, p2, p3⟩ := apart_ref hm' hs
      rw [(fmul_comm 4604930618986332160 v).1, (fmul_comm 4604930618986332160 v).2, (fmul_comm 4606056518893174784 m).1, (fmul_comm 4606056518893174784 m).2, (fmul_comm 4593671619917905920 s).1, (fmul_comm 4593671619917905920 s).2,
        (fmul_comm 4598175219545276416 (fsub s m)).1, (fmul_comm 4598175219545276416 (fsub s m)).2, (fmul_comm 4598175219545276416 (fsub m s)).1, (fmul_comm 4598175219545276416 (fsub m s)).2]
      unfold Fed
      by_cases h2 : n = 0
      · rw [if_pos h2, if_pos (fdiv_ok2 hs).1, if_pos h2]
      · rw [if_neg h2, if_neg h2]
        have hw : n < 9223372036854775807 → wrap64 (n + 1) = n + 1 := fun h => by unfold wrap64; omega
        by_cases h3 : n < 9223372036854775807
        · rw [if_pos h3, if_pos p1, if_pos h3, hw h3]
          by_cases h4 : flt (fsub m s) 0 = true
          · rw [if_pos h4] at p3
            rw [if_pos h4, if_pos p2, p3, if_pos o1, if_pos o2, if_pos o3, if_pos o4, if_pos o5, if_pos o6]
          · rw [if_neg h4] at p3
            rw [if_neg h4, p3, if_pos o1, if_pos o2, if_pos o3, if_pos o4, if_pos o5, if_pos o6]
        · rw [if_neg h3, if_pos p1, if_neg h3]
          by_cases h4 : flt (fsub m s) 0 = true
          · rw [if_pos h4] at p3
            rw [if_pos h4, if_pos p2, p3, if_pos o1, if_pos o2, if_pos o3, if_pos o4, if_pos o5, if_pos o6]
          · rw [if_neg h4] at p3
            rw [if_neg h4, p3, if_pos o1, if_pos o2, if_pos o3, if_pos o4, if_pos o5, if_pos o6]
    · simp only [if_neg h1, decide_eq_false h1, Bool.false_eq_true, if_false]
  · rw [if_neg h0, if_neg (by decide), if_neg h0]
theorem gsame_f (n n' : Int) (m m' v v' : Nat) : beaconref05_Same.f n m v n' m' v' = some (decide (n = n' ∧ m = m' ∧ v = v')) := by
  unfold beaconref05_Same.f
  by_cases h : n = n'
  · rw [if_pos h, same_f, Option.bind_some]
    by_cases h1 : m = m'
    · rw [if_pos (by simpa using h1), same_f, Option.bind_some]
      congr 1; exact decide_eq_decide.2 (by omega)
    · rw [if_neg (by simpa using h1)]
      congr 1; symm; rw [decide_eq_false_iff_not]; omega
  · rw [if_neg h]
    congr 1; symm; rw [decide_eq_false_iff_not]; omega
theorem half8 : fdiv 4620693217682128896 4611686018427387904 = 4616189618054758400 := by unfold fdiv; decide +kernel
theorem awake_f : beaconlaw05_awake.f = some true := by
  unfold beaconlaw05_awake.f
  rw [feed_f (by omega) (by omega) (by omega) (by omega), Option.bind_some]
  have h1 : May 0 0 0 := by unfold May; omega
  have h2 : MayS 4620693217682128896 := by unfold MayS; omega
  have h3 : 4620693217682128896 % 9223372036854775808 = 4620693217682128896 := by decide
  rw [if_pos h1, if_pos h2, h3]
  unfold Fed
  rw [if_pos rfl, half8]
  simp only [if_true]
  rw [feq_pos (by omega) (by omega), feq_pos (by omega) (by omega)]
  rfl
end Go.Proofs.Ytajejidnidomgaa.RA
