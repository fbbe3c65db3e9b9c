/- What the operations of float64 are, over its bits as natural numbers: plain laws. -/
import Derived.Test.YtpcgjdllgdkobaaWFloat
namespace Go.Proofs.YtpcgjdllgdkobaaW.PrintWords
/-- The rungs' values, in units of 2^-1074. -/
def va (r : Nat) : Nat := if r < 4503599627370496 then r else (4503599627370496 + r % 4503599627370496) * 2 ^ (r / 4503599627370496 - 1)
theorem va_small {r : Nat} (h : r ≤ 9007199254740992) : va r = r := by
  unfold va
  split
  · rfl
  · by_cases h2 : r = 9007199254740992
    · subst h2; rfl
    · have h3 : r / 4503599627370496 = 1 := by omega
      have h4 : 4503599627370496 + r % 4503599627370496 = r := by omega
      rw [h3, h4]; simp
theorem va_big {q m : Nat} (hm : m < 4503599627370496) : va ((q + 1) * 4503599627370496 + m) = (4503599627370496 + m) * 2 ^ q := by
  unfold va
  have h1 : ¬ ((q + 1) * 4503599627370496 + m < 4503599627370496) := by omega
  have h2 : ((q + 1) * 4503599627370496 + m) % 4503599627370496 = m := by omega
  have h3 : ((q + 1) * 4503599627370496 + m) / 4503599627370496 = q + 1 := by omega
  rw [if_neg h1, h2, h3]; rfl
theorem va_split (r : Nat) (h : 4503599627370496 ≤ r) : ∃ q m, m < 4503599627370496 ∧ r = (q + 1) * 4503599627370496 + m ∧ va r = (4503599627370496 + m) * 2 ^ q := by
  refine ⟨r / 4503599627370496 - 1, r % 4503599627370496, by omega, by omega, ?_⟩
  have := va_big (q := r / 4503599627370496 - 1) (m := r % 4503599627370496) (by omega)
  rw [← this]
  congr 1
  omega
theorem va_lt {r s : Nat} (h : r < s) : va r < va s := by
  by_cases hs : s ≤ 9007199254740992
  · rw [va_small hs, va_small (by omega)]; exact h
  · obtain ⟨q, m, hm, hs1, hs2⟩ := va_split s (by omega)
    by_cases hr : r < 4503599627370496
    · rw [va_small (by omega), hs2]
      have : 1 ≤ 2 ^ q := Nat.one_le_two_pow
      calc r < 4503599627370496 * 1 := by omega
        _ ≤ (4503599627370496 + m) * 2 ^ q := Nat.mul_le_mul (by omega) this
    · obtain ⟨p, n, hn, hr1, hr2⟩ := va_split r (by omega)
      rw [hr2, hs2]
      have hpq : p ≤ q := by omega
      rcases Nat.lt_or_eq_of_le hpq with hlt | heq
      · obtain ⟨d, rfl⟩ : ∃ d, q = p + 1 + d := ⟨q - p - 1, by omega⟩
        calc (4503599627370496 + n) * 2 ^ p < 9007199254740992 * 2 ^ p := Nat.mul_lt_mul_of_pos_right (by omega) (Nat.two_pow_pos p)
          _ = 4503599627370496 * 2 ^ (p + 1) := by rw [Nat.pow_succ]; omega
          _ ≤ 4503599627370496 * 2 ^ (p + 1 + d) := Nat.mul_le_mul_left _ (Nat.pow_le_pow_right (by decide) (by omega))
          _ ≤ (4503599627370496 + m) * 2 ^ (p + 1 + d) := Nat.mul_le_mul_right _ (by omega)
      · subst heq
        exact Nat.mul_lt_mul_of_pos_right (by omega) (Nat.two_pow_pos p)
theorem va_le {r s : Nat} (h : r ≤ s) : va r ≤ va s := by
  rcases Nat.lt_or_eq_of_le h with h | h
  · exact Nat.le_of_lt (va_lt h)
  · subst h; exact Nat.le_refl _
theorem lt_of_va {r s : Nat} (h : va r < va s) : r < s := by
  rcases Nat.lt_or_ge r s with h1 | h1
  · exact h1
  · have := va_le h1; omega
theorem le_of_va {r s : Nat} (h : va r ≤ va s) : r ≤ s := by
  rcases Nat.lt_or_ge s r with h1 | h1
  · have := va_lt h1; omega
  · exact h1

/-! ### words -/
/-- A finite word's parts: sign, digits, place. -/
def mg (r : Nat) : Nat := if r < 4503599627370496 then r else 4503599627370496 + r % 4503599627370496
def pl (r : Nat) : Nat := if r < 4503599627370496 then 0 else r / 4503599627370496 - 1
theorem va_eq (r : Nat) : va r = mg r * 2 ^ pl r := by
  unfold va mg pl
  split <;> simp
theorem fmt : FloatKind.f64.format = Ieee.double := rfl
theorem sw : Ieee.double.signWeight = 9223372036854775808 := by decide
theorem bn : Ieee.double.binade = 4503599627370496 := by decide
theorem ir : Ieee.double.infRung = 9218868437227405312 := by decide
theorem lp : Ieee.double.leastPlace = -1074 := by decide
theorem read_fin {b : Nat} (s : Bool) (hs : (b / 9223372036854775808 % 2 == 1) = s) (h : b % 9223372036854775808 < 9218868437227405312) :
    Ieee.double.read b = .number s (mg (b % 9223372036854775808)) (-1074 + (pl (b % 9223372036854775808) : Nat)) := by
  unfold Ieee.Format.read
  simp only [sw, bn, ir, lp, hs]
  unfold mg pl
  split
  · rename_i h1
    simp
  · simp
theorem read_inf {b : Nat} (s : Bool) (hs : (b / 9223372036854775808 % 2 == 1) = s) (h : b % 9223372036854775808 = 9218868437227405312) : Ieee.double.read b = .infinity s := by
  unfold Ieee.Format.read
  simp only [sw, bn, ir, lp, hs, h]
  rfl
theorem read_nan {b : Nat} (s : Bool) (hs : (b / 9223372036854775808 % 2 == 1) = s) (h : 9218868437227405312 < b % 9223372036854775808) : Ieee.double.read b = .nan s (b % 9223372036854775808 - 9218868437227405312) := by
  unfold Ieee.Format.read
  simp only [sw, bn, ir, lp, hs]
  rw [if_neg (by omega), if_neg (by omega), if_neg (by omega)]
theorem read_pos {b : Nat} (h : b < 9218868437227405312) : Ieee.double.read b = .number false (mg b) (-1074 + (pl b : Nat)) := by
  have h2 : b % 9223372036854775808 = b := by omega
  have h1 : (b / 9223372036854775808 % 2 == 1) = false := by
    have : b / 9223372036854775808 = 0 := by omega
    rw [this]; rfl
  have := read_fin (b := b) false h1 (by omega)
  rw [h2] at this
  exact this
theorem read_pinf : Ieee.double.read 9218868437227405312 = .infinity false := by decide +kernel

/-! ### rounding -/
theorem cut_le (neg : Bool) {n drop t : Nat} (h : n ≤ t * 2 ^ drop) : Ieee.Toward.even.cut neg n drop ≤ t := by
  unfold Ieee.Toward.cut
  simp only [Nat.one_shiftLeft]
  rcases Nat.le_total drop (n.log2 + 2) with hk | hk
  · rw [Nat.min_eq_left hk]
    have hp := Nat.two_pow_pos drop
    generalize 2 ^ drop = g at *
    have hd : n / g ≤ t := Nat.div_le_of_le_mul (by rw [Nat.mul_comm]; exact h)
    rcases Nat.lt_or_eq_of_le hd with h1 | h1
    · have : ∀ b : Bool, n / g + b.toNat ≤ t := fun b => by cases b <;> simp <;> omega
      exact this _
    · have h2 : n % g = 0 := by
        have := Nat.div_add_mod n g
        rw [h1, Nat.mul_comm] at this
        omega
      rw [h2]
      have h3 : (decide (g < 2 * 0) || (g == 2 * 0 && n / g % 2 == 1)) = false := by
        have : ¬ (g == 0) = true := by simp; omega
        simp [this]
      rw [h3]
      simp [h1]
  · rw [Nat.min_eq_right hk]
    by_cases h0 : n = 0
    · subst h0; simp
    · have h1 : n < 2 ^ (n.log2 + 1) := Nat.lt_log2_self
      have h2 : 2 ^ (n.log2 + 2) = 2 * 2 ^ (n.log2 + 1) := by rw [Nat.pow_succ]; omega
      rw [h2]
      generalize 2 ^ (n.log2 + 1) = g at *
      have h3 : n / (2 * g) = 0 := Nat.div_eq_of_lt (by omega)
      have h4 : n % (2 * g) = n := Nat.mod_eq_of_lt (by omega)
      rw [h3, h4]
      have h5 : (decide (2 * g < 2 * n) || (2 * g == 2 * n && 0 % 2 == 1)) = false := by simp; omega
      rw [h5]
      simp
theorem le_cut (neg : Bool) {n drop t : Nat} (h : t * 2 ^ drop ≤ n) : t ≤ Ieee.Toward.even.cut neg n drop := by
  unfold Ieee.Toward.cut
  simp only [Nat.one_shiftLeft]
  rcases Nat.le_total drop (n.log2 + 2) with hk | hk
  · rw [Nat.min_eq_left hk]
    have hd : t ≤ n / 2 ^ drop := (Nat.le_div_iff_mul_le (Nat.two_pow_pos drop)).2 h
    omega
  · have h1 : n < 2 ^ (n.log2 + 1) := Nat.lt_log2_self
    have h2 : 2 ^ (n.log2 + 1) ≤ 2 ^ drop := Nat.pow_le_pow_right (by decide) (by omega)
    have h3 : t = 0 := by
      rcases Nat.eq_zero_or_pos t with h3 | h3
      · exact h3
      · have : 1 * 2 ^ drop ≤ t * 2 ^ drop := Nat.mul_le_mul_right _ h3
        omega
    subst h3
    exact Nat.zero_le _
/-- The rung that a number is rounded to. -/
def rn (mag : Nat) (place : Int) : Nat := if mag = 0 then 0 else
  min ((max (place + mag.log2 - 52) (-1074) + 1074).toNat * 4503599627370496 + Ieee.Toward.even.cut false (mag <<< (place - max (place + mag.log2 - 52) (-1074)).toNat) (max (place + mag.log2 - 52) (-1074) - place).toNat) 9218868437227405312
theorem cut_neg (neg : Bool) (n drop : Nat) : Ieee.Toward.even.cut neg n drop = Ieee.Toward.even.cut false n drop := rfl
theorem nearest_rn (neg : Bool) (mag : Nat) (place : Int) : Ieee.double.nearest neg mag place = Ieee.double.word neg (rn mag place) := by
  unfold Ieee.Format.nearest rn
  have hf : Ieee.double.fractionBits = 52 := rfl
  simp only [hf, lp, bn, ir]
  split
  · rfl
  · congr 1
theorem rn_inf (mag : Nat) (place : Int) : rn mag place ≤ 9218868437227405312 := by
  unfold rn
  split
  · omega
  · exact Nat.min_le_right _ _
theorem round_le {X u e kept r : Nat} (hu : 0 < u) (hR1 : ∀ t, X ≤ t * (2 ^ e * u) → kept ≤ t) (hlt : X ≤ 9007199254740992 * (2 ^ e * u)) (hge : e = 0 ∨ 4503599627370496 * (2 ^ e * u) ≤ X) (h : X ≤ va r * u) : e * 4503599627370496 + kept ≤ r := by
  have hk := hR1 _ hlt
  rcases hge with he | hge
  · subst he
    by_cases hr : r ≤ 9007199254740992
    · rw [va_small hr] at h
      have := hR1 r (by simpa using h)
      omega
    · omega
  · have h1 : 4503599627370496 * 2 ^ e ≤ va r := by
      have h2 : 4503599627370496 * 2 ^ e * u ≤ va r * u := by rw [Nat.mul_assoc]; exact Nat.le_trans hge h
      exact Nat.le_of_mul_le_mul_right h2 hu
    have h3 := va_big (q := e) (m := 0) (by decide)
    rw [Nat.add_zero, Nat.add_zero] at h3
    have h4 : (e + 1) * 4503599627370496 ≤ r := le_of_va (by rw [h3]; exact h1)
    obtain ⟨q, m, hm, hr1, hr2⟩ := va_split r (by omega)
    have hqe : e ≤ q := by omega
    rcases Nat.lt_or_eq_of_le hqe with h5 | h5
    · omega
    · subst h5
      have := hR1 (4503599627370496 + m) (by rw [← Nat.mul_assoc, ← hr2]; exact h)
      omega
theorem round_ge {X u e kept r : Nat} (hR2 : ∀ t, t * (2 ^ e * u) ≤ X → t ≤ kept) (hlt : X < 9007199254740992 * (2 ^ e * u)) (hge : e = 0 ∨ 4503599627370496 * (2 ^ e * u) ≤ X) (h : va r * u ≤ X) : r ≤ e * 4503599627370496 + kept := by
  have h1 : va r < 9007199254740992 * 2 ^ e := by
    have h2 : va r * u < 9007199254740992 * 2 ^ e * u := by rw [Nat.mul_assoc]; omega
    exact Nat.lt_of_mul_lt_mul_right h2
  rcases hge with he | hge
  · subst he
    have h3 : r < 9007199254740992 := lt_of_va (by rw [va_small (r := 9007199254740992) (Nat.le_refl _)]; simpa using h1)
    rw [va_small (by omega)] at h
    have := hR2 r (by simpa using h)
    omega
  · have h3 := va_big (q := e + 1) (m := 0) (by decide)
    rw [Nat.add_zero, Nat.add_zero] at h3
    have h4 : r < (e + 1 + 1) * 4503599627370496 := lt_of_va (by rw [h3, Nat.pow_succ]; omega)
    have hk := hR2 _ hge
    by_cases h5 : r < (e + 1) * 4503599627370496
    · omega
    · obtain ⟨q, m, hm, hr1, hr2⟩ := va_split r (by omega)
      have : q = e := by omega
      subst this
      have := hR2 (4503599627370496 + m) (by rw [← Nat.mul_assoc, ← hr2]; exact h)
      omega
/-- What the rounding sees of a number: its place among the rungs' values, with a common unit. -/
theorem rn_parts {mag : Nat} {place : Int} (K : Nat) (hK : 1074 ≤ K) (hp : 0 ≤ place + K) (hm : mag ≠ 0) :
    ∃ e kept, rn mag place = min (e * 4503599627370496 + kept) 9218868437227405312 ∧
      (∀ t, mag * 2 ^ (place + K).toNat ≤ t * (2 ^ e * 2 ^ (K - 1074)) → kept ≤ t) ∧ (∀ t, t * (2 ^ e * 2 ^ (K - 1074)) ≤ mag * 2 ^ (place + K).toNat → t ≤ kept) ∧
      mag * 2 ^ (place + K).toNat < 9007199254740992 * (2 ^ e * 2 ^ (K - 1074)) ∧ (e = 0 ∨ 4503599627370496 * (2 ^ e * 2 ^ (K - 1074)) ≤ mag * 2 ^ (place + K).toNat) := by
  obtain ⟨P, hP⟩ : ∃ P : Nat, (P : Int) = place + K := ⟨(place + K).toNat, by omega⟩
  have hP' : (place + K).toNat = P := by omega
  rw [hP']
  obtain ⟨D, hD⟩ : ∃ D : Nat, K = D + 1074 := ⟨K - 1074, by omega⟩
  have hD' : K - 1074 = D := by omega
  rw [hD']
  have h2l : 2 ^ mag.log2 ≤ mag := Nat.log2_self_le hm
  have h2u : mag < 2 ^ (mag.log2 + 1) := Nat.lt_log2_self
  unfold rn
  rw [if_neg hm]
  generalize mag.log2 = L at *
  obtain ⟨e, he⟩ : ∃ e : Nat, (e : Int) = max (place + L - 52) (-1074) + 1074 := ⟨(max (place + L - 52) (-1074) + 1074).toNat, by omega⟩
  have hl : max (place + L - 52) (-1074) = (e : Int) - 1074 := by omega
  rw [hl]
  have he' : ((e : Int) - 1074 + 1074).toNat = e := by omega
  rw [he']
  refine ⟨e, _, rfl, ?_, ?_, ?_, ?_⟩
  · intro t ht
    rw [← Nat.pow_add] at ht
    refine cut_le _ ?_
    rw [Nat.shiftLeft_eq]
    rcases Int.le_total ((e : Int) - 1074) place with hc | hc
    · have h1 : ((e : Int) - 1074 - place).toNat = 0 := by omega
      have h2 : P = (e + D) + (place - ((e : Int) - 1074)).toNat := by omega
      rw [h1]
      rw [h2, Nat.pow_add 2 (e + D), Nat.mul_comm (2 ^ (e + D)), ← Nat.mul_assoc] at ht
      simpa using Nat.le_of_mul_le_mul_right ht (Nat.two_pow_pos _)
    · have h1 : (place - ((e : Int) - 1074)).toNat = 0 := by omega
      have h2 : e + D = P + ((e : Int) - 1074 - place).toNat := by omega
      rw [h1]
      rw [h2, Nat.pow_add 2 P, Nat.mul_comm (2 ^ P) (2 ^ _), ← Nat.mul_assoc] at ht
      simpa using Nat.le_of_mul_le_mul_right ht (Nat.two_pow_pos _)
  · intro t ht
    rw [← Nat.pow_add] at ht
    refine le_cut _ ?_
    rw [Nat.shiftLeft_eq]
    rcases Int.le_total ((e : Int) - 1074) place with hc | hc
    · have h1 : ((e : Int) - 1074 - place).toNat = 0 := by omega
      have h2 : P = (e + D) + (place - ((e : Int) - 1074)).toNat := by omega
      rw [h1]
      rw [h2, Nat.pow_add 2 (e + D), Nat.mul_comm (2 ^ (e + D)), ← Nat.mul_assoc] at ht
      simpa using Nat.le_of_mul_le_mul_right ht (Nat.two_pow_pos _)
    · have h1 : (place - ((e : Int) - 1074)).toNat = 0 := by omega
      have h2 : e + D = P + ((e : Int) - 1074 - place).toNat := by omega
      rw [h1]
      rw [h2, Nat.pow_add 2 P, Nat.mul_comm (2 ^ P) (2 ^ _), ← Nat.mul_assoc] at ht
      simpa using Nat.le_of_mul_le_mul_right ht (Nat.two_pow_pos _)
  · have h1 : L + 1 + P ≤ 53 + (e + D) := by omega
    have h3 : (9007199254740992 : Nat) = 2 ^ 53 := by decide
    rw [h3, ← Nat.pow_add, ← Nat.pow_add]
    calc mag * 2 ^ P < 2 ^ (L + 1) * 2 ^ P := Nat.mul_lt_mul_of_pos_right h2u (Nat.two_pow_pos _)
      _ = 2 ^ (L + 1 + P) := (Nat.pow_add _ _ _).symm
      _ ≤ 2 ^ (53 + (e + D)) := Nat.pow_le_pow_right (by decide) h1
  · rcases Nat.eq_zero_or_pos e with h0 | h0
    · exact .inl h0
    · right
      have h1 : 52 + (e + D) = L + P := by omega
      have h3 : (4503599627370496 : Nat) = 2 ^ 52 := by decide
      rw [h3, ← Nat.pow_add, ← Nat.pow_add, h1, Nat.pow_add]
      exact Nat.mul_le_mul_right _ h2l
theorem rn_le {mag : Nat} {place : Int} {r : Nat} (K : Nat) (hK : 1074 ≤ K) (hp : 0 ≤ place + K) (h : mag * 2 ^ (place + K).toNat ≤ va r * 2 ^ (K - 1074)) : rn mag place ≤ r := by
  by_cases hm : mag = 0
  · unfold rn; rw [if_pos hm]; exact Nat.zero_le _
  · obtain ⟨e, kept, hr, h1, _, h3, h4⟩ := rn_parts K hK hp hm
    rw [hr]
    exact Nat.le_trans (Nat.min_le_left _ _) (round_le (Nat.two_pow_pos _) h1 (Nat.le_of_lt h3) h4 h)
theorem le_rn {mag : Nat} {place : Int} {r : Nat} (K : Nat) (hK : 1074 ≤ K) (hp : 0 ≤ place + K) (hr : r ≤ 9218868437227405312) (h : va r * 2 ^ (K - 1074) ≤ mag * 2 ^ (place + K).toNat) : r ≤ rn mag place := by
  by_cases hm : mag = 0
  · subst hm
    rw [Nat.zero_mul] at h
    have h1 : va r = 0 := by
      rcases Nat.eq_zero_or_pos (va r) with h1 | h1
      · exact h1
      · have := Nat.mul_pos h1 (Nat.two_pow_pos (K - 1074)); omega
    have : r ≤ 0 := le_of_va (by rw [h1]; exact Nat.zero_le _)
    omega
  · obtain ⟨e, kept, hr', _, h2, h3, h4⟩ := rn_parts K hK hp hm
    rw [hr']
    exact Nat.le_min.2 ⟨round_ge h2 h3 h4 h, hr⟩

/-! ### order -/
/-- A word's place in the order: no NaN's. -/
def key (a : Nat) : Int := if a < 9223372036854775808 then (a : Int) else -((a - 9223372036854775808 : Nat) : Int)
def isN (a : Nat) : Prop := 9218868437227405312 < a % 9223372036854775808
theorem cmp_congr {a b c d : Int} (h1 : a < b ↔ c < d) (h2 : a = b ↔ c = d) : compare a b = compare c d := by
  show compareOfLessAndEq a b = compareOfLessAndEq c d
  unfold compareOfLessAndEq
  simp [h1, h2]
theorem cmp_of_lt {a b : Int} (h : a < b) : compare a b = .lt := by
  show compareOfLessAndEq a b = _
  unfold compareOfLessAndEq
  simp [h]
theorem cmp_of_gt {a b : Int} (h : b < a) : compare a b = .gt := by
  show compareOfLessAndEq a b = _
  unfold compareOfLessAndEq
  have h1 : ¬ a < b := by omega
  have h2 : ¬ a = b := by omega
  simp [h1, h2]
theorem cmp_of_eq {a b : Int} (h : a = b) : compare a b = .eq := by
  show compareOfLessAndEq a b = _
  unfold compareOfLessAndEq
  simp [h]
theorem signed_val (s : Bool) (r : Nat) (c : Nat) (hc : c ≤ pl r) : Ieee.signed s (mg r) ((-1074 + (pl r : Nat) : Int) - (-1074 + (c : Nat) : Int)).toNat * ((2 ^ c : Nat) : Int) = if s then -((va r : Nat) : Int) else ((va r : Nat) : Int) := by
  have h1 : ((-1074 + (pl r : Nat) : Int) - (-1074 + (c : Nat) : Int)).toNat = pl r - c := by omega
  have h2 : (mg r <<< (pl r - c)) * 2 ^ c = va r := by
    rw [va_eq, Nat.shiftLeft_eq, Nat.mul_assoc, ← Nat.pow_add, Nat.sub_add_cancel hc]
  rw [h1]
  unfold Ieee.signed
  cases s
  · simp only [Bool.false_eq_true, if_false]
    rw [← h2]; simp
  · simp only [if_true]
    rw [← h2, Int.neg_mul]; simp
theorem sgn_lt {s t : Bool} {r q : Nat} : (if s then -((va r : Nat) : Int) else ((va r : Nat) : Int)) < (if t then -((va q : Nat) : Int) else ((va q : Nat) : Int)) ↔ (if s then -((r : Nat) : Int) else ((r : Nat) : Int)) < (if t then -((q : Nat) : Int) else ((q : Nat) : Int)) := by
  have h0 : va 0 = 0 := va_small (by omega)
  have h1 : va r < va q ↔ r < q := ⟨lt_of_va, va_lt⟩
  have h2 : va q < va r ↔ q < r := ⟨lt_of_va, va_lt⟩
  have h3 : 0 < va r ↔ 0 < r := by rw [← h0]; exact ⟨lt_of_va, va_lt⟩
  have h4 : 0 < va q ↔ 0 < q := by rw [← h0]; exact ⟨lt_of_va, va_lt⟩
  cases s <;> cases t <;> simp only [Bool.false_eq_true, if_false, if_true] <;> omega
theorem sgn_eq {s t : Bool} {r q : Nat} : (if s then -((va r : Nat) : Int) else ((va r : Nat) : Int)) = (if t then -((va q : Nat) : Int) else ((va q : Nat) : Int)) ↔ (if s then -((r : Nat) : Int) else ((r : Nat) : Int)) = (if t then -((q : Nat) : Int) else ((q : Nat) : Int)) := by
  have h0 : va 0 = 0 := va_small (by omega)
  have h1 : va r < va q ↔ r < q := ⟨lt_of_va, va_lt⟩
  have h2 : va q < va r ↔ q < r := ⟨lt_of_va, va_lt⟩
  have h3 : 0 < va r ↔ 0 < r := by rw [← h0]; exact ⟨lt_of_va, va_lt⟩
  have h4 : 0 < va q ↔ 0 < q := by rw [← h0]; exact ⟨lt_of_va, va_lt⟩
  cases s <;> cases t <;> simp only [Bool.false_eq_true, if_false, if_true] <;> omega
theorem order_num (s t : Bool) (r q : Nat) : Ieee.Datum.order (.number s (mg r) (-1074 + (pl r : Nat))) (.number t (mg q) (-1074 + (pl q : Nat))) = some (compare (if s then -((r : Nat) : Int) else ((r : Nat) : Int)) (if t then -((q : Nat) : Int) else ((q : Nat) : Int))) := by
  unfold Ieee.Datum.order
  simp only
  have hb : min (-1074 + (pl r : Nat) : Int) (-1074 + (pl q : Nat) : Int) = -1074 + ((min (pl r) (pl q) : Nat) : Int) := by omega
  rw [hb]
  have h1 := signed_val s r (min (pl r) (pl q)) (Nat.min_le_left _ _)
  have h2 := signed_val t q (min (pl r) (pl q)) (Nat.min_le_right _ _)
  have hp : (0 : Int) < ((2 ^ min (pl r) (pl q) : Nat) : Int) := by have := Nat.two_pow_pos (min (pl r) (pl q)); omega
  generalize ((2 ^ min (pl r) (pl q) : Nat) : Int) = c at *
  congr 1
  refine cmp_congr ?_ ?_
  · rw [← sgn_lt, ← h1, ← h2]
    exact ⟨fun h => Int.mul_lt_mul_of_pos_right h hp, fun h => Int.lt_of_mul_lt_mul_right h (Int.le_of_lt hp)⟩
  · rw [← sgn_eq, ← h1, ← h2]
    exact ⟨fun h => by rw [h], fun h => Int.eq_of_mul_eq_mul_right (by omega) h⟩
/-- A word that is no NaN: its sign and its rung. -/
theorem word_cases {a : Nat} (ha : a < 18446744073709551616) (hn : ¬ isN a) : ∃ (s : Bool) (r : Nat), a = (if s then 9223372036854775808 + r else r) ∧ r ≤ 9218868437227405312 ∧ key a = (if s then -((r : Nat) : Int) else ((r : Nat) : Int)) ∧
    ((r < 9218868437227405312 ∧ Ieee.double.read a = .number s (mg r) (-1074 + (pl r : Nat))) ∨ (r = 9218868437227405312 ∧ Ieee.double.read a = .infinity s)) := by
  unfold isN at hn
  by_cases h : a < 9223372036854775808
  · have h2 : a % 9223372036854775808 = a := by omega
    have h1 : (a / 9223372036854775808 % 2 == 1) = false := by
      have : a / 9223372036854775808 = 0 := by omega
      rw [this]; rfl
    refine ⟨false, a, by simp, by omega, by unfold key; simp [h], ?_⟩
    by_cases h3 : a < 9218868437227405312
    · have := read_fin (b := a) false h1 (by omega)
      rw [h2] at this
      exact .inl ⟨h3, this⟩
    · exact .inr ⟨by omega, read_inf false h1 (by omega)⟩
  · have h2 : a % 9223372036854775808 = a - 9223372036854775808 := by omega
    have h1 : (a / 9223372036854775808 % 2 == 1) = true := by
      have : a / 9223372036854775808 = 1 := by omega
      rw [this]; rfl
    refine ⟨true, a - 9223372036854775808, by simp; omega, by omega, by unfold key; simp [h], ?_⟩
    by_cases h3 : a - 9223372036854775808 < 9218868437227405312
    · have := read_fin (b := a) true h1 (by omega)
      rw [h2] at this
      exact .inl ⟨h3, this⟩
    · exact .inr ⟨by omega, read_inf true h1 (by omega)⟩
theorem order_key {a b : Nat} (ha : a < 18446744073709551616) (hb : b < 18446744073709551616) (na : ¬ isN a) (nb : ¬ isN b) : FloatKind.f64.format.order a b = some (compare (key a) (key b)) := by
  obtain ⟨s, r, _, hr, hka, h1⟩ := word_cases ha na
  obtain ⟨t, q, _, hq, hkb, h2⟩ := word_cases hb nb
  rw [fmt, hka, hkb]
  unfold Ieee.Format.order
  rcases h1 with ⟨h1, e1⟩ | ⟨h1, e1⟩ <;> rcases h2 with ⟨h2, e2⟩ | ⟨h2, e2⟩ <;> rw [e1, e2]
  · exact order_num s t r q
  · cases t
    · simp only [Ieee.Datum.order, Bool.false_eq_true, if_false]
      rw [cmp_of_lt]; cases s <;> simp <;> omega
    · simp only [Ieee.Datum.order, if_true]
      rw [cmp_of_gt]; cases s <;> simp <;> omega
  · cases s
    · simp only [Ieee.Datum.order, Bool.false_eq_true, if_false]
      rw [cmp_of_gt]; cases t <;> simp <;> omega
    · simp only [Ieee.Datum.order, if_true]
      rw [cmp_of_lt]; cases t <;> simp <;> omega
  · simp only [Ieee.Datum.order]
    subst h1; subst h2
    cases s <;> cases t <;> rfl
theorem order_nan {a b : Nat} (h : isN a ∨ isN b) : FloatKind.f64.format.order a b = none := by
  rw [fmt]
  unfold Ieee.Format.order
  have rd : ∀ x, isN x → ∃ s t, Ieee.double.read x = .nan s t := fun x hx => ⟨_, _, read_nan _ rfl hx⟩
  rcases h with h | h
  · obtain ⟨s, t, e⟩ := rd a h
    rw [e]; rfl
  · obtain ⟨s, t, e⟩ := rd b h
    rw [e]
    cases Ieee.double.read a <;> rfl
theorem flt_key {a b : Nat} (ha : a < 18446744073709551616) (hb : b < 18446744073709551616) (na : ¬ isN a) (nb : ¬ isN b) : flt a b = decide (key a < key b) := by
  unfold flt
  rw [order_key ha hb na nb]
  rcases Int.lt_trichotomy (key a) (key b) with h | h | h
  · rw [cmp_of_lt h]; simp [h]
  · rw [cmp_of_eq h]; simp [h]
  · rw [cmp_of_gt h]
    have : ¬ key a < key b := by omega
    simp [this]
theorem fle_key {a b : Nat} (ha : a < 18446744073709551616) (hb : b < 18446744073709551616) (na : ¬ isN a) (nb : ¬ isN b) : fle a b = decide (key a ≤ key b) := by
  unfold fle
  rw [order_key ha hb na nb]
  rcases Int.lt_trichotomy (key a) (key b) with h | h | h
  · rw [cmp_of_lt h]
    have : key a ≤ key b := by omega
    simp [this]
  · rw [cmp_of_eq h]; simp [h]
  · rw [cmp_of_gt h]
    have : ¬ key a ≤ key b := by omega
    simp [this]
theorem feq_key {a b : Nat} (ha : a < 18446744073709551616) (hb : b < 18446744073709551616) (na : ¬ isN a) (nb : ¬ isN b) : feq a b = decide (key a = key b) := by
  unfold feq Op.floatEq
  rw [order_key ha hb na nb]
  rcases Int.lt_trichotomy (key a) (key b) with h | h | h
  · rw [cmp_of_lt h]
    have : ¬ key a = key b := by omega
    simp [this]
  · rw [cmp_of_eq h]; simp [h]
  · rw [cmp_of_gt h]
    have : ¬ key a = key b := by omega
    simp [this]
theorem flt_nan {a b : Nat} (h : isN a ∨ isN b) : flt a b = false := by unfold flt; rw [order_nan h]; rfl
theorem fle_nan {a b : Nat} (h : isN a ∨ isN b) : fle a b = false := by unfold fle; rw [order_nan h]; rfl
theorem feq_nan {a b : Nat} (h : isN a ∨ isN b) : feq a b = false := by unfold feq Op.floatEq; rw [order_nan h]; rfl
/-! not below nought, and no NaN: at most the infinity's rung -/
theorem pos_ok {a : Nat} (h : a ≤ 9218868437227405312) : a < 18446744073709551616 ∧ ¬ isN a ∧ key a = (a : Int) := by
  refine ⟨by omega, by unfold isN; omega, by unfold key; rw [if_pos (by omega)]⟩
theorem flt_pos {a b : Nat} (ha : a ≤ 9218868437227405312) (hb : b ≤ 9218868437227405312) : flt a b = decide (a < b) := by
  obtain ⟨h1, h2, h3⟩ := pos_ok ha
  obtain ⟨h4, h5, h6⟩ := pos_ok hb
  rw [flt_key h1 h4 h2 h5, h3, h6]
  congr 1
  exact propext (by omega)
theorem fle_pos {a b : Nat} (ha : a ≤ 9218868437227405312) (hb : b ≤ 9218868437227405312) : fle a b = decide (a ≤ b) := by
  obtain ⟨h1, h2, h3⟩ := pos_ok ha
  obtain ⟨h4, h5, h6⟩ := pos_ok hb
  rw [fle_key h1 h4 h2 h5, h3, h6]
  congr 1
  exact propext (by omega)
theorem feq_pos {a b : Nat} (ha : a ≤ 9218868437227405312) (hb : b ≤ 9218868437227405312) : feq a b = decide (a = b) := by
  obtain ⟨h1, h2, h3⟩ := pos_ok ha
  obtain ⟨h4, h5, h6⟩ := pos_ok hb
  rw [feq_key h1 h4 h2 h5, h3, h6]
  congr 1
  exact propext (by omega)

/-! ### sums and products -/
theorem word_pos (r : Nat) : Ieee.double.word false r = r := rfl
theorem word_neg (r : Nat) : Ieee.double.word true r = 9223372036854775808 + r := by unfold Ieee.Format.word; rw [sw]; rfl
theorem pos_read {a : Nat} (h : a ≤ 9218868437227405312) : (a < 9218868437227405312 ∧ Ieee.double.read a = .number false (mg a) (-1074 + (pl a : Nat))) ∨ (a = 9218868437227405312 ∧ Ieee.double.read a = .infinity false) := by
  rcases Nat.lt_or_eq_of_le h with h | h
  · exact .inl ⟨h, read_pos h⟩
  · subst h; exact .inr ⟨rfl, read_pinf⟩
theorem fmul_comm (a b : Nat) : fmul a b = fmul b a ∧ fmulOk a b = fmulOk b a := by
  have h : FloatKind.f64.format.mul a b = FloatKind.f64.format.mul b a := by
    rw [fmt]
    unfold Ieee.Format.mul
    congr 1
    generalize Ieee.double.read a = x
    generalize Ieee.double.read b = y
    cases x <;> cases y <;> simp [Ieee.Datum.product, Nat.mul_comm, Int.add_comm, Bool.xor_comm]
  unfold fmul fmulOk
  rw [h]; exact ⟨rfl, rfl⟩
theorem fin_add {a b : Nat} (ha : a < 9218868437227405312) (hb : b < 9218868437227405312) : ∃ t base, FloatKind.f64.format.add a b = some (rn t base) ∧ -1074 ≤ base ∧ t * 2 ^ (base + (1074 : Nat)).toNat = va a + va b := by
  rw [fmt]
  unfold Ieee.Format.add
  rw [read_pos ha, read_pos hb]
  unfold Ieee.Datum.sum
  simp only
  have hbs : min (-1074 + (pl a : Nat) : Int) (-1074 + (pl b : Nat) : Int) = -1074 + ((min (pl a) (pl b) : Nat) : Int) := by omega
  rw [hbs]
  have h1 := signed_val false a (min (pl a) (pl b)) (Nat.min_le_left _ _)
  have h2 := signed_val false b (min (pl a) (pl b)) (Nat.min_le_right _ _)
  generalize hx : Ieee.signed false (mg a) ((-1074 + (pl a : Nat) : Int) - (-1074 + ((min (pl a) (pl b) : Nat) : Int))).toNat = x at *
  generalize hy : Ieee.signed false (mg b) ((-1074 + (pl b : Nat) : Int) - (-1074 + ((min (pl a) (pl b) : Nat) : Int))).toNat = y at *
  have hx0 : 0 ≤ x := by rw [← hx]; unfold Ieee.signed; simp only [Bool.false_eq_true, if_false]; exact Int.natCast_nonneg _
  have hy0 : 0 ≤ y := by rw [← hy]; unfold Ieee.signed; simp only [Bool.false_eq_true, if_false]; exact Int.natCast_nonneg _
  refine ⟨(x + y).natAbs, -1074 + ((min (pl a) (pl b) : Nat) : Int), ?_, by omega, ?_⟩
  · simp only [Option.map_some, Ieee.Format.write]
    rw [nearest_rn]
    have : (if x + y = 0 then (false && false) else decide (x + y < 0)) = false := by
      split
      · rfl
      · have : ¬ x + y < 0 := by omega
        simp [this]
    rw [this, word_pos]
  · have h3 : (-1074 + ((min (pl a) (pl b) : Nat) : Int) + (1074 : Nat)).toNat = min (pl a) (pl b) := by omega
    rw [h3]
    simp only [Bool.false_eq_true, if_false] at h1 h2
    have h4 : (((x + y).natAbs * 2 ^ min (pl a) (pl b) : Nat) : Int) = ((va a + va b : Nat) : Int) := by
      rw [Int.natCast_mul, Int.natAbs_of_nonneg (by omega), Int.add_mul, h1, h2]; simp
    exact Int.ofNat.inj h4
theorem write_inf : Ieee.double.write (.infinity false) = 9218868437227405312 := by decide +kernel
theorem fadd_ok {a b : Nat} (ha : a ≤ 9218868437227405312) (hb : b ≤ 9218868437227405312) : faddOk a b = true ∧ fadd a b ≤ 9218868437227405312 := by
  have key : ∃ r, FloatKind.f64.format.add a b = some r ∧ r ≤ 9218868437227405312 := by
    rcases Nat.lt_or_eq_of_le ha with h1 | h1
    · rcases Nat.lt_or_eq_of_le hb with h2 | h2
      · obtain ⟨t, base, e, _⟩ := fin_add h1 h2
        exact ⟨_, e, rn_inf _ _⟩
      · refine ⟨Ieee.double.write (.infinity false), ?_, by rw [write_inf]; exact Nat.le_refl _⟩
        rw [fmt]
        unfold Ieee.Format.add
        rw [read_pos h1, h2, read_pinf]
        rfl
    · refine ⟨Ieee.double.write (.infinity false), ?_, by rw [write_inf]; exact Nat.le_refl _⟩
      rw [fmt]
      unfold Ieee.Format.add
      rw [h1, read_pinf]
      rcases pos_read hb with ⟨_, e⟩ | ⟨_, e⟩ <;> rw [e] <;> rfl
  obtain ⟨r, e, hr⟩ := key
  unfold faddOk fadd
  rw [e, Option.isSome_some, Option.getD_some]
  exact ⟨rfl, hr⟩
theorem fadd_le {a b r : Nat} (ha : a < 9218868437227405312) (hb : b < 9218868437227405312) (h : va a + va b ≤ va r) : fadd a b ≤ r := by
  obtain ⟨t, base, e, h1, h2⟩ := fin_add ha hb
  unfold fadd
  rw [e, Option.getD_some]
  refine rn_le 1074 (by omega) (by omega) ?_
  rw [h2, Nat.sub_self, Nat.pow_zero, Nat.mul_one]
  exact h
theorem le_fadd {a b r : Nat} (ha : a < 9218868437227405312) (hb : b < 9218868437227405312) (hr : r ≤ 9218868437227405312) (h : va r ≤ va a + va b) : r ≤ fadd a b := by
  obtain ⟨t, base, e, h1, h2⟩ := fin_add ha hb
  unfold fadd
  rw [e, Option.getD_some]
  refine le_rn 1074 (by omega) (by omega) hr ?_
  rw [h2, Nat.sub_self, Nat.pow_zero, Nat.mul_one]
  exact h
theorem fin_mul {a b : Nat} (ha : a < 9218868437227405312) (hb : b < 9218868437227405312) : FloatKind.f64.format.mul a b = some (rn (mg a * mg b) (-1074 + (pl a : Nat) + (-1074 + (pl b : Nat)))) := by
  rw [fmt]
  unfold Ieee.Format.mul
  rw [read_pos ha, read_pos hb]
  simp only [Ieee.Datum.product, Option.map_some, Ieee.Format.write]
  rw [nearest_rn, Bool.xor_false, word_pos]
theorem mul_val (a b : Nat) : mg a * mg b * 2 ^ (-1074 + (pl a : Nat) + (-1074 + (pl b : Nat)) + ((2148 : Nat) : Int)).toNat = va a * va b := by
  have h : (-1074 + (pl a : Nat) + (-1074 + (pl b : Nat)) + ((2148 : Nat) : Int)).toNat = pl a + pl b := by omega
  rw [h, va_eq, va_eq, Nat.pow_add]
  ac_rfl
theorem fmul_fin {a b : Nat} (ha : a < 9218868437227405312) (hb : b < 9218868437227405312) : fmulOk a b = true ∧ fmul a b ≤ 9218868437227405312 := by
  unfold fmulOk fmul
  rw [fin_mul ha hb, Option.isSome_some, Option.getD_some]
  exact ⟨rfl, rn_inf _ _⟩
/-- Powers of two that nobody computes. -/
def U (n : Nat) : Nat := 2 ^ n
theorem U_pow (n : Nat) : 2 ^ n = U n := rfl
theorem U_add (a b : Nat) : U (a + b) = U a * U b := Nat.pow_add 2 a b
theorem U_pos (n : Nat) : 0 < U n := Nat.two_pow_pos n
theorem rn_leU {mag : Nat} {place : Int} {r : Nat} (K : Nat) (hK : 1074 ≤ K) (hp : 0 ≤ place + K) (h : mag * 2 ^ (place + K).toNat ≤ va r * U (K - 1074)) : rn mag place ≤ r := rn_le K hK hp h
theorem le_rnU {mag : Nat} {place : Int} {r : Nat} (K : Nat) (hK : 1074 ≤ K) (hp : 0 ≤ place + K) (hr : r ≤ 9218868437227405312) (h : va r * U (K - 1074) ≤ mag * 2 ^ (place + K).toNat) : r ≤ rn mag place := le_rn K hK hp hr h
theorem va_U {q m : Nat} (hm : m < 4503599627370496) : va ((q + 1) * 4503599627370496 + m) = (4503599627370496 + m) * U q := va_big hm
theorem fmul_le {a b r : Nat} (ha : a < 9218868437227405312) (hb : b < 9218868437227405312) (h : va a * va b ≤ va r * U 1074) : fmul a b ≤ r := by
  unfold fmul
  rw [fin_mul ha hb, Option.getD_some]
  refine rn_leU 2148 (by omega) (by omega) ?_
  rw [mul_val]; exact h
theorem le_fmul {a b r : Nat} (ha : a < 9218868437227405312) (hb : b < 9218868437227405312) (hr : r ≤ 9218868437227405312) (h : va r * U 1074 ≤ va a * va b) : r ≤ fmul a b := by
  unfold fmul
  rw [fin_mul ha hb, Option.getD_some]
  refine le_rnU 2148 (by omega) (by omega) hr ?_
  rw [mul_val]; exact h

theorem signed_neg (s : Bool) (m up : Nat) : Ieee.signed (!s) m up = -Ieee.signed s m up := by
  unfold Ieee.signed
  cases s <;> simp
theorem fin_sub {a b : Nat} (ha : a < 9218868437227405312) (hb : b < 9218868437227405312) : ∃ (t : Nat) (base : Int), -1074 ≤ base ∧ ((t * 2 ^ (base + (1074 : Nat)).toNat : Nat) : Int) = ((((va a : Nat) : Int) - ((va b : Nat) : Int)).natAbs : Nat) ∧
    FloatKind.f64.format.sub a b = some (Ieee.double.word (decide (va a < va b)) (rn t base)) ∧ FloatKind.f64.format.sub b a = some (Ieee.double.word (decide (va b < va a)) (rn t base)) := by
  rw [fmt]
  unfold Ieee.Format.sub
  rw [read_pos ha, read_pos hb]
  unfold Ieee.Datum.opposite Ieee.Datum.sum
  simp only
  have hbs : min (-1074 + (pl a : Nat) : Int) (-1074 + (pl b : Nat) : Int) = -1074 + ((min (pl a) (pl b) : Nat) : Int) := by omega
  have hbs' : min (-1074 + (pl b : Nat) : Int) (-1074 + (pl a : Nat) : Int) = -1074 + ((min (pl a) (pl b) : Nat) : Int) := by omega
  rw [hbs, hbs', signed_neg, signed_neg]
  have h1 := signed_val false a (min (pl a) (pl b)) (Nat.min_le_left _ _)
  have h2 := signed_val false b (min (pl a) (pl b)) (Nat.min_le_right _ _)
  generalize hx : Ieee.signed false (mg a) ((-1074 + (pl a : Nat) : Int) - (-1074 + ((min (pl a) (pl b) : Nat) : Int))).toNat = x at *
  generalize hy : Ieee.signed false (mg b) ((-1074 + (pl b : Nat) : Int) - (-1074 + ((min (pl a) (pl b) : Nat) : Int))).toNat = y at *
  simp only [Bool.false_eq_true, if_false] at h1 h2
  have hp : (0 : Int) < ((2 ^ min (pl a) (pl b) : Nat) : Int) := by have := Nat.two_pow_pos (min (pl a) (pl b)); omega
  have hlt : x < y ↔ va a < va b := by
    have : x < y ↔ x * ((2 ^ min (pl a) (pl b) : Nat) : Int) < y * ((2 ^ min (pl a) (pl b) : Nat) : Int) := ⟨fun h => Int.mul_lt_mul_of_pos_right h hp, fun h => Int.lt_of_mul_lt_mul_right h (Int.le_of_lt hp)⟩
    rw [this, h1, h2]; omega
  have hgt : y < x ↔ va b < va a := by
    have : y < x ↔ y * ((2 ^ min (pl a) (pl b) : Nat) : Int) < x * ((2 ^ min (pl a) (pl b) : Nat) : Int) := ⟨fun h => Int.mul_lt_mul_of_pos_right h hp, fun h => Int.lt_of_mul_lt_mul_right h (Int.le_of_lt hp)⟩
    rw [this, h1, h2]; omega
  refine ⟨(x + -y).natAbs, -1074 + ((min (pl a) (pl b) : Nat) : Int), by omega, ?_, ?_, ?_⟩
  · have h3 : (-1074 + ((min (pl a) (pl b) : Nat) : Int) + (1074 : Nat)).toNat = min (pl a) (pl b) := by omega
    rw [h3, ← h1, ← h2, ← Int.sub_mul, Int.natAbs_mul]
    congr 1
  · simp only [Option.map_some, Ieee.Format.write]
    rw [nearest_rn]
    congr 2
    split
    · have : ¬ va a < va b := by rw [← hlt]; omega
      simp [this]
    · have h4 : x + -y < 0 ↔ va a < va b := by rw [← hlt]; omega
      simp [h4]
  · simp only [Option.map_some, Ieee.Format.write]
    rw [nearest_rn]
    have h5 : (y + -x).natAbs = (x + -y).natAbs := by omega
    rw [h5]
    congr 2
    split
    · have : ¬ va b < va a := by rw [← hgt]; omega
      simp [this]
    · have h4 : y + -x < 0 ↔ va b < va a := by rw [← hgt]; omega
      simp [h4]
/-- The rung of a difference. -/
theorem fsub_spec {a b : Nat} (ha : a < 9218868437227405312) (hb : b < 9218868437227405312) (hle : b ≤ a) : ∃ d, fsubOk a b = true ∧ fsubOk b a = true ∧ fsub a b = d ∧ (b < a → fsub b a = 9223372036854775808 + d) ∧ (b = a → d = 0) ∧ (b < a → 0 < d) ∧ d ≤ a ∧
    (∀ r, va a - va b ≤ va r → d ≤ r) ∧ (∀ r, r ≤ 9218868437227405312 → va r ≤ va a - va b → r ≤ d) := by
  obtain ⟨t, base, h1, h2, h3, h4⟩ := fin_sub ha hb
  have hv := va_le hle
  have h5 : t * 2 ^ (base + (1074 : Nat)).toNat = va a - va b := by omega
  have hn : decide (va a < va b) = false := by simp; omega
  rw [hn, word_pos] at h3
  have hup : ∀ r, va a - va b ≤ va r → rn t base ≤ r := fun r hr => rn_le 1074 (by omega) (by omega) (by rw [h5, Nat.sub_self, Nat.pow_zero, Nat.mul_one]; exact hr)
  have hdn : ∀ r, r ≤ 9218868437227405312 → va r ≤ va a - va b → r ≤ rn t base := fun r hr hq => le_rn 1074 (by omega) (by omega) hr (by rw [h5, Nat.sub_self, Nat.pow_zero, Nat.mul_one]; exact hq)
  refine ⟨rn t base, by unfold fsubOk; rw [h3]; rfl, by unfold fsubOk; rw [h4]; rfl, by unfold fsub; rw [h3, Option.getD_some], fun h => ?_, fun h => ?_, fun h => ?_, hup a (by omega), hup, hdn⟩
  · have : decide (va b < va a) = true := by simp; exact va_lt h
    unfold fsub
    rw [h4, Option.getD_some, this, word_neg]
  · subst h
    have := hup 0 (by omega)
    omega
  · have h6 := va_lt h
    have h7 : va 1 = 1 := va_small (by omega)
    have := hdn 1 (by omega) (by omega)
    omega
theorem rn_leP {mag : Nat} {place : Int} {r : Nat} (K P : Nat) (hK : 1074 ≤ K) (hp : (P : Int) = place + K) (h : mag * U P ≤ va r * U (K - 1074)) : rn mag place ≤ r := by
  refine rn_le K hK (by omega) ?_
  have : (place + K).toNat = P := by omega
  rw [this]; exact h
theorem le_rnP {mag : Nat} {place : Int} {r : Nat} (K P : Nat) (hK : 1074 ≤ K) (hp : (P : Int) = place + K) (hr : r ≤ 9218868437227405312) (h : va r * U (K - 1074) ≤ mag * U P) : r ≤ rn mag place := by
  refine le_rn K hK (by omega) hr ?_
  have : (place + K).toNat = P := by omega
  rw [this]; exact h
/-- Whole numbers below 2^53, and what is a power of two times such a one, are some rung's value. -/
theorem rep (n e : Nat) (hn : n < 9007199254740992) (he : 52 ≤ e) : ∃ r, va r = n * U e := by
  by_cases h0 : n = 0
  · subst h0
    exact ⟨0, by rw [va_small (by omega), Nat.zero_mul]⟩
  · have h2l : 2 ^ n.log2 ≤ n := Nat.log2_self_le h0
    have h2u : n < 2 ^ (n.log2 + 1) := Nat.lt_log2_self
    have hL : n.log2 ≤ 52 := by
      rcases Nat.lt_or_ge 52 n.log2 with h | h
      · have : 2 ^ 53 ≤ 2 ^ n.log2 := Nat.pow_le_pow_right (by decide) h
        have h3 : (2 : Nat) ^ 53 = 9007199254740992 := by decide
        omega
      · exact h
    generalize n.log2 = L at *
    have h3 : 4503599627370496 ≤ n * 2 ^ (52 - L) := by
      have h4 : (4503599627370496 : Nat) = 2 ^ L * 2 ^ (52 - L) := by rw [← Nat.pow_add, show L + (52 - L) = 52 from by omega]
      rw [h4]; exact Nat.mul_le_mul_right _ h2l
    have h5 : n * 2 ^ (52 - L) < 9007199254740992 := by
      have h4 : (9007199254740992 : Nat) = 2 ^ (L + 1) * 2 ^ (52 - L) := by rw [← Nat.pow_add, show L + 1 + (52 - L) = 53 from by omega]
      rw [h4]; exact Nat.mul_lt_mul_of_pos_right h2u (Nat.two_pow_pos _)
    obtain ⟨m, hm⟩ : ∃ m, n * 2 ^ (52 - L) = 4503599627370496 + m := ⟨n * 2 ^ (52 - L) - 4503599627370496, by omega⟩
    refine ⟨(e - (52 - L) + 1) * 4503599627370496 + m, ?_⟩
    rw [va_U (by omega), ← hm, U_pow, Nat.mul_assoc, ← U_add]
    congr 2
    omega
theorem va_inf : va 9218868437227405312 = 4503599627370496 * U 2046 := by
  have := va_U (q := 2046) (m := 0) (by decide)
  simpa using this
theorem U_le {a b : Nat} (h : a ≤ b) : U a ≤ U b := Nat.pow_le_pow_right (by decide) h
theorem U_lt {a b : Nat} (h : a < b) : U a < U b := Nat.pow_lt_pow_right (by decide) h
theorem U50 : U 50 = 1125899906842624 := by unfold U; decide
theorem U52 : U 52 = 4503599627370496 := by unfold U; decide
theorem U3 : U 3 = 8 := by unfold U; decide
theorem U2 : U 2 = 4 := by unfold U; decide
theorem U1 : U 1 = 2 := by unfold U; decide
theorem U0 : U 0 = 1 := by unfold U; decide
theorem va_fin {r n e : Nat} (hr : va r = n * U e) (hn : n < 4503599627370496) (he : e ≤ 2046) : r < 9218868437227405312 := by
  refine lt_of_va ?_
  rw [hr, va_inf]
  calc n * U e ≤ n * U 2046 := Nat.mul_le_mul_left _ (U_le he)
    _ < 4503599627370496 * U 2046 := Nat.mul_lt_mul_of_pos_right hn (U_pos _)
theorem nearest_nat (n : Nat) : fofint (n : Int) = rn n 0 := by
  unfold fofint FloatKind.nearest FloatKind.encode
  rw [fmt]
  have h1 : decide (((n : Nat) : Int) < 0) = false := by simp
  rw [h1]
  show Ieee.double.write (.number false ((n : Int)).natAbs 0) = _
  rw [Int.natAbs_natCast]
  show Ieee.double.nearest false n 0 = _
  rw [nearest_rn, word_pos]
/-- A whole number as a float, exactly. -/
theorem fofint_val {n : Nat} (hn : n < 4503599627370496) : va (fofint (n : Int)) = n * U 1074 ∧ fofint (n : Int) < 9218868437227405312 := by
  obtain ⟨r, hr⟩ := rep n 1074 (by omega) (by omega)
  have hf := va_fin hr hn (by omega)
  have h1 : rn n 0 ≤ r := rn_leP 1074 1074 (by omega) (by omega) (by rw [hr, Nat.sub_self, U0, Nat.mul_one]; exact Nat.le_refl _)
  have h2 : r ≤ rn n 0 := le_rnP 1074 1074 (by omega) (by omega) (by omega) (by rw [hr, Nat.sub_self, U0, Nat.mul_one]; exact Nat.le_refl _)
  have h3 : fofint (n : Int) = r := by rw [nearest_nat]; omega
  rw [h3]
  exact ⟨hr, hf⟩
theorem log2_lt {m : Nat} (h0 : m ≠ 0) (h : m < 9007199254740992) : m.log2 ≤ 52 := by
  have h2l : 2 ^ m.log2 ≤ m := Nat.log2_self_le h0
  rcases Nat.lt_or_ge 52 m.log2 with h1 | h1
  · have : 2 ^ 53 ≤ 2 ^ m.log2 := Nat.pow_le_pow_right (by decide) h1
    have h3 : (2 : Nat) ^ 53 = 9007199254740992 := by decide
    omega
  · exact h1
theorem mg_lt (r : Nat) : mg r < 9007199254740992 := by unfold mg; split <;> omega
/-- Division by a power of two. -/
theorem fin_div {a c s : Nat} (ha : a < 9218868437227405312) (hc : Ieee.double.read c = .number false 4503599627370496 (-52 + (s : Nat))) :
    ∃ mag place more, FloatKind.f64.format.div a c = some (rn mag place) ∧ 52 ≤ more ∧ mag = 2 * (mg a * 2 ^ (more - 52)) ∧ place = -1074 + (pl a : Nat) - (-52 + (s : Nat)) - (more : Nat) - 1 := by
  have hl : Nat.log2 4503599627370496 = 52 := by decide
  have hm : 52 ≤ 54 + 52 - (mg a).log2 := by
    by_cases h0 : mg a = 0
    · rw [h0]; decide
    · have := log2_lt h0 (mg_lt a); omega
  refine ⟨_, _, 54 + 52 - (mg a).log2, ?_, hm, rfl, rfl⟩
  rw [fmt]
  unfold Ieee.Format.div
  rw [read_pos ha, hc]
  have hf : Ieee.double.fractionBits + 2 = 54 := rfl
  simp only [Ieee.Datum.quotient, hf, hl]
  rw [if_neg (by decide)]
  simp only [Option.map_some, Ieee.Format.write]
  rw [nearest_rn, Bool.xor_false, word_pos]
  have h1 : mg a <<< (54 + 52 - (mg a).log2) = 4503599627370496 * (mg a * 2 ^ (54 + 52 - (mg a).log2 - 52)) := by
    rw [Nat.shiftLeft_eq]
    have h2 : (4503599627370496 : Nat) = 2 ^ 52 := by decide
    rw [h2, ← Nat.mul_assoc, Nat.mul_comm (2 ^ 52), Nat.mul_assoc, ← Nat.pow_add]
    congr 2
    omega
  rw [h1, Nat.mul_div_cancel_left _ (by decide), Nat.mul_mod_right]
  rfl
theorem fdiv_pow {a c s : Nat} (ha : a < 9218868437227405312) (hc : Ieee.double.read c = .number false 4503599627370496 (-52 + (s : Nat))) (hs : s ≤ 52) :
    fdivOk a c = true ∧ (∀ r, va a ≤ va r * U s → fdiv a c ≤ r) ∧ (∀ r, r ≤ 9218868437227405312 → va r * U s ≤ va a → r ≤ fdiv a c) := by
  obtain ⟨mag, place, more, e, h1, h2, h3⟩ := fin_div ha hc
  have hX : mag * U (pl a + (52 - s)) = va a * U (more + 1 - s) := by
    rw [h2, va_eq, U_pow, U_pow]
    have : 2 * (mg a * U (more - 52)) * U (pl a + (52 - s)) = mg a * (U 1 * U (more - 52) * U (pl a + (52 - s))) := by rw [U1]; ac_rfl
    rw [this, ← U_add, ← U_add, Nat.mul_assoc, ← U_add]
    congr 2
    omega
  have hu : U (1074 + more + 1 - 1074) = U s * U (more + 1 - s) := by
    rw [show 1074 + more + 1 - 1074 = s + (more + 1 - s) from by omega, U_add]
  refine ⟨by unfold fdivOk; rw [e, Option.isSome_some], fun r hr => ?_, fun r hr hq => ?_⟩
  · unfold fdiv
    rw [e, Option.getD_some]
    refine rn_leP (1074 + more + 1) (pl a + (52 - s)) (by omega) (by omega) ?_
    rw [hX, hu, ← Nat.mul_assoc]
    exact Nat.mul_le_mul_right _ hr
  · unfold fdiv
    rw [e, Option.getD_some]
    refine le_rnP (1074 + more + 1) (pl a + (52 - s)) (by omega) (by omega) hr ?_
    rw [hX, hu, ← Nat.mul_assoc]
    exact Nat.mul_le_mul_right _ hq
theorem read_two : Ieee.double.read 4611686018427387904 = .number false 4503599627370496 (-52 + ((1 : Nat) : Int)) := by decide +kernel
theorem read_eight : Ieee.double.read 4620693217682128896 = .number false 4503599627370496 (-52 + ((3 : Nat) : Int)) := by decide +kernel
theorem read_four : Ieee.double.read 4616189618054758400 = .number false 4503599627370496 (-52 + ((2 : Nat) : Int)) := by decide +kernel
theorem fdiv_ok2 {a : Nat} (ha : a < 9218868437227405312) : fdivOk a 4611686018427387904 = true ∧ fdiv a 4611686018427387904 ≤ a := by
  obtain ⟨h1, h2, _⟩ := fdiv_pow ha read_two (by omega)
  exact ⟨h1, h2 a (by rw [U1]; omega)⟩
/-- Any division of a finite float, not below nought, by a thousand. -/
theorem fdiv_thousand {a : Nat} (ha : a < 9218868437227405312) (hb : va a ≤ 1048576 * U 1074) : fdivOk a 4652007308841189376 = true ∧ fdiv a 4652007308841189376 < 9218868437227405312 := by
  have hr : Ieee.double.read 4652007308841189376 = .number false 8796093022208000 (-43) := by decide +kernel
  have hd : ∃ b more, FloatKind.f64.format.div a 4652007308841189376 = some (rn (2 * (mg a * 2 ^ more / 8796093022208000) + Bool.toNat b) (-1074 + (pl a : Nat) - -43 - (more : Nat) - 1)) := by
    refine ⟨(mg a <<< (54 + Nat.log2 8796093022208000 - (mg a).log2) % 8796093022208000 != 0), 54 + Nat.log2 8796093022208000 - (mg a).log2, ?_⟩
    rw [fmt]
    unfold Ieee.Format.div
    rw [read_pos ha, hr]
    have hf : Ieee.double.fractionBits + 2 = 54 := rfl
    simp only [Ieee.Datum.quotient, hf]
    rw [if_neg (by decide)]
    simp only [Option.map_some, Ieee.Format.write]
    rw [nearest_rn, Bool.xor_false, word_pos, ← Nat.shiftLeft_eq]
  obtain ⟨b, more, e⟩ := hd
  refine ⟨by unfold fdivOk; rw [e, Option.isSome_some], ?_⟩
  unfold fdiv
  rw [e, Option.getD_some]
  obtain ⟨r, hr2⟩ := rep 1 1200 (by omega) (by omega)
  have hfin := va_fin hr2 (by omega) (by omega)
  refine Nat.lt_of_le_of_lt (rn_leP (r := r) (1074 + more + 1) (pl a + 43) (by omega) (by omega) ?_) hfin
  rw [hr2, Nat.one_mul, show 1074 + more + 1 - 1074 = more + 1 from by omega]
  have h1 : 2 * (mg a * 2 ^ more / 8796093022208000) + Bool.toNat b ≤ 2 * (mg a * U more) + 1 := by
    have : mg a * 2 ^ more / 8796093022208000 ≤ mg a * U more := Nat.div_le_self _ _
    have : Bool.toNat b ≤ 1 := by cases b <;> decide
    omega
  have hva : mg a * U (pl a) ≤ 1048576 * U 1074 := by have := hb; rw [va_eq] at this; exact this
  have h20 : U 20 = 1048576 := by unfold U; decide
  rw [← h20, ← U_add] at hva
  have hpl : U (pl a) ≤ U 1117 := by
    by_cases h0 : a < 4503599627370496
    · have : pl a = 0 := by unfold pl; rw [if_pos h0]
      rw [this]; exact U_le (by omega)
    · have h3 : 4503599627370496 ≤ mg a := by unfold mg; rw [if_neg h0]; omega
      rw [← U52] at h3
      have h4 : U (52 + pl a) ≤ U (20 + 1074) := by rw [U_add 52]; exact Nat.le_trans (Nat.mul_le_mul_right _ h3) hva
      rcases Nat.lt_or_ge 1117 (pl a) with h5 | h5
      · have : U (20 + 1074) < U (52 + pl a) := U_lt (by omega)
        omega
      · exact U_le h5
  have e1 : (2 * (mg a * U more) + 1) * U (pl a + 43) = mg a * U (pl a) * U (more + 44) + U (pl a) * U 43 := by
    rw [U_add (pl a), U_add more 44, show U 44 = 2 * U 43 from by rw [show 44 = 43 + 1 from rfl, U_add, U1]; omega, Nat.add_mul, Nat.one_mul]
    congr 1
    ac_rfl
  have e2 : mg a * U (pl a) * U (more + 44) ≤ U (1160 + more) := by
    refine Nat.le_trans (Nat.mul_le_mul_right _ hva) ?_
    rw [← U_add]; exact U_le (by omega)
  have e3 : U (pl a) * U 43 ≤ U (1160 + more) := by
    refine Nat.le_trans (Nat.mul_le_mul_right _ hpl) ?_
    rw [← U_add]; exact U_le (by omega)
  have e4 : U (1160 + more) + U (1160 + more) ≤ U 1200 * U (more + 1) := by
    rw [← U_add]
    have : U (1160 + more + 1) = U (1160 + more) * U 1 := U_add _ _
    rw [U1] at this
    have : U (1160 + more + 1) ≤ U (1200 + (more + 1)) := U_le (by omega)
    omega
  refine Nat.le_trans (Nat.mul_le_mul_right _ h1) ?_
  rw [e1]
  omega
/-! ### the bits themselves -/
theorem abs_bits {a : Nat} (ha : a < 18446744073709551616) : ffrom (Go.bits .andNot .u64 (fbits a) 9223372036854775808) = a % 9223372036854775808 := by
  unfold ffrom fbits Go.bits
  have h1 : ~~~(BitVec.ofInt IntKind.u64.bits 9223372036854775808) = BitVec.ofNat IntKind.u64.bits 9223372036854775807 := by decide
  simp only [h1, BitVec.toNat_and, BitVec.toNat_ofNat, BitVec.ofInt_natCast]
  have h2 : (2 : Nat) ^ IntKind.u64.bits = 18446744073709551616 := by decide
  rw [h2, Nat.mod_eq_of_lt ha]
  have h3 : 9223372036854775807 % 18446744073709551616 = 2 ^ 63 - 1 := by decide
  rw [h3, Nat.and_two_pow_sub_one_eq_mod]
  have h4 : (2 : Nat) ^ 63 = 9223372036854775808 := by decide
  rw [h4]
  have h5 : ∀ n : Int, IntKind.u64.wrap n = n % 18446744073709551616 := fun n => by simp [IntKind.wrap, IntKind.bits, IntKind.signed]
  rw [h5]
  omega
attribute [irreducible] U va
end Go.Proofs.YtpcgjdllgdkobaaW.PrintWords
