/- Rounding, nearer than by order alone: what lies below the middle of two floats is rounded to the lower one. -/
import Derived.Test.YtajejidnidomgaaWFr
namespace Go.Proofs.YtajejidnidomgaaW.PrintWords
theorem rn_parts2 {mag : Nat} {place : Int} (K : Nat) (hK : 1074 ≤ K) (hp : 0 ≤ place + K) (hm : mag ≠ 0) :
    ∃ e kept, rn mag place = min (e * 4503599627370496 + kept) 9218868437227405312 ∧
      2 * kept * (2 ^ e * 2 ^ (K - 1074)) ≤ 2 * (mag * 2 ^ (place + K).toNat) + 2 ^ e * 2 ^ (K - 1074) ∧ 2 * (mag * 2 ^ (place + K).toNat) ≤ (2 * kept + 1) * (2 ^ e * 2 ^ (K - 1074)) ∧
      mag * 2 ^ (place + K).toNat < 9007199254740992 * (2 ^ e * 2 ^ (K - 1074)) ∧ (e = 0 ∨ 4503599627370496 * (2 ^ e * 2 ^ (K - 1074)) ≤ mag * 2 ^ (place + K).toNat) := by
  obtain ⟨P, hP⟩ : ∃ P : Nat, (P : Int) = place + K := ⟨(place + K).toNat, by omega⟩
  have hP' : (place + K).toNat = P := by omega
  rw [hP']
  obtain ⟨D, hD⟩ : ∃ D : Nat, K = D + 1074 := ⟨K - 1074, by omega⟩
  have hD' : K - 1074 = D := by omega
  rw [hD']
  have h2l : 2 ^ mag.log2 ≤ mag := Nat.log2_self_le hm
  have h2u : mag < 2 ^ (mag.log2 + 1) := Nat.lt_log2_self
  unfold rn
  rw [if_neg hm]
  generalize mag.log2 = L at *
  obtain ⟨e, he⟩ : ∃ e : Nat, (e : Int) = max (place + L - 52) (-1074) + 1074 := ⟨(max (place + L - 52) (-1074) + 1074).toNat, by omega⟩
  have hl : max (place + L - 52) (-1074) = (e : Int) - 1074 := by omega
  rw [hl]
  have he' : ((e : Int) - 1074 + 1074).toNat = e := by omega
  rw [he']
  obtain ⟨c1, c2, _, _⟩ := cut_even (mag <<< (place - ((e : Int) - 1074)).toNat) ((e : Int) - 1074 - place).toNat
  generalize Ieee.Toward.even.cut false (mag <<< (place - ((e : Int) - 1074)).toNat) ((e : Int) - 1074 - place).toNat = c at *
  rw [Nat.shiftLeft_eq] at c1 c2
  refine ⟨e, c, rfl, ?_, ?_, ?_, ?_⟩
  · rw [← Nat.pow_add]
    rcases Int.le_total ((e : Int) - 1074) place with hc | hc
    · have h1 : ((e : Int) - 1074 - place).toNat = 0 := by omega
      have h2 : P = (place - ((e : Int) - 1074)).toNat + (e + D) := by omega
      rw [h1, Nat.pow_zero, Nat.mul_one] at c1
      rw [h2, Nat.pow_add 2 (place - ((e : Int) - 1074)).toNat, ← Nat.mul_assoc mag]
      have := Nat.mul_le_mul_right (2 ^ (e + D)) c1
      rw [Nat.add_mul, Nat.one_mul, Nat.mul_assoc 2 (mag * _)] at this
      exact this
    · have h1 : (place - ((e : Int) - 1074)).toNat = 0 := by omega
      have h2 : e + D = ((e : Int) - 1074 - place).toNat + P := by omega
      rw [h1, Nat.pow_zero, Nat.mul_one] at c1
      rw [h2, Nat.pow_add 2 _ P, ← Nat.mul_assoc (2 * c)]
      have := Nat.mul_le_mul_right (2 ^ P) c1
      rw [Nat.add_mul, Nat.mul_assoc 2 mag] at this
      exact this
  · rw [← Nat.pow_add]
    rcases Int.le_total ((e : Int) - 1074) place with hc | hc
    · have h1 : ((e : Int) - 1074 - place).toNat = 0 := by omega
      have h2 : P = (place - ((e : Int) - 1074)).toNat + (e + D) := by omega
      rw [h1, Nat.pow_zero, Nat.mul_one] at c2
      rw [h2, Nat.pow_add 2 (place - ((e : Int) - 1074)).toNat, ← Nat.mul_assoc mag]
      have := Nat.mul_le_mul_right (2 ^ (e + D)) c2
      rw [Nat.mul_assoc 2 (mag * _)] at this
      exact this
    · have h1 : (place - ((e : Int) - 1074)).toNat = 0 := by omega
      have h2 : e + D = ((e : Int) - 1074 - place).toNat + P := by omega
      rw [h1, Nat.pow_zero, Nat.mul_one] at c2
      rw [h2, Nat.pow_add 2 _ P, ← Nat.mul_assoc (2 * c + 1)]
      have := Nat.mul_le_mul_right (2 ^ P) c2
      rw [Nat.mul_assoc 2 mag] at this
      exact this
  · have h1 : L + 1 + P ≤ 53 + (e + D) := by omega
    have h3 : (9007199254740992 : Nat) = 2 ^ 53 := by decide
    rw [h3, ← Nat.pow_add, ← Nat.pow_add]
    calc mag * 2 ^ P < 2 ^ (L + 1) * 2 ^ P := Nat.mul_lt_mul_of_pos_right h2u (Nat.two_pow_pos _)
      _ = 2 ^ (L + 1 + P) := (Nat.pow_add _ _ _).symm
      _ ≤ 2 ^ (53 + (e + D)) := Nat.pow_le_pow_right (by decide) h1
  · rcases Nat.eq_zero_or_pos e with h0 | h0
    · exact .inl h0
    · right
      have h1 : 52 + (e + D) = L + P := by omega
      have h3 : (4503599627370496 : Nat) = 2 ^ 52 := by decide
      rw [h3, ← Nat.pow_add, ← Nat.pow_add, h1, Nat.pow_add]
      exact Nat.mul_le_mul_right _ h2l
theorem va_kept {e kept : Nat} (h1 : e = 0 ∨ 4503599627370496 ≤ kept) (h2 : kept ≤ 9007199254740992) : va (e * 4503599627370496 + kept) = kept * U e := by
  rcases Nat.eq_zero_or_pos e with h0 | h0
  · subst h0
    rw [Nat.zero_mul, Nat.zero_add, va_small h2, U0, Nat.mul_one]
  · have h3 : 4503599627370496 ≤ kept := by omega
    rcases Nat.lt_or_eq_of_le h2 with h4 | h4
    · have := va_U (q := e) (m := kept - 4503599627370496) (by omega)
      rw [show 4503599627370496 + (kept - 4503599627370496) = kept from by omega] at this
      have e5 : e * 4503599627370496 + kept = (e + 1) * 4503599627370496 + (kept - 4503599627370496) := by omega
      rw [e5, this]
    · have := va_U (q := e + 1) (m := 0) (by omega)
      simp only [Nat.add_zero] at this
      rw [U_add e 1, U1] at this
      have e5 : e * 4503599627370496 + kept = (e + 1 + 1) * 4503599627370496 := by omega
      rw [e5, this, h4]
      generalize U e = z
      omega
theorem round_half {X u e kept r : Nat} (hu : 0 < u) (c1 : 2 * kept * (U e * u) ≤ 2 * X + U e * u) (c2 : 2 * X ≤ (2 * kept + 1) * (U e * u)) (hlt : X < 9007199254740992 * (U e * u)) (hge : e = 0 ∨ 4503599627370496 * (U e * u) ≤ X) (h : 2 * X < (va r + va (r + 1)) * u) : e * 4503599627370496 + kept ≤ r := by
  have hw : 0 < U e * u := Nat.mul_pos (U_pos e) hu
  rcases Nat.lt_or_ge r (e * 4503599627370496 + kept) with hR | hR
  · exfalso
    obtain ⟨R, hR2⟩ : ∃ R, e * 4503599627370496 + kept = R + 1 := ⟨e * 4503599627370496 + kept - 1, by omega⟩
    have hk : kept ≤ 9007199254740992 := by
      have h1 : 2 * kept * (U e * u) < (2 * 9007199254740992 + 1) * (U e * u) := by rw [Nat.add_mul, Nat.one_mul, Nat.mul_assoc 2 9007199254740992]; omega
      have := Nat.lt_of_mul_lt_mul_right h1
      omega
    have hk2 : e = 0 ∨ 4503599627370496 ≤ kept := by
      rcases hge with h0 | h0
      · exact .inl h0
      · right
        have h1 : (2 * 4503599627370496) * (U e * u) ≤ (2 * kept + 1) * (U e * u) := by rw [Nat.mul_assoc 2 4503599627370496]; omega
        have := Nat.le_of_mul_le_mul_right h1 hw
        omega
    have v1 := va_kept hk2 hk
    rw [hR2] at v1
    have hmono : (va r + va (r + 1)) * u ≤ (va R + va (R + 1)) * u := Nat.mul_le_mul_right _ (Nat.add_le_add (va_le (by omega)) (va_le (by omega)))
    have e1 : va (R + 1) * u = kept * (U e * u) := by rw [v1, Nat.mul_assoc]
    by_cases hs : e = 0 ∨ 4503599627370496 < kept
    · have v2 := va_kept (e := e) (kept := kept - 1) (by omega) (by omega)
      rw [show e * 4503599627370496 + (kept - 1) = R from by omega] at v2
      have e2 : va R * u + U e * u = kept * (U e * u) := by
        rw [v2, Nat.mul_assoc, ← Nat.succ_mul]
        congr 1
        omega
      simp only [Nat.add_mul (va _)] at hmono h
      rw [Nat.mul_assoc] at c1
      omega
    · have h0 : 4503599627370496 * (U e * u) ≤ X := by omega
      have h1 : kept = 4503599627370496 := by omega
      have h2 : va R * u ≤ va (R + 1) * u := Nat.mul_le_mul_right _ (va_le (by omega))
      rw [h1] at e1
      simp only [Nat.add_mul (va _)] at hmono h
      omega
  · exact hR
theorem rn_half {mag : Nat} {place : Int} {r : Nat} (K : Nat) (hK : 1074 ≤ K) (hp : 0 ≤ place + K) (h : 2 * (mag * 2 ^ (place + K).toNat) < (va r + va (r + 1)) * U (K - 1074)) : rn mag place ≤ r := by
  by_cases hm : mag = 0
  · unfold rn; rw [if_pos hm]; exact Nat.zero_le _
  · obtain ⟨e, kept, hr, h1, h2, h3, h4⟩ := rn_parts2 K hK hp hm
    rw [hr]
    simp only [U_pow] at h h1 h2 h3 h4
    exact Nat.le_trans (Nat.min_le_left _ _) (round_half (U_pos _) h1 h2 h3 h4 h)
theorem fmul_half {a b r : Nat} (ha : a < 9218868437227405312) (hb : b < 9218868437227405312) (h : 2 * (va a * va b) < (va r + va (r + 1)) * U 1074) : fmul a b ≤ r := by
  unfold fmul
  rw [fin_mul ha hb, Option.getD_some]
  exact rn_half 2148 (by omega) (by omega) (by rw [mul_val]; exact h)
end Go.Proofs.YtajejidnidomgaaW.PrintWords
