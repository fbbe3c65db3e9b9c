/- Floats made whole, and scaled by powers of two: plain laws. -/
import Derived.Test.YtjodekffbobmlaaWFl
namespace Go.Proofs.YtjodekffbobmlaaW.PrintWords
theorem cut_zero (X D : Nat) : Ieee.Toward.zero.cut false X D * 2 ^ D ≤ X ∧ X < (Ieee.Toward.zero.cut false X D + 1) * 2 ^ D := by
  unfold Ieee.Toward.cut
  simp only [Nat.one_shiftLeft, Bool.toNat_false, Nat.add_zero]
  rcases Nat.le_total D (X.log2 + 2) with hk | hk
  · rw [Nat.min_eq_left hk]
    have hp := Nat.two_pow_pos D
    generalize 2 ^ D = g at *
    refine ⟨Nat.div_mul_le_self X g, ?_⟩
    exact Nat.lt_mul_of_div_lt (Nat.lt_succ_self _) hp
  · rw [Nat.min_eq_right hk]
    have h1 : X < 2 ^ (X.log2 + 1) := Nat.lt_log2_self
    have h2 : 2 ^ (X.log2 + 1) ≤ 2 ^ (X.log2 + 2) := Nat.pow_le_pow_right (by decide) (by omega)
    have h3 : 2 ^ (X.log2 + 2) ≤ 2 ^ D := Nat.pow_le_pow_right (by decide) hk
    rw [Nat.div_eq_of_lt (by omega)]
    exact ⟨by simp, by omega⟩
theorem cut_down (X D : Nat) : Ieee.Toward.down.cut false X D = Ieee.Toward.zero.cut false X D := by
  unfold Ieee.Toward.cut
  simp
theorem cut_even (X D : Nat) : (2 * Ieee.Toward.even.cut false X D) * 2 ^ D ≤ 2 * X + 2 ^ D ∧ 2 * X ≤ (2 * Ieee.Toward.even.cut false X D + 1) * 2 ^ D ∧
    (2 * X = (2 * Ieee.Toward.even.cut false X D + 1) * 2 ^ D → Ieee.Toward.even.cut false X D % 2 = 0) ∧ ((2 * Ieee.Toward.even.cut false X D) * 2 ^ D = 2 * X + 2 ^ D → Ieee.Toward.even.cut false X D % 2 = 0) := by
  unfold Ieee.Toward.cut
  simp only [Nat.one_shiftLeft]
  rcases Nat.le_total D (X.log2 + 2) with hk | hk
  · rw [Nat.min_eq_left hk]
    have hp := Nat.two_pow_pos D
    generalize 2 ^ D = g at *
    have h1 := Nat.div_add_mod X g
    have h2 := Nat.mod_lt X hp
    generalize hq : X / g = q at *
    generalize hr : X % g = r at *
    subst h1
    have e1 : g * q = q * g := Nat.mul_comm _ _
    rw [e1]
    by_cases c1 : g < 2 * r
    · have hb : (decide (g < 2 * r) || (g == 2 * r && q % 2 == 1)) = true := by simp [c1]
      rw [hb]
      simp only [Bool.toNat_true, Nat.add_mul, Nat.mul_add, Nat.mul_assoc, Nat.one_mul]
      generalize q * g = z at *
      refine ⟨by omega, by omega, fun h => by omega, fun h => by omega⟩
    · by_cases c2 : g = 2 * r
      · by_cases c3 : q % 2 = 1
        · have hb : (decide (g < 2 * r) || (g == 2 * r && q % 2 == 1)) = true := by simp [c2, c3]
          rw [hb]
          simp only [Bool.toNat_true, Nat.add_mul, Nat.mul_add, Nat.mul_assoc, Nat.one_mul]
          generalize q * g = z at *
          refine ⟨by omega, by omega, fun h => by omega, fun h => by omega⟩
        · have hb : (decide (g < 2 * r) || (g == 2 * r && q % 2 == 1)) = false := by simp [c1, c3]
          rw [hb]
          simp only [Bool.toNat_false, Nat.add_zero, Nat.add_mul, Nat.mul_add, Nat.mul_assoc, Nat.one_mul]
          generalize q * g = z at *
          refine ⟨by omega, by omega, fun h => by omega, fun h => by omega⟩
      · have hb : (decide (g < 2 * r) || (g == 2 * r && q % 2 == 1)) = false := by simp [c1, c2]
        rw [hb]
        simp only [Bool.toNat_false, Nat.add_zero, Nat.add_mul, Nat.mul_add, Nat.mul_assoc, Nat.one_mul]
        generalize q * g = z at *
        refine ⟨by omega, by omega, fun h => by omega, fun h => by omega⟩
  · rw [Nat.min_eq_right hk]
    have h1 : X < 2 ^ (X.log2 + 1) := Nat.lt_log2_self
    have h2 : 2 ^ (X.log2 + 2) = 2 * 2 ^ (X.log2 + 1) := by rw [Nat.pow_succ]; omega
    have h3 : 2 ^ (X.log2 + 2) ≤ 2 ^ D := Nat.pow_le_pow_right (by decide) hk
    rw [h2] at h3 ⊢
    generalize 2 ^ (X.log2 + 1) = g at *
    rw [Nat.div_eq_of_lt (by omega), Nat.mod_eq_of_lt (by omega)]
    have hb : (decide (2 * g < 2 * X) || (2 * g == 2 * X && 0 % 2 == 1)) = false := by
      have : ¬ 2 * g < 2 * X := by omega
      simp [this]
    rw [hb]
    simp
    omega
theorem pl_val {x : Nat} : ∃ X D, va x * U D = X * U 1074 ∧ X = mg x <<< (-1074 + (pl x : Nat) : Int).toNat ∧ D = (-(-1074 + (pl x : Nat) : Int)).toNat := by
  refine ⟨_, _, ?_, rfl, rfl⟩
  rw [va_eq, Nat.shiftLeft_eq, U_pow, U_pow, Nat.mul_assoc, Nat.mul_assoc, ← U_add, ← U_add]
  congr 2
  omega
theorem enc_nat (n : Nat) : FloatKind.f64.encode (.number false n 0) = fofint (n : Int) := by
  rw [nearest_nat]
  unfold FloatKind.encode
  rw [fmt]
  show Ieee.double.nearest false n 0 = _
  rw [nearest_rn, word_pos]
theorem scale_le {v X D c : Nat} (h : v * U D = X * U 1074) : c * U D ≤ X ↔ c * U 1074 ≤ v := by
  constructor
  · intro h1
    have : c * U D * U 1074 ≤ v * U D := by rw [h]; exact Nat.mul_le_mul_right _ h1
    rw [Nat.mul_assoc, Nat.mul_comm (U D), ← Nat.mul_assoc] at this
    exact Nat.le_of_mul_le_mul_right this (U_pos D)
  · intro h1
    have : c * U 1074 * U D ≤ X * U 1074 := by rw [← h]; exact Nat.mul_le_mul_right _ h1
    rw [Nat.mul_assoc, Nat.mul_comm (U 1074), ← Nat.mul_assoc] at this
    exact Nat.le_of_mul_le_mul_right this (U_pos 1074)
/-- A float that is not below nought, made whole. -/
theorem fround_spec {x : Nat} (hx : x < 9218868437227405312) :
    froundOk x = true ∧ (∃ n, fround .zero x = fofint (n : Nat) ∧ fround .down x = fofint (n : Nat) ∧ n * U 1074 ≤ va x ∧ va x < (n + 1) * U 1074) ∧
    ∃ e, fround .even x = fofint (e : Nat) ∧ (2 * e) * U 1074 ≤ 2 * va x + U 1074 ∧ 2 * va x ≤ (2 * e + 1) * U 1074 ∧ (2 * va x = (2 * e + 1) * U 1074 → e % 2 = 0) ∧ ((2 * e) * U 1074 = 2 * va x + U 1074 → e % 2 = 0) := by
  obtain ⟨X, D, h, hX, hD⟩ := pl_val (x := x)
  have hd : FloatKind.f64.decode x = .number false (mg x) (-1074 + (pl x : Nat)) := read_pos hx
  have hw : ∀ way, fround way x = fofint ((way.cut false X D : Nat) : Int) := fun way => by
    unfold fround
    rw [hd]
    simp only [Ieee.Datum.integral]
    rw [← hX, ← hD, enc_nat]
  refine ⟨by unfold froundOk; rw [hd], ⟨_, hw .zero, by rw [hw .down, cut_down], ?_, ?_⟩, _, hw .even, ?_, ?_, ?_, ?_⟩
  · have := (cut_zero X D).1
    rw [U_pow] at this
    exact (scale_le h).1 this
  · have := (cut_zero X D).2
    rw [U_pow] at this
    have h1 : ¬ (Ieee.Toward.zero.cut false X D + 1) * U D ≤ X := by omega
    rw [scale_le h] at h1
    omega
  all_goals
    obtain ⟨h1, h2, h3, h4⟩ := cut_even X D
    simp only [U_pow] at h1 h2 h3 h4
    generalize Ieee.Toward.even.cut false X D = e at *
    have hD0 := U_pos D
    have hK0 := U_pos 1074
    have up : ∀ a b : Nat, a * U D ≤ 2 * X + b * U D → a * U 1074 ≤ 2 * va x + b * U 1074 := fun a b hh => by
      have : a * U D * U 1074 ≤ (2 * va x + b * U 1074) * U D := by
        calc a * U D * U 1074 ≤ (2 * X + b * U D) * U 1074 := Nat.mul_le_mul_right _ hh
          _ = 2 * (X * U 1074) + b * U D * U 1074 := by rw [Nat.add_mul, Nat.mul_assoc 2]
          _ = 2 * (va x * U D) + b * U 1074 * U D := by rw [h]; congr 1; ac_rfl
          _ = _ := by rw [Nat.add_mul, Nat.mul_assoc 2]
      rw [Nat.mul_assoc, Nat.mul_comm (U D), ← Nat.mul_assoc] at this
      exact Nat.le_of_mul_le_mul_right this hD0
    have dn : ∀ a b : Nat, 2 * X + b * U D ≤ a * U D → 2 * va x + b * U 1074 ≤ a * U 1074 := fun a b hh => by
      have : (2 * va x + b * U 1074) * U D ≤ a * U D * U 1074 := by
        calc (2 * va x + b * U 1074) * U D = 2 * (va x * U D) + b * U 1074 * U D := by rw [Nat.add_mul, Nat.mul_assoc 2]
          _ = 2 * (X * U 1074) + b * U D * U 1074 := by rw [h]; congr 1; ac_rfl
          _ = (2 * X + b * U D) * U 1074 := by rw [Nat.add_mul, Nat.mul_assoc 2]
          _ ≤ _ := Nat.mul_le_mul_right _ hh
      rw [Nat.mul_assoc, Nat.mul_comm (U D), ← Nat.mul_assoc] at this
      exact Nat.le_of_mul_le_mul_right this hD0
    have upi : ∀ a b : Nat, a * U 1074 ≤ 2 * va x + b * U 1074 → a * U D ≤ 2 * X + b * U D := fun a b hh => by
      have : a * U D * U 1074 ≤ (2 * X + b * U D) * U 1074 := by
        calc a * U D * U 1074 = a * U 1074 * U D := by ac_rfl
          _ ≤ (2 * va x + b * U 1074) * U D := Nat.mul_le_mul_right _ hh
          _ = 2 * (va x * U D) + b * U 1074 * U D := by rw [Nat.add_mul, Nat.mul_assoc 2]
          _ = 2 * (X * U 1074) + b * U D * U 1074 := by rw [h]; congr 1; ac_rfl
          _ = _ := by rw [Nat.add_mul, Nat.mul_assoc 2]
      exact Nat.le_of_mul_le_mul_right this hK0
    have dni : ∀ a b : Nat, 2 * va x + b * U 1074 ≤ a * U 1074 → 2 * X + b * U D ≤ a * U D := fun a b hh => by
      have : (2 * X + b * U D) * U 1074 ≤ a * U D * U 1074 := by
        calc (2 * X + b * U D) * U 1074 = 2 * (X * U 1074) + b * U D * U 1074 := by rw [Nat.add_mul, Nat.mul_assoc 2]
          _ = 2 * (va x * U D) + b * U 1074 * U D := by rw [h]; congr 1; ac_rfl
          _ = (2 * va x + b * U 1074) * U D := by rw [Nat.add_mul, Nat.mul_assoc 2]
          _ ≤ a * U 1074 * U D := Nat.mul_le_mul_right _ hh
          _ = _ := by ac_rfl
      exact Nat.le_of_mul_le_mul_right this hK0
  · have := up (2 * e) 1 (by omega); omega
  · have := dn (2 * e + 1) 0 (by omega); omega
  · intro hh
    have p1 := upi (2 * e + 1) 0 (by omega)
    have p2 := dni (2 * e + 1) 0 (by omega)
    exact h3 (by omega)
  · intro hh
    have p1 := upi (2 * e) 1 (by omega)
    have p2 := dni (2 * e) 1 (by omega)
    exact h4 (by omega)
/-! ### powers of two -/
theorem va_up {a : Nat} (s : Nat) (h : 4503599627370496 ≤ a) : va (a + s * 4503599627370496) = va a * U s := by
  obtain ⟨q, m, hm, h1, h2⟩ := va_split a h
  rw [h2, U_pow, Nat.mul_assoc, ← U_add, ← va_U hm]
  congr 1
  omega
theorem read_pow_val {c s : Nat} (hc : c = (1022 + s + 1) * 4503599627370496) : va c = U 1074 * U s := by
  have := va_U (q := 1022 + s) (m := 0) (by decide)
  simp only [Nat.add_zero] at this
  rw [hc, this, ← U52, ← U_add, ← U_add]
  congr 1
  omega
/-- Multiplying by a power of two. -/
theorem fmul_two {a c s : Nat} (hc : c = (1022 + s + 1) * 4503599627370496) (hs : s ≤ 100) (h1 : 4503599627370496 ≤ a) (h2 : a + s * 4503599627370496 ≤ 9218868437227405312) (h3 : a < 9218868437227405312) : fmulOk a c = true ∧ fmul a c = a + s * 4503599627370496 := by
  have hc2 : c < 9218868437227405312 := by omega
  have hv := read_pow_val hc
  refine ⟨(fmul_fin h3 hc2).1, ?_⟩
  have hu : va a * va c = va (a + s * 4503599627370496) * U 1074 := by rw [hv, va_up s h1]; ac_rfl
  have p1 := fmul_le (r := a + s * 4503599627370496) h3 hc2 (by rw [hu]; exact Nat.le_refl _)
  have p2 := le_fmul (r := a + s * 4503599627370496) h3 hc2 h2 (by rw [hu]; exact Nat.le_refl _)
  omega
theorem fdiv_two {a c s : Nat} (hc : Ieee.double.read c = .number false 4503599627370496 (-52 + (s : Nat))) (hs : s ≤ 52) (h1 : (s + 1) * 4503599627370496 ≤ a) (h3 : a < 9218868437227405312) : fdivOk a c = true ∧ fdiv a c = a - s * 4503599627370496 := by
  obtain ⟨h4, h5, h6⟩ := fdiv_pow h3 hc hs
  refine ⟨h4, ?_⟩
  obtain ⟨b, hb⟩ : ∃ b, a = b + s * 4503599627370496 := ⟨a - s * 4503599627370496, by omega⟩
  have hu : va a = va b * U s := by rw [hb, va_up s (by omega)]
  have p1 := h5 b (by rw [hu]; exact Nat.le_refl _)
  have p2 := h6 b (by omega) (by rw [hu]; exact Nat.le_refl _)
  omega
end Go.Proofs.YtjodekffbobmlaaW.PrintWords
