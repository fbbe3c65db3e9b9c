import Derived.Test.YtgmjlhpigfaicaaXRx30
import Derived.Test.YtgmjlhpigfaicaaWRows
import Derived.Test.YtgmjlhpigfaicaaWFloat
import Derived.Test.YtgmjlhpigfaicaaRows
import Derived.WalkKit
import Derived.ProofKit
import Derived.OpenShut
import Derived.ShutString
import Derived.ChangeOld
import Derived.Below
import Derived.SizedLaws
/- The law ForwardRoads as a statement over numbers and lists, and how its arguments are opened. (Written by xprint.py, a program of this session.) -/
namespace Go.Proofs.Ytgmjlhpigfaicaa.XR.ForwardRoads
open Go.RowKit Go.Proofs.YtgmjlhpigfaicaaW.PrintWords
set_option linter.unusedVariables false
def G108 (x : S108) : Prop := ((-9223372036854775808) ≤ x.f0 ∧ x.f0 ≤ 9223372036854775807) ∧ (True) ∧ (True)
def G117 (x : S117) : Prop := ((-9223372036854775808) ≤ x.f0 ∧ x.f0 ≤ 9223372036854775807) ∧ ((-9223372036854775808) ≤ x.f1 ∧ x.f1 ≤ 9223372036854775807) ∧ (x.f2 < 18446744073709551616) ∧ (True)
def G67 (x : S67) : Prop := (x.f0.length * 16 ≤ 140737488351232 ∧ ∀ y ∈ x.f0, G108 y) ∧ (x.f1.length * 32 ≤ 140737488351232 ∧ ∀ y ∈ x.f1, G117 y)
def G69 (x : S69) : Prop := ((-9223372036854775808) ≤ x.f0 ∧ x.f0 ≤ 9223372036854775807) ∧ ((-9223372036854775808) ≤ x.f1 ∧ x.f1 ≤ 9223372036854775807)
/-- The statement over numbers and lists. -/
def Pure : Prop := ∀ (a0 : S67) (a1 : Nat) (a2 : S69), (G67 a0) → (a1 < 18446744073709551616) → (G69 a2) → ∃ k, beaconlaw19_ForwardRoads.f k (a0).f0 (a0).f1 a1 (a2).f0 (a2).f1 = some true
theorem opens117 : Opens Try.prog 117 k117 G117 := (Opens.struct (fun a => ⟨a.1, a.2.1, a.2.2.1, a.2.2.2⟩) (fun _ => rfl) Try.underlying117 (by kernel_rfl) (OpensF.cons rfl (Opens.int Try.underlying3 (by kernel_rfl) (lo := -9223372036854775808) (hi := 9223372036854775807) (by decide) (by decide)) (OpensF.cons rfl (Opens.int Try.underlying3 (by kernel_rfl) (lo := -9223372036854775808) (hi := 9223372036854775807) (by decide) (by decide)) (OpensF.cons rfl (Opens.float Try.underlying37 (by kernel_rfl)) (OpensF.one rfl (Opens.bool Try.underlying4 (by kernel_rfl))))))).mono (fun _ h => h)
theorem opens108 : Opens Try.prog 108 k108 G108 := (Opens.struct (fun a => ⟨a.1, a.2.1, a.2.2⟩) (fun _ => rfl) Try.underlying108 (by kernel_rfl) (OpensF.cons rfl (Opens.int Try.underlying3 (by kernel_rfl) (lo := -9223372036854775808) (hi := 9223372036854775807) (by decide) (by decide)) (OpensF.cons rfl (Opens.bool Try.underlying4 (by kernel_rfl)) (OpensF.one rfl (Opens.bool Try.underlying4 (by kernel_rfl)))))).mono (fun _ h => h)
theorem opens67 : Opens Try.prog 67 k67 G67 := (Opens.struct (fun a => ⟨a.1, a.2⟩) (fun _ => rfl) Try.underlying67 (by kernel_rfl) (OpensF.cons rfl (Opens.slice (B := 16) Try.underlying64 (by kernel_rfl) (by kernel_rfl) opens108) (OpensF.one rfl (Opens.slice (B := 32) Try.underlying65 (by kernel_rfl) (by kernel_rfl) opens117)))).mono (fun _ h => h)
theorem opens69 : Opens Try.prog 69 k69 G69 := (Opens.struct (fun a => ⟨a.1, a.2⟩) (fun _ => rfl) Try.underlying69 (by kernel_rfl) (OpensF.cons rfl (Opens.int Try.underlying3 (by kernel_rfl) (lo := -9223372036854775808) (hi := 9223372036854775807) (by decide) (by decide)) (OpensF.one rfl (Opens.int Try.underlying3 (by kernel_rfl) (lo := -9223372036854775808) (hi := 9223372036854775807) (by decide) (by decide))))).mono (fun _ h => h)
end Go.Proofs.Ytgmjlhpigfaicaa.XR.ForwardRoads
/- What the operations of float64 are, over its bits as natural numbers: plain laws. -/
namespace Go.Proofs.YtgmjlhpigfaicaaW.PrintWords
/-- The rungs' values, in units of 2^-1074. -/
def va (r : Nat) : Nat := if r < 4503599627370496 then r else (4503599627370496 + r % 4503599627370496) * 2 ^ (r / 4503599627370496 - 1)
theorem va_small {r : Nat} (h : r ≤ 9007199254740992) : va r = r := by
  unfold va
  split
  · rfl
  · by_cases h2 : r = 9007199254740992
    · subst h2; rfl
    · have h3 : r / 4503599627370496 = 1 := by omega
      have h4 : 4503599627370496 + r % 4503599627370496 = r := by omega
      rw [h3, h4]; simp
theorem va_big {q m : Nat} (hm : m < 4503599627370496) : va ((q + 1) * 4503599627370496 + m) = (4503599627370496 + m) * 2 ^ q := by
  unfold va
  have h1 : ¬ ((q + 1) * 4503599627370496 + m < 4503599627370496) := by omega
  have h2 : ((q + 1) * 4503599627370496 + m) % 4503599627370496 = m := by omega
  have h3 : ((q + 1) * 4503599627370496 + m) / 4503599627370496 = q + 1 := by omega
  rw [if_neg h1, h2, h3]; rfl
theorem va_split (r : Nat) (h : 4503599627370496 ≤ r) : ∃ q m, m < 4503599627370496 ∧ r = (q + 1) * 4503599627370496 + m ∧ va r = (4503599627370496 + m) * 2 ^ q := by
  refine ⟨r / 4503599627370496 - 1, r % 4503599627370496, by omega, by omega, ?_⟩
  have := va_big (q := r / 4503599627370496 - 1) (m := r % 4503599627370496) (by omega)
  rw [← this]
  congr 1
  omega
theorem va_lt {r s : Nat} (h : r < s) : va r < va s := by
  by_cases hs : s ≤ 9007199254740992
  · rw [va_small hs, va_small (by omega)]; exact h
  · obtain ⟨q, m, hm, hs1, hs2⟩ := va_split s (by omega)
    by_cases hr : r < 4503599627370496
    · rw [va_small (by omega), hs2]
      have : 1 ≤ 2 ^ q := Nat.one_le_two_pow
      calc r < 4503599627370496 * 1 := by omega
        _ ≤ (4503599627370496 + m) * 2 ^ q := Nat.mul_le_mul (by omega) this
    · obtain ⟨p, n, hn, hr1, hr2⟩ := va_split r (by omega)
      rw [hr2, hs2]
      have hpq : p ≤ q := by omega
      rcases Nat.lt_or_eq_of_le hpq with hlt | heq
      · obtain ⟨d, rfl⟩ : ∃ d, q = p + 1 + d := ⟨q - p - 1, by omega⟩
        calc (4503599627370496 + n) * 2 ^ p < 9007199254740992 * 2 ^ p := Nat.mul_lt_mul_of_pos_right (by omega) (Nat.two_pow_pos p)
          _ = 4503599627370496 * 2 ^ (p + 1) := by rw [Nat.pow_succ]; omega
          _ ≤ 4503599627370496 * 2 ^ (p + 1 + d) := Nat.mul_le_mul_left _ (Nat.pow_le_pow_right (by decide) (by omega))
          _ ≤ (4503599627370496 + m) * 2 ^ (p + 1 + d) := Nat.mul_le_mul_right _ (by omega)
      · subst heq
        exact Nat.mul_lt_mul_of_pos_right (by omega) (Nat.two_pow_pos p)
theorem va_le {r s : Nat} (h : r ≤ s) : va r ≤ va s := by
  rcases Nat.lt_or_eq_of_le h with h | h
  · exact Nat.le_of_lt (va_lt h)
  · subst h; exact Nat.le_refl _
theorem lt_of_va {r s : Nat} (h : va r < va s) : r < s := by
  rcases Nat.lt_or_ge r s with h1 | h1
  · exact h1
  · have := va_le h1; omega
theorem le_of_va {r s : Nat} (h : va r ≤ va s) : r ≤ s := by
  rcases Nat.lt_or_ge s r with h1 | h1
  · have := va_lt h1; omega
  · exact h1

/-! ### words -/
/-- A finite word's parts: sign, digits, place. -/
def mg (r : Nat) : Nat := if r < 4503599627370496 then r else 4503599627370496 + r % 4503599627370496
def pl (r : Nat) : Nat := if r < 4503599627370496 then 0 else r / 4503599627370496 - 1
theorem va_eq (r : Nat) : va r = mg r * 2 ^ pl r := by
  unfold va mg pl
  split <;> simp
theorem fmt : FloatKind.f64.format = Ieee.double := rfl
theorem sw : Ieee.double.signWeight = 9223372036854775808 := by decide
theorem bn : Ieee.double.binade = 4503599627370496 := by decide
theorem ir : Ieee.double.infRung = 9218868437227405312 := by decide
theorem lp : Ieee.double.leastPlace = -1074 := by decide
theorem read_fin {b : Nat} (s : Bool) (hs : (b / 9223372036854775808 % 2 == 1) = s) (h : b % 9223372036854775808 < 9218868437227405312) :
    Ieee.double.read b = .number s (mg (b % 9223372036854775808)) (-1074 + (pl (b % 9223372036854775808) : Nat)) := by
  unfold Ieee.Format.read
  simp only [sw, bn, ir, lp, hs]
  unfold mg pl
  split
  · rename_i h1
    simp
  · simp
theorem read_inf {b : Nat} (s : Bool) (hs : (b / 9223372036854775808 % 2 == 1) = s) (h : b % 9223372036854775808 = 9218868437227405312) : Ieee.double.read b = .infinity s := by
  unfold Ieee.Format.read
  simp only [sw, bn, ir, lp, hs, h]
  rfl
theorem read_nan {b : Nat} (s : Bool) (hs : (b / 9223372036854775808 % 2 == 1) = s) (h : 9218868437227405312 < b % 9223372036854775808) : Ieee.double.read b = .nan s (b % 9223372036854775808 - 9218868437227405312) := by
  unfold Ieee.Format.read
  simp only [sw, bn, ir, lp, hs]
  rw [if_neg (by omega), if_neg (by omega), if_neg (by omega)]
theorem read_pos {b : Nat} (h : b < 9218868437227405312) : Ieee.double.read b = .number false (mg b) (-1074 + (pl b : Nat)) := by
  have h2 : b % 9223372036854775808 = b := by omega
  have h1 : (b / 9223372036854775808 % 2 == 1) = false := by
    have : b / 9223372036854775808 = 0 := by omega
    rw [this]; rfl
  have := read_fin (b := b) false h1 (by omega)
  rw [h2] at this
  exact this
theorem read_pinf : Ieee.double.read 9218868437227405312 = .infinity false := by decide +kernel

/-! ### rounding -/
theorem cut_le (neg : Bool) {n drop t : Nat} (h : n ≤ t * 2 ^ drop) : Ieee.Toward.even.cut neg n drop ≤ t := by
  unfold Ieee.Toward.cut
  simp only [Nat.one_shiftLeft]
  rcases Nat.le_total drop (n.log2 + 2) with hk | hk
  · rw [Nat.min_eq_left hk]
    have hp := Nat.two_pow_pos drop
    generalize 2 ^ drop = g at *
    have hd : n / g ≤ t := Nat.div_le_of_le_mul (by rw [Nat.mul_comm]; exact h)
    rcases Nat.lt_or_eq_of_le hd with h1 | h1
    · have : ∀ b : Bool, n / g + b.toNat ≤ t := fun b => by cases b <;> simp <;> omega
      exact this _
    · have h2 : n % g = 0 := by
        have := Nat.div_add_mod n g
        rw [h1, Nat.mul_comm] at this
        omega
      rw [h2]
      have h3 : (decide (g < 2 * 0) || (g == 2 * 0 && n / g % 2 == 1)) = false := by
        have : ¬ (g == 0) = true := by simp; omega
        simp [this]
      rw [h3]
      simp [h1]
  · rw [Nat.min_eq_right hk]
    by_cases h0 : n = 0
    · subst h0; simp
    · have h1 : n < 2 ^ (n.log2 + 1) := Nat.lt_log2_self
      have h2 : 2 ^ (n.log2 + 2) = 2 * 2 ^ (n.log2 + 1) := by rw [Nat.pow_succ]; omega
      rw [h2]
      generalize 2 ^ (n.log2 + 1) = g at *
      have h3 : n / (2 * g) = 0 := Nat.div_eq_of_lt (by omega)
      have h4 : n % (2 * g) = n := Nat.mod_eq_of_lt (by omega)
      rw [h3, h4]
      have h5 : (decide (2 * g < 2 * n) || (2 * g == 2 * n && 0 % 2 == 1)) = false := by simp; omega
      rw [h5]
      simp
theorem le_cut (neg : Bool) {n drop t : Nat} (h : t * 2 ^ drop ≤ n) : t ≤ Ieee.Toward.even.cut neg n drop := by
  unfold Ieee.Toward.cut
  simp only [Nat.one_shiftLeft]
  rcases Nat.le_total drop (n.log2 + 2) with hk | hk
  · rw [Nat.min_eq_left hk]
    have hd : t ≤ n / 2 ^ drop := (Nat.le_div_iff_mul_le (Nat.two_pow_pos drop)).2 h
    omega
  · have h1 : n < 2 ^ (n.log2 + 1) := Nat.lt_log2_self
    have h2 : 2 ^ (n.log2 + 1) ≤ 2 ^ drop := Nat.pow_le_pow_right (by decide) (by omega)
    have h3 : t = 0 := by
      rcases Nat.eq_zero_or_pos t with h3 | h3
      · exact h3
      · have : 1 * 2 ^ drop ≤ t * 2 ^ drop := Nat.mul_le_mul_right _ h3
        omega
    subst h3
    exact Nat.zero_le _
/-- The rung that a number is rounded to. -/
def rn (mag : Nat) (place : Int) : Nat := if mag = 0 then 0 else
  min ((max (place + mag.log2 - 52) (-1074) + 1074).toNat * 4503599627370496 + Ieee.Toward.even.cut false (mag <<< (place - max (place + mag.log2 - 52) (-1074)).toNat) (max (place + mag.log2 - 52) (-1074) - place).toNat) 9218868437227405312
theorem nearest_rn (neg : Bool) (mag : Nat) (place : Int) : Ieee.double.nearest neg mag place = Ieee.double.word neg (rn mag place) := by
  unfold Ieee.Format.nearest rn
  have hf : Ieee.double.fractionBits = 52 := rfl
  simp only [hf, lp, bn, ir]
  split
  · rfl
  · congr 1
theorem rn_inf (mag : Nat) (place : Int) : rn mag place ≤ 9218868437227405312 := by
  unfold rn
  split
  · omega
  · exact Nat.min_le_right _ _
theorem round_le {X u e kept r : Nat} (hu : 0 < u) (hR1 : ∀ t, X ≤ t * (2 ^ e * u) → kept ≤ t) (hlt : X ≤ 9007199254740992 * (2 ^ e * u)) (hge : e = 0 ∨ 4503599627370496 * (2 ^ e * u) ≤ X) (h : X ≤ va r * u) : e * 4503599627370496 + kept ≤ r := by
  have hk := hR1 _ hlt
  rcases hge with he | hge
  · subst he
    by_cases hr : r ≤ 9007199254740992
    · rw [va_small hr] at h
      have := hR1 r (by simpa using h)
      omega
    · omega
  · have h1 : 4503599627370496 * 2 ^ e ≤ va r := by
      have h2 : 4503599627370496 * 2 ^ e * u ≤ va r * u := by rw [Nat.mul_assoc]; exact Nat.le_trans hge h
      exact Nat.le_of_mul_le_mul_right h2 hu
    have h3 := va_big (q := e) (m := 0) (by decide)
    rw [Nat.add_zero, Nat.add_zero] at h3
    have h4 : (e + 1) * 4503599627370496 ≤ r := le_of_va (by rw [h3]; exact h1)
    obtain ⟨q, m, hm, hr1, hr2⟩ := va_split r (by omega)
    have hqe : e ≤ q := by omega
    rcases Nat.lt_or_eq_of_le hqe with h5 | h5
    · omega
    · subst h5
      have := hR1 (4503599627370496 + m) (by rw [← Nat.mul_assoc, ← hr2]; exact h)
      omega
theorem round_ge {X u e kept r : Nat} (hR2 : ∀ t, t * (2 ^ e * u) ≤ X → t ≤ kept) (hlt : X < 9007199254740992 * (2 ^ e * u)) (hge : e = 0 ∨ 4503599627370496 * (2 ^ e * u) ≤ X) (h : va r * u ≤ X) : r ≤ e * 4503599627370496 + kept := by
  have h1 : va r < 9007199254740992 * 2 ^ e := by
    have h2 : va r * u < 9007199254740992 * 2 ^ e * u := by rw [Nat.mul_assoc]; omega
    exact Nat.lt_of_mul_lt_mul_right h2
  rcases hge with he | hge
  · subst he
    have h3 : r < 9007199254740992 := lt_of_va (by rw [va_small (r := 9007199254740992) (Nat.le_refl _)]; simpa using h1)
    rw [va_small (by omega)] at h
    have := hR2 r (by simpa using h)
    omega
  · have h3 := va_big (q := e + 1) (m := 0) (by decide)
    rw [Nat.add_zero, Nat.add_zero] at h3
    have h4 : r < (e + 1 + 1) * 4503599627370496 := lt_of_va (by rw [h3, Nat.pow_succ]; omega)
    have hk := hR2 _ hge
    by_cases h5 : r < (e + 1) * 4503599627370496
    · omega
    · obtain ⟨q, m, hm, hr1, hr2⟩ := va_split r (by omega)
      have : q = e := by omega
      subst this
      have := hR2 (4503599627370496 + m) (by rw [← Nat.mul_assoc, ← hr2]; exact h)
      omega
/-- What the rounding sees of a number: its place among the rungs' values, with a common unit. -/
theorem rn_parts {mag : Nat} {place : Int} (K : Nat) (hK : 1074 ≤ K) (hp : 0 ≤ place + K) (hm : mag ≠ 0) :
    ∃ e kept, rn mag place = min (e * 4503599627370496 + kept) 9218868437227405312 ∧
      (∀ t, mag * 2 ^ (place + K).toNat ≤ t * (2 ^ e * 2 ^ (K - 1074)) → kept ≤ t) ∧ (∀ t, t * (2 ^ e * 2 ^ (K - 1074)) ≤ mag * 2 ^ (place + K).toNat → t ≤ kept) ∧
      mag * 2 ^ (place + K).toNat < 9007199254740992 * (2 ^ e * 2 ^ (K - 1074)) ∧ (e = 0 ∨ 4503599627370496 * (2 ^ e * 2 ^ (K - 1074)) ≤ mag * 2 ^ (place + K).toNat) := by
  obtain ⟨P, hP⟩ : ∃ P : Nat, (P : Int) = place + K := ⟨(place + K).toNat, by omega⟩
  have hP' : (place + K).toNat = P := by omega
  rw [hP']
  obtain ⟨D, hD⟩ : ∃ D : Nat, K = D + 1074 := ⟨K - 1074, by omega⟩
  have hD' : K - 1074 = D := by omega
  rw [hD']
  have h2l : 2 ^ mag.log2 ≤ mag := Nat.log2_self_le hm
  have h2u : mag < 2 ^ (mag.log2 + 1) := Nat.lt_log2_self
  unfold rn
  rw [if_neg hm]
  generalize mag.log2 = L at *
  obtain ⟨e, he⟩ : ∃ e : Nat, (e : Int) = max (place + L - 52) (-1074) + 1074 := ⟨(max (place + L - 52) (-1074) + 1074).toNat, by omega⟩
  have hl : max (place + L - 52) (-1074) = (e : Int) - 1074 := by omega
  rw [hl]
  have he' : ((e : Int) - 1074 + 1074).toNat = e := by omega
  rw [he']
  refine ⟨e, _, rfl, ?_, ?_, ?_, ?_⟩
  · intro t ht
    rw [← Nat.pow_add] at ht
    refine cut_le _ ?_
    rw [Nat.shiftLeft_eq]
    rcases Int.le_total ((e : Int) - 1074) place with hc | hc
    · have h1 : ((e : Int) - 1074 - place).toNat = 0 := by omega
      have h2 : P = (e + D) + (place - ((e : Int) - 1074)).toNat := by omega
      rw [h1]
      rw [h2, Nat.pow_add 2 (e + D), Nat.mul_comm (2 ^ (e + D)), ← Nat.mul_assoc] at ht
      simpa using Nat.le_of_mul_le_mul_right ht (Nat.two_pow_pos _)
    · have h1 : (place - ((e : Int) - 1074)).toNat = 0 := by omega
      have h2 : e + D = P + ((e : Int) - 1074 - place).toNat := by omega
      rw [h1]
      rw [h2, Nat.pow_add 2 P, Nat.mul_comm (2 ^ P) (2 ^ _), ← Nat.mul_assoc] at ht
      simpa using Nat.le_of_mul_le_mul_right ht (Nat.two_pow_pos _)
  · intro t ht
    rw [← Nat.pow_add] at ht
    refine le_cut _ ?_
    rw [Nat.shiftLeft_eq]
    rcases Int.le_total ((e : Int) - 1074) place with hc | hc
    · have h1 : ((e : Int) - 1074 - place).toNat = 0 := by omega
      have h2 : P = (e + D) + (place - ((e : Int) - 1074)).toNat := by omega
      rw [h1]
      rw [h2, Nat.pow_add 2 (e + D), Nat.mul_comm (2 ^ (e + D)), ← Nat.mul_assoc] at ht
      simpa using Nat.le_of_mul_le_mul_right ht (Nat.two_pow_pos _)
    · have h1 : (place - ((e : Int) - 1074)).toNat = 0 := by omega
      have h2 : e + D = P + ((e : Int) - 1074 - place).toNat := by omega
      rw [h1]
      rw [h2, Nat.pow_add 2 P, Nat.mul_comm (2 ^ P) (2 ^ _), ← Nat.mul_assoc] at ht
      simpa using Nat.le_of_mul_le_mul_right ht (Nat.two_pow_pos _)
  · have h1 : L + 1 + P ≤ 53 + (e + D) := by omega
    have h3 : (9007199254740992 : Nat) = 2 ^ 53 := by decide
    rw [h3, ← Nat.pow_add, ← Nat.pow_add]
    calc mag * 2 ^ P < 2 ^ (L + 1) * 2 ^ P := Nat.mul_lt_mul_of_pos_right h2u (Nat.two_pow_pos _)
      _ = 2 ^ (L + 1 + P) := (Nat.pow_add _ _ _).symm
      _ ≤ 2 ^ (53 + (e + D)) := Nat.pow_le_pow_right (by decide) h1
  · rcases Nat.eq_zero_or_pos e with h0 | h0
    · exact .inl h0
    · right
      have h1 : 52 + (e + D) = L + P := by omega
      have h3 : (4503599627370496 : Nat) = 2 ^ 52 := by decide
      rw [h3, ← Nat.pow_add, ← Nat.pow_add, h1, Nat.pow_add]
      exact Nat.mul_le_mul_right _ h2l
theorem rn_le {mag : Nat} {place : Int} {r : Nat} (K : Nat) (hK : 1074 ≤ K) (hp : 0 ≤ place + K) (h : mag * 2 ^ (place + K).toNat ≤ va r * 2 ^ (K - 1074)) : rn mag place ≤ r := by
  by_cases hm : mag = 0
  · unfold rn; rw [if_pos hm]; exact Nat.zero_le _
  · obtain ⟨e, kept, hr, h1, _, h3, h4⟩ := rn_parts K hK hp hm
    rw [hr]
    exact Nat.le_trans (Nat.min_le_left _ _) (round_le (Nat.two_pow_pos _) h1 (Nat.le_of_lt h3) h4 h)
theorem le_rn {mag : Nat} {place : Int} {r : Nat} (K : Nat) (hK : 1074 ≤ K) (hp : 0 ≤ place + K) (hr : r ≤ 9218868437227405312) (h : va r * 2 ^ (K - 1074) ≤ mag * 2 ^ (place + K).toNat) : r ≤ rn mag place := by
  by_cases hm : mag = 0
  · subst hm
    rw [Nat.zero_mul] at h
    have h1 : va r = 0 := by
      rcases Nat.eq_zero_or_pos (va r) with h1 | h1
      · exact h1
      · have := Nat.mul_pos h1 (Nat.two_pow_pos (K - 1074)); omega
    have : r ≤ 0 := le_of_va (by rw [h1]; exact Nat.zero_le _)
    omega
  · obtain ⟨e, kept, hr', _, h2, h3, h4⟩ := rn_parts K hK hp hm
    rw [hr']
    exact Nat.le_min.2 ⟨round_ge h2 h3 h4 h, hr⟩

/-! ### order -/
/-- A word's place in the order: no NaN's. -/
def key (a : Nat) : Int := if a < 9223372036854775808 then (a : Int) else -((a - 9223372036854775808 : Nat) : Int)
def isN (a : Nat) : Prop := 9218868437227405312 < a % 9223372036854775808
theorem cmp_congr {a b c d : Int} (h1 : a < b ↔ c < d) (h2 : a = b ↔ c = d) : compare a b = compare c d := by
  show compareOfLessAndEq a b = compareOfLessAndEq c d
  unfold compareOfLessAndEq
  simp [h1, h2]
theorem cmp_of_lt {a b : Int} (h : a < b) : compare a b = .lt := by
  show compareOfLessAndEq a b = _
  unfold compareOfLessAndEq
  simp [h]
theorem cmp_of_gt {a b : Int} (h : b < a) : compare a b = .gt := by
  show compareOfLessAndEq a b = _
  unfold compareOfLessAndEq
  have h1 : ¬ a < b := by omega
  have h2 : ¬ a = b := by omega
  simp [h1, h2]
theorem cmp_of_eq {a b : Int} (h : a = b) : compare a b = .eq := by
  show compareOfLessAndEq a b = _
  unfold compareOfLessAndEq
  simp [h]
theorem signed_val (s : Bool) (r : Nat) (c : Nat) (hc : c ≤ pl r) : Ieee.signed s (mg r) ((-1074 + (pl r : Nat) : Int) - (-1074 + (c : Nat) : Int)).toNat * ((2 ^ c : Nat) : Int) = if s then -((va r : Nat) : Int) else ((va r : Nat) : Int) := by
  have h1 : ((-1074 + (pl r : Nat) : Int) - (-1074 + (c : Nat) : Int)).toNat = pl r - c := by omega
  have h2 : (mg r <<< (pl r - c)) * 2 ^ c = va r := by
    rw [va_eq, Nat.shiftLeft_eq, Nat.mul_assoc, ← Nat.pow_add, Nat.sub_add_cancel hc]
  rw [h1]
  unfold Ieee.signed
  cases s
  · simp only [Bool.false_eq_true, if_false]
    rw [← h2]; simp
  · simp only [if_true]
    rw [← h2, Int.neg_mul]; simp
theorem sgn_lt {s t : Bool} {r q : Nat} : (if s then -((va r : Nat) : Int) else ((va r : Nat) : Int)) < (if t then -((va q : Nat) : Int) else ((va q : Nat) : Int)) ↔ (if s then -((r : Nat) : Int) else ((r : Nat) : Int)) < (if t then -((q : Nat) : Int) else ((q : Nat) : Int)) := by
  have h0 : va 0 = 0 := va_small (by omega)
  have h1 : va r < va q ↔ r < q := ⟨lt_of_va, va_lt⟩
  have h2 : va q < va r ↔ q < r := ⟨lt_of_va, va_lt⟩
  have h3 : 0 < va r ↔ 0 < r := by rw [← h0]; exact ⟨lt_of_va, va_lt⟩
  have h4 : 0 < va q ↔ 0 < q := by rw [← h0]; exact ⟨lt_of_va, va_lt⟩
  cases s <;> cases t <;> simp only [Bool.false_eq_true, if_false, if_true] <;> omega
theorem sgn_eq {s t : Bool} {r q : Nat} : (if s then -((va r : Nat) : Int) else ((va r : Nat) : Int)) = (if t then -((va q : Nat) : Int) else ((va q : Nat) : Int)) ↔ (if s then -((r : Nat) : Int) else ((r : Nat) : Int)) = (if t then -((q : Nat) : Int) else ((q : Nat) : Int)) := by
  have h0 : va 0 = 0 := va_small (by omega)
  have h1 : va r < va q ↔ r < q := ⟨lt_of_va, va_lt⟩
  have h2 : va q < va r ↔ q < r := ⟨lt_of_va, va_lt⟩
  have h3 : 0 < va r ↔ 0 < r := by rw [← h0]; exact ⟨lt_of_va, va_lt⟩
  have h4 : 0 < va q ↔ 0 < q := by rw [← h0]; exact ⟨lt_of_va, va_lt⟩
  cases s <;> cases t <;> simp only [Bool.false_eq_true, if_false, if_true] <;> omega
theorem order_num (s t : Bool) (r q : Nat) : Ieee.Datum.order (.number s (mg r) (-1074 + (pl r : Nat))) (.number t (mg q) (-1074 + (pl q : Nat))) = some (compare (if s then -((r : Nat) : Int) else ((r : Nat) : Int)) (if t then -((q : Nat) : Int) else ((q : Nat) : Int))) := by
  unfold Ieee.Datum.order
  simp only
  have hb : min (-1074 + (pl r : Nat) : Int) (-1074 + (pl q : Nat) : Int) = -1074 + ((min (pl r) (pl q) : Nat) : Int) := by omega
  rw [hb]
  have h1 := signed_val s r (min (pl r) (pl q)) (Nat.min_le_left _ _)
  have h2 := signed_val t q (min (pl r) (pl q)) (Nat.min_le_right _ _)
  have hp : (0 : Int) < ((2 ^ min (pl r) (pl q) : Nat) : Int) := by have := Nat.two_pow_pos (min (pl r) (pl q)); omega
  generalize ((2 ^ min (pl r) (pl q) : Nat) : Int) = c at *
  congr 1
  refine cmp_congr ?_ ?_
  · rw [← sgn_lt, ← h1, ← h2]
    exact ⟨fun h => Int.mul_lt_mul_of_pos_right h hp, fun h => Int.lt_of_mul_lt_mul_right h (Int.le_of_lt hp)⟩
  · rw [← sgn_eq, ← h1, ← h2]
    exact ⟨fun h => by rw [h], fun h => Int.eq_of_mul_eq_mul_right (by omega) h⟩
/-- A word that is no NaN: its sign and its rung. -/
theorem word_cases {a : Nat} (ha : a < 18446744073709551616) (hn : ¬ isN a) : ∃ (s : Bool) (r : Nat), a = (if s then 9223372036854775808 + r else r) ∧ r ≤ 9218868437227405312 ∧ key a = (if s then -((r : Nat) : Int) else ((r : Nat) : Int)) ∧
    ((r < 9218868437227405312 ∧ Ieee.double.read a = .number s (mg r) (-1074 + (pl r : Nat))) ∨ (r = 9218868437227405312 ∧ Ieee.double.read a = .infinity s)) := by
  unfold isN at hn
  by_cases h : a < 9223372036854775808
  · have h2 : a % 9223372036854775808 = a := by omega
    have h1 : (a / 9223372036854775808 % 2 == 1) = false := by
      have : a / 9223372036854775808 = 0 := by omega
      rw [this]; rfl
    refine ⟨false, a, by simp, by omega, by unfold key; simp [h], ?_⟩
    by_cases h3 : a < 9218868437227405312
    · have := read_fin (b := a) false h1 (by omega)
      rw [h2] at this
      exact .inl ⟨h3, this⟩
    · exact .inr ⟨by omega, read_inf false h1 (by omega)⟩
  · have h2 : a % 9223372036854775808 = a - 9223372036854775808 := by omega
    have h1 : (a / 9223372036854775808 % 2 == 1) = true := by
      have : a / 9223372036854775808 = 1 := by omega
      rw [this]; rfl
    refine ⟨true, a - 9223372036854775808, by simp; omega, by omega, by unfold key; simp [h], ?_⟩
    by_cases h3 : a - 9223372036854775808 < 9218868437227405312
    · have := read_fin (b := a) true h1 (by omega)
      rw [h2] at this
      exact .inl ⟨h3, this⟩
    · exact .inr ⟨by omega, read_inf true h1 (by omega)⟩
theorem order_key {a b : Nat} (ha : a < 18446744073709551616) (hb : b < 18446744073709551616) (na : ¬ isN a) (nb : ¬ isN b) : FloatKind.f64.format.order a b = some (compare (key a) (key b)) := by
  obtain ⟨s, r, _, hr, hka, h1⟩ := word_cases ha na
  obtain ⟨t, q, _, hq, hkb, h2⟩ := word_cases hb nb
  rw [fmt, hka, hkb]
  unfold Ieee.Format.order
  rcases h1 with ⟨h1, e1⟩ | ⟨h1, e1⟩ <;> rcases h2 with ⟨h2, e2⟩ | ⟨h2, e2⟩ <;> rw [e1, e2]
  · exact order_num s t r q
  · cases t
    · simp only [Ieee.Datum.order, Bool.false_eq_true, if_false]
      rw [cmp_of_lt]; cases s <;> simp <;> omega
    · simp only [Ieee.Datum.order, if_true]
      rw [cmp_of_gt]; cases s <;> simp <;> omega
  · cases s
    · simp only [Ieee.Datum.order, Bool.false_eq_true, if_false]
      rw [cmp_of_gt]; cases t <;> simp <;> omega
    · simp only [Ieee.Datum.order, if_true]
      rw [cmp_of_lt]; cases t <;> simp <;> omega
  · simp only [Ieee.Datum.order]
    subst h1; subst h2
    cases s <;> cases t <;> rfl
theorem order_nan {a b : Nat} (h : isN a ∨ isN b) : FloatKind.f64.format.order a b = none := by
  rw [fmt]
  unfold Ieee.Format.order
  have rd : ∀ x, isN x → ∃ s t, Ieee.double.read x = .nan s t := fun x hx => ⟨_, _, read_nan _ rfl hx⟩
  rcases h with h | h
  · obtain ⟨s, t, e⟩ := rd a h
    rw [e]; rfl
  · obtain ⟨s, t, e⟩ := rd b h
    rw [e]
    cases Ieee.double.read a <;> rfl
theorem flt_key {a b : Nat} (ha : a < 18446744073709551616) (hb : b < 18446744073709551616) (na : ¬ isN a) (nb : ¬ isN b) : flt a b = decide (key a < key b) := by
  unfold flt
  rw [order_key ha hb na nb]
  rcases Int.lt_trichotomy (key a) (key b) with h | h | h
  · rw [cmp_of_lt h]; simp [h]
  · rw [cmp_of_eq h]; simp [h]
  · rw [cmp_of_gt h]
    have : ¬ key a < key b := by omega
    simp [this]
theorem feq_key {a b : Nat} (ha : a < 18446744073709551616) (hb : b < 18446744073709551616) (na : ¬ isN a) (nb : ¬ isN b) : feq a b = decide (key a = key b) := by
  unfold feq Op.floatEq
  rw [order_key ha hb na nb]
  rcases Int.lt_trichotomy (key a) (key b) with h | h | h
  · rw [cmp_of_lt h]
    have : ¬ key a = key b := by omega
    simp [this]
  · rw [cmp_of_eq h]; simp [h]
  · rw [cmp_of_gt h]
    have : ¬ key a = key b := by omega
    simp [this]
theorem feq_nan {a b : Nat} (h : isN a ∨ isN b) : feq a b = false := by unfold feq Op.floatEq; rw [order_nan h]; rfl
/-! not below nought, and no NaN: at most the infinity's rung -/
theorem pos_ok {a : Nat} (h : a ≤ 9218868437227405312) : a < 18446744073709551616 ∧ ¬ isN a ∧ key a = (a : Int) := by
  refine ⟨by omega, by unfold isN; omega, by unfold key; rw [if_pos (by omega)]⟩
theorem flt_pos {a b : Nat} (ha : a ≤ 9218868437227405312) (hb : b ≤ 9218868437227405312) : flt a b = decide (a < b) := by
  obtain ⟨h1, h2, h3⟩ := pos_ok ha
  obtain ⟨h4, h5, h6⟩ := pos_ok hb
  rw [flt_key h1 h4 h2 h5, h3, h6]
  congr 1
  exact propext (by omega)
theorem feq_pos {a b : Nat} (ha : a ≤ 9218868437227405312) (hb : b ≤ 9218868437227405312) : feq a b = decide (a = b) := by
  obtain ⟨h1, h2, h3⟩ := pos_ok ha
  obtain ⟨h4, h5, h6⟩ := pos_ok hb
  rw [feq_key h1 h4 h2 h5, h3, h6]
  congr 1
  exact propext (by omega)

/-! ### sums and products -/
theorem word_pos (r : Nat) : Ieee.double.word false r = r := rfl
theorem pos_read {a : Nat} (h : a ≤ 9218868437227405312) : (a < 9218868437227405312 ∧ Ieee.double.read a = .number false (mg a) (-1074 + (pl a : Nat))) ∨ (a = 9218868437227405312 ∧ Ieee.double.read a = .infinity false) := by
  rcases Nat.lt_or_eq_of_le h with h | h
  · exact .inl ⟨h, read_pos h⟩
  · subst h; exact .inr ⟨rfl, read_pinf⟩
theorem fin_add {a b : Nat} (ha : a < 9218868437227405312) (hb : b < 9218868437227405312) : ∃ t base, FloatKind.f64.format.add a b = some (rn t base) ∧ -1074 ≤ base ∧ t * 2 ^ (base + (1074 : Nat)).toNat = va a + va b := by
  rw [fmt]
  unfold Ieee.Format.add
  rw [read_pos ha, read_pos hb]
  unfold Ieee.Datum.sum
  simp only
  have hbs : min (-1074 + (pl a : Nat) : Int) (-1074 + (pl b : Nat) : Int) = -1074 + ((min (pl a) (pl b) : Nat) : Int) := by omega
  rw [hbs]
  have h1 := signed_val false a (min (pl a) (pl b)) (Nat.min_le_left _ _)
  have h2 := signed_val false b (min (pl a) (pl b)) (Nat.min_le_right _ _)
  generalize hx : Ieee.signed false (mg a) ((-1074 + (pl a : Nat) : Int) - (-1074 + ((min (pl a) (pl b) : Nat) : Int))).toNat = x at *
  generalize hy : Ieee.signed false (mg b) ((-1074 + (pl b : Nat) : Int) - (-1074 + ((min (pl a) (pl b) : Nat) : Int))).toNat = y at *
  have hx0 : 0 ≤ x := by rw [← hx]; unfold Ieee.signed; simp only [Bool.false_eq_true, if_false]; exact Int.natCast_nonneg _
  have hy0 : 0 ≤ y := by rw [← hy]; unfold Ieee.signed; simp only [Bool.false_eq_true, if_false]; exact Int.natCast_nonneg _
  refine ⟨(x + y).natAbs, -1074 + ((min (pl a) (pl b) : Nat) : Int), ?_, by omega, ?_⟩
  · simp only [Option.map_some, Ieee.Format.write]
    rw [nearest_rn]
    have : (if x + y = 0 then (false && false) else decide (x + y < 0)) = false := by
      split
      · rfl
      · have : ¬ x + y < 0 := by omega
        simp [this]
    rw [this, word_pos]
  · have h3 : (-1074 + ((min (pl a) (pl b) : Nat) : Int) + (1074 : Nat)).toNat = min (pl a) (pl b) := by omega
    rw [h3]
    simp only [Bool.false_eq_true, if_false] at h1 h2
    have h4 : (((x + y).natAbs * 2 ^ min (pl a) (pl b) : Nat) : Int) = ((va a + va b : Nat) : Int) := by
      rw [Int.natCast_mul, Int.natAbs_of_nonneg (by omega), Int.add_mul, h1, h2]; simp
    exact Int.ofNat.inj h4
theorem write_inf : Ieee.double.write (.infinity false) = 9218868437227405312 := by decide +kernel
theorem fadd_ok {a b : Nat} (ha : a ≤ 9218868437227405312) (hb : b ≤ 9218868437227405312) : faddOk a b = true ∧ fadd a b ≤ 9218868437227405312 := by
  have key : ∃ r, FloatKind.f64.format.add a b = some r ∧ r ≤ 9218868437227405312 := by
    rcases Nat.lt_or_eq_of_le ha with h1 | h1
    · rcases Nat.lt_or_eq_of_le hb with h2 | h2
      · obtain ⟨t, base, e, _⟩ := fin_add h1 h2
        exact ⟨_, e, rn_inf _ _⟩
      · refine ⟨Ieee.double.write (.infinity false), ?_, by rw [write_inf]; exact Nat.le_refl _⟩
        rw [fmt]
        unfold Ieee.Format.add
        rw [read_pos h1, h2, read_pinf]
        rfl
    · refine ⟨Ieee.double.write (.infinity false), ?_, by rw [write_inf]; exact Nat.le_refl _⟩
      rw [fmt]
      unfold Ieee.Format.add
      rw [h1, read_pinf]
      rcases pos_read hb with ⟨_, e⟩ | ⟨_, e⟩ <;> rw [e] <;> rfl
  obtain ⟨r, e, hr⟩ := key
  unfold faddOk fadd
  rw [e, Option.isSome_some, Option.getD_some]
  exact ⟨rfl, hr⟩
theorem fadd_le {a b r : Nat} (ha : a < 9218868437227405312) (hb : b < 9218868437227405312) (h : va a + va b ≤ va r) : fadd a b ≤ r := by
  obtain ⟨t, base, e, h1, h2⟩ := fin_add ha hb
  unfold fadd
  rw [e, Option.getD_some]
  refine rn_le 1074 (by omega) (by omega) ?_
  rw [h2, Nat.sub_self, Nat.pow_zero, Nat.mul_one]
  exact h
theorem le_fadd {a b r : Nat} (ha : a < 9218868437227405312) (hb : b < 9218868437227405312) (hr : r ≤ 9218868437227405312) (h : va r ≤ va a + va b) : r ≤ fadd a b := by
  obtain ⟨t, base, e, h1, h2⟩ := fin_add ha hb
  unfold fadd
  rw [e, Option.getD_some]
  refine le_rn 1074 (by omega) (by omega) hr ?_
  rw [h2, Nat.sub_self, Nat.pow_zero, Nat.mul_one]
  exact h
theorem fin_mul {a b : Nat} (ha : a < 9218868437227405312) (hb : b < 9218868437227405312) : FloatKind.f64.format.mul a b = some (rn (mg a * mg b) (-1074 + (pl a : Nat) + (-1074 + (pl b : Nat)))) := by
  rw [fmt]
  unfold Ieee.Format.mul
  rw [read_pos ha, read_pos hb]
  simp only [Ieee.Datum.product, Option.map_some, Ieee.Format.write]
  rw [nearest_rn, Bool.xor_false, word_pos]
theorem mul_val (a b : Nat) : mg a * mg b * 2 ^ (-1074 + (pl a : Nat) + (-1074 + (pl b : Nat)) + ((2148 : Nat) : Int)).toNat = va a * va b := by
  have h : (-1074 + (pl a : Nat) + (-1074 + (pl b : Nat)) + ((2148 : Nat) : Int)).toNat = pl a + pl b := by omega
  rw [h, va_eq, va_eq, Nat.pow_add]
  ac_rfl
theorem fmul_fin {a b : Nat} (ha : a < 9218868437227405312) (hb : b < 9218868437227405312) : fmulOk a b = true ∧ fmul a b ≤ 9218868437227405312 := by
  unfold fmulOk fmul
  rw [fin_mul ha hb, Option.isSome_some, Option.getD_some]
  exact ⟨rfl, rn_inf _ _⟩
/-- Powers of two that nobody computes. -/
def U (n : Nat) : Nat := 2 ^ n
theorem U_pow (n : Nat) : 2 ^ n = U n := rfl
theorem U_add (a b : Nat) : U (a + b) = U a * U b := Nat.pow_add 2 a b
theorem U_pos (n : Nat) : 0 < U n := Nat.two_pow_pos n
theorem rn_leU {mag : Nat} {place : Int} {r : Nat} (K : Nat) (hK : 1074 ≤ K) (hp : 0 ≤ place + K) (h : mag * 2 ^ (place + K).toNat ≤ va r * U (K - 1074)) : rn mag place ≤ r := rn_le K hK hp h
theorem le_rnU {mag : Nat} {place : Int} {r : Nat} (K : Nat) (hK : 1074 ≤ K) (hp : 0 ≤ place + K) (hr : r ≤ 9218868437227405312) (h : va r * U (K - 1074) ≤ mag * 2 ^ (place + K).toNat) : r ≤ rn mag place := le_rn K hK hp hr h
theorem va_U {q m : Nat} (hm : m < 4503599627370496) : va ((q + 1) * 4503599627370496 + m) = (4503599627370496 + m) * U q := va_big hm
theorem fmul_le {a b r : Nat} (ha : a < 9218868437227405312) (hb : b < 9218868437227405312) (h : va a * va b ≤ va r * U 1074) : fmul a b ≤ r := by
  unfold fmul
  rw [fin_mul ha hb, Option.getD_some]
  refine rn_leU 2148 (by omega) (by omega) ?_
  rw [mul_val]; exact h
theorem le_fmul {a b r : Nat} (ha : a < 9218868437227405312) (hb : b < 9218868437227405312) (hr : r ≤ 9218868437227405312) (h : va r * U 1074 ≤ va a * va b) : r ≤ fmul a b := by
  unfold fmul
  rw [fin_mul ha hb, Option.getD_some]
  refine le_rnU 2148 (by omega) (by omega) hr ?_
  rw [mul_val]; exact h

theorem rn_leP {mag : Nat} {place : Int} {r : Nat} (K P : Nat) (hK : 1074 ≤ K) (hp : (P : Int) = place + K) (h : mag * U P ≤ va r * U (K - 1074)) : rn mag place ≤ r := by
  refine rn_le K hK (by omega) ?_
  have : (place + K).toNat = P := by omega
  rw [this]; exact h
theorem le_rnP {mag : Nat} {place : Int} {r : Nat} (K P : Nat) (hK : 1074 ≤ K) (hp : (P : Int) = place + K) (hr : r ≤ 9218868437227405312) (h : va r * U (K - 1074) ≤ mag * U P) : r ≤ rn mag place := by
  refine le_rn K hK (by omega) hr ?_
  have : (place + K).toNat = P := by omega
  rw [this]; exact h
/-- Whole numbers below 2^53, and what is a power of two times such a one, are some rung's value. -/
theorem rep (n e : Nat) (hn : n < 9007199254740992) (he : 52 ≤ e) : ∃ r, va r = n * U e := by
  by_cases h0 : n = 0
  · subst h0
    exact ⟨0, by rw [va_small (by omega), Nat.zero_mul]⟩
  · have h2l : 2 ^ n.log2 ≤ n := Nat.log2_self_le h0
    have h2u : n < 2 ^ (n.log2 + 1) := Nat.lt_log2_self
    have hL : n.log2 ≤ 52 := by
      rcases Nat.lt_or_ge 52 n.log2 with h | h
      · have : 2 ^ 53 ≤ 2 ^ n.log2 := Nat.pow_le_pow_right (by decide) h
        have h3 : (2 : Nat) ^ 53 = 9007199254740992 := by decide
        omega
      · exact h
    generalize n.log2 = L at *
    have h3 : 4503599627370496 ≤ n * 2 ^ (52 - L) := by
      have h4 : (4503599627370496 : Nat) = 2 ^ L * 2 ^ (52 - L) := by rw [← Nat.pow_add, show L + (52 - L) = 52 from by omega]
      rw [h4]; exact Nat.mul_le_mul_right _ h2l
    have h5 : n * 2 ^ (52 - L) < 9007199254740992 := by
      have h4 : (9007199254740992 : Nat) = 2 ^ (L + 1) * 2 ^ (52 - L) := by rw [← Nat.pow_add, show L + 1 + (52 - L) = 53 from by omega]
      rw [h4]; exact Nat.mul_lt_mul_of_pos_right h2u (Nat.two_pow_pos _)
    obtain ⟨m, hm⟩ : ∃ m, n * 2 ^ (52 - L) = 4503599627370496 + m := ⟨n * 2 ^ (52 - L) - 4503599627370496, by omega⟩
    refine ⟨(e - (52 - L) + 1) * 4503599627370496 + m, ?_⟩
    rw [va_U (by omega), ← hm, U_pow, Nat.mul_assoc, ← U_add]
    congr 2
    omega
theorem va_inf : va 9218868437227405312 = 4503599627370496 * U 2046 := by
  have := va_U (q := 2046) (m := 0) (by decide)
  simpa using this
theorem U_le {a b : Nat} (h : a ≤ b) : U a ≤ U b := Nat.pow_le_pow_right (by decide) h
theorem U52 : U 52 = 4503599627370496 := by unfold U; decide
theorem U2 : U 2 = 4 := by unfold U; decide
theorem U0 : U 0 = 1 := by unfold U; decide
theorem va_fin {r n e : Nat} (hr : va r = n * U e) (hn : n < 4503599627370496) (he : e ≤ 2046) : r < 9218868437227405312 := by
  refine lt_of_va ?_
  rw [hr, va_inf]
  calc n * U e ≤ n * U 2046 := Nat.mul_le_mul_left _ (U_le he)
    _ < 4503599627370496 * U 2046 := Nat.mul_lt_mul_of_pos_right hn (U_pos _)
theorem nearest_nat (n : Nat) : fofint (n : Int) = rn n 0 := by
  unfold fofint FloatKind.nearest FloatKind.encode
  rw [fmt]
  have h1 : decide (((n : Nat) : Int) < 0) = false := by simp
  rw [h1]
  show Ieee.double.write (.number false ((n : Int)).natAbs 0) = _
  rw [Int.natAbs_natCast]
  show Ieee.double.nearest false n 0 = _
  rw [nearest_rn, word_pos]
/-- A whole number as a float, exactly. -/
theorem fofint_val {n : Nat} (hn : n < 4503599627370496) : va (fofint (n : Int)) = n * U 1074 ∧ fofint (n : Int) < 9218868437227405312 := by
  obtain ⟨r, hr⟩ := rep n 1074 (by omega) (by omega)
  have hf := va_fin hr hn (by omega)
  have h1 : rn n 0 ≤ r := rn_leP 1074 1074 (by omega) (by omega) (by rw [hr, Nat.sub_self, U0, Nat.mul_one]; exact Nat.le_refl _)
  have h2 : r ≤ rn n 0 := le_rnP 1074 1074 (by omega) (by omega) (by omega) (by rw [hr, Nat.sub_self, U0, Nat.mul_one]; exact Nat.le_refl _)
  have h3 : fofint (n : Int) = r := by rw [nearest_nat]; omega
  rw [h3]
  exact ⟨hr, hf⟩
/-! ### the bits themselves -/
attribute [irreducible] U va
end Go.Proofs.YtgmjlhpigfaicaaW.PrintWords
/- Floats made whole, and scaled by powers of two: plain laws. -/
namespace Go.Proofs.YtgmjlhpigfaicaaW.PrintWords
theorem cut_zero (X D : Nat) : Ieee.Toward.zero.cut false X D * 2 ^ D ≤ X ∧ X < (Ieee.Toward.zero.cut false X D + 1) * 2 ^ D := by
  unfold Ieee.Toward.cut
  simp only [Nat.one_shiftLeft, Bool.toNat_false, Nat.add_zero]
  rcases Nat.le_total D (X.log2 + 2) with hk | hk
  · rw [Nat.min_eq_left hk]
    have hp := Nat.two_pow_pos D
    generalize 2 ^ D = g at *
    refine ⟨Nat.div_mul_le_self X g, ?_⟩
    exact Nat.lt_mul_of_div_lt (Nat.lt_succ_self _) hp
  · rw [Nat.min_eq_right hk]
    have h1 : X < 2 ^ (X.log2 + 1) := Nat.lt_log2_self
    have h2 : 2 ^ (X.log2 + 1) ≤ 2 ^ (X.log2 + 2) := Nat.pow_le_pow_right (by decide) (by omega)
    have h3 : 2 ^ (X.log2 + 2) ≤ 2 ^ D := Nat.pow_le_pow_right (by decide) hk
    rw [Nat.div_eq_of_lt (by omega)]
    exact ⟨by simp, by omega⟩
theorem cut_down (X D : Nat) : Ieee.Toward.down.cut false X D = Ieee.Toward.zero.cut false X D := by
  unfold Ieee.Toward.cut
  simp
theorem cut_even (X D : Nat) : (2 * Ieee.Toward.even.cut false X D) * 2 ^ D ≤ 2 * X + 2 ^ D ∧ 2 * X ≤ (2 * Ieee.Toward.even.cut false X D + 1) * 2 ^ D ∧
    (2 * X = (2 * Ieee.Toward.even.cut false X D + 1) * 2 ^ D → Ieee.Toward.even.cut false X D % 2 = 0) ∧ ((2 * Ieee.Toward.even.cut false X D) * 2 ^ D = 2 * X + 2 ^ D → Ieee.Toward.even.cut false X D % 2 = 0) := by
  unfold Ieee.Toward.cut
  simp only [Nat.one_shiftLeft]
  rcases Nat.le_total D (X.log2 + 2) with hk | hk
  · rw [Nat.min_eq_left hk]
    have hp := Nat.two_pow_pos D
    generalize 2 ^ D = g at *
    have h1 := Nat.div_add_mod X g
    have h2 := Nat.mod_lt X hp
    generalize hq : X / g = q at *
    generalize hr : X % g = r at *
    subst h1
    have e1 : g * q = q * g := Nat.mul_comm _ _
    rw [e1]
    by_cases c1 : g < 2 * r
    · have hb : (decide (g < 2 * r) || (g == 2 * r && q % 2 == 1)) = true := by simp [c1]
      rw [hb]
      simp only [Bool.toNat_true, Nat.add_mul, Nat.mul_add, Nat.mul_assoc, Nat.one_mul]
      generalize q * g = z at *
      refine ⟨by omega, by omega, fun h => by omega, fun h => by omega⟩
    · by_cases c2 : g = 2 * r
      · by_cases c3 : q % 2 = 1
        · have hb : (decide (g < 2 * r) || (g == 2 * r && q % 2 == 1)) = true := by simp [c2, c3]
          rw [hb]
          simp only [Bool.toNat_true, Nat.add_mul, Nat.mul_add, Nat.mul_assoc, Nat.one_mul]
          generalize q * g = z at *
          refine ⟨by omega, by omega, fun h => by omega, fun h => by omega⟩
        · have hb : (decide (g < 2 * r) || (g == 2 * r && q % 2 == 1)) = false := by simp [c1, c3]
          rw [hb]
          simp only [Bool.toNat_false, Nat.add_zero, Nat.add_mul, Nat.mul_add, Nat.mul_assoc, Nat.one_mul]
          generalize q * g = z at *
          refine ⟨by omega, by omega, fun h => by omega, fun h => by omega⟩
      · have hb : (decide (g < 2 * r) || (g == 2 * r && q % 2 == 1)) = false := by simp [c1, c2]
        rw [hb]
        simp only [Bool.toNat_false, Nat.add_zero, Nat.add_mul, Nat.mul_add, Nat.mul_assoc, Nat.one_mul]
        generalize q * g = z at *
        refine ⟨by omega, by omega, fun h => by omega, fun h => by omega⟩
  · rw [Nat.min_eq_right hk]
    have h1 : X < 2 ^ (X.log2 + 1) := Nat.lt_log2_self
    have h2 : 2 ^ (X.log2 + 2) = 2 * 2 ^ (X.log2 + 1) := by rw [Nat.pow_succ]; omega
    have h3 : 2 ^ (X.log2 + 2) ≤ 2 ^ D := Nat.pow_le_pow_right (by decide) hk
    rw [h2] at h3 ⊢
    generalize 2 ^ (X.log2 + 1) = g at *
    rw [Nat.div_eq_of_lt (by omega), Nat.mod_eq_of_lt (by omega)]
    have hb : (decide (2 * g < 2 * X) || (2 * g == 2 * X && 0 % 2 == 1)) = false := by
      have : ¬ 2 * g < 2 * X := by omega
      simp [this]
    rw [hb]
    simp
    omega
theorem pl_val {x : Nat} : ∃ X D, va x * U D = X * U 1074 ∧ X = mg x <<< (-1074 + (pl x : Nat) : Int).toNat ∧ D = (-(-1074 + (pl x : Nat) : Int)).toNat := by
  refine ⟨_, _, ?_, rfl, rfl⟩
  rw [va_eq, Nat.shiftLeft_eq, U_pow, U_pow, Nat.mul_assoc, Nat.mul_assoc, ← U_add, ← U_add]
  congr 2
  omega
theorem enc_nat (n : Nat) : FloatKind.f64.encode (.number false n 0) = fofint (n : Int) := by
  rw [nearest_nat]
  unfold FloatKind.encode
  rw [fmt]
  show Ieee.double.nearest false n 0 = _
  rw [nearest_rn, word_pos]
theorem scale_le {v X D c : Nat} (h : v * U D = X * U 1074) : c * U D ≤ X ↔ c * U 1074 ≤ v := by
  constructor
  · intro h1
    have : c * U D * U 1074 ≤ v * U D := by rw [h]; exact Nat.mul_le_mul_right _ h1
    rw [Nat.mul_assoc, Nat.mul_comm (U D), ← Nat.mul_assoc] at this
    exact Nat.le_of_mul_le_mul_right this (U_pos D)
  · intro h1
    have : c * U 1074 * U D ≤ X * U 1074 := by rw [← h]; exact Nat.mul_le_mul_right _ h1
    rw [Nat.mul_assoc, Nat.mul_comm (U 1074), ← Nat.mul_assoc] at this
    exact Nat.le_of_mul_le_mul_right this (U_pos 1074)
/-- A float that is not below nought, made whole. -/
theorem fround_spec {x : Nat} (hx : x < 9218868437227405312) :
    froundOk x = true ∧ (∃ n, fround .zero x = fofint (n : Nat) ∧ fround .down x = fofint (n : Nat) ∧ n * U 1074 ≤ va x ∧ va x < (n + 1) * U 1074) ∧
    ∃ e, fround .even x = fofint (e : Nat) ∧ (2 * e) * U 1074 ≤ 2 * va x + U 1074 ∧ 2 * va x ≤ (2 * e + 1) * U 1074 ∧ (2 * va x = (2 * e + 1) * U 1074 → e % 2 = 0) ∧ ((2 * e) * U 1074 = 2 * va x + U 1074 → e % 2 = 0) := by
  obtain ⟨X, D, h, hX, hD⟩ := pl_val (x := x)
  have hd : FloatKind.f64.decode x = .number false (mg x) (-1074 + (pl x : Nat)) := read_pos hx
  have hw : ∀ way, fround way x = fofint ((way.cut false X D : Nat) : Int) := fun way => by
    unfold fround
    rw [hd]
    simp only [Ieee.Datum.integral]
    rw [← hX, ← hD, enc_nat]
  refine ⟨by unfold froundOk; rw [hd], ⟨_, hw .zero, by rw [hw .down, cut_down], ?_, ?_⟩, _, hw .even, ?_, ?_, ?_, ?_⟩
  · have := (cut_zero X D).1
    rw [U_pow] at this
    exact (scale_le h).1 this
  · have := (cut_zero X D).2
    rw [U_pow] at this
    have h1 : ¬ (Ieee.Toward.zero.cut false X D + 1) * U D ≤ X := by omega
    rw [scale_le h] at h1
    omega
  all_goals
    obtain ⟨h1, h2, h3, h4⟩ := cut_even X D
    simp only [U_pow] at h1 h2 h3 h4
    generalize Ieee.Toward.even.cut false X D = e at *
    have hD0 := U_pos D
    have hK0 := U_pos 1074
    have up : ∀ a b : Nat, a * U D ≤ 2 * X + b * U D → a * U 1074 ≤ 2 * va x + b * U 1074 := fun a b hh => by
      have : a * U D * U 1074 ≤ (2 * va x + b * U 1074) * U D := by
        calc a * U D * U 1074 ≤ (2 * X + b * U D) * U 1074 := Nat.mul_le_mul_right _ hh
          _ = 2 * (X * U 1074) + b * U D * U 1074 := by rw [Nat.add_mul, Nat.mul_assoc 2]
          _ = 2 * (va x * U D) + b * U 1074 * U D := by rw [h]; congr 1; ac_rfl
          _ = _ := by rw [Nat.add_mul, Nat.mul_assoc 2]
      rw [Nat.mul_assoc, Nat.mul_comm (U D), ← Nat.mul_assoc] at this
      exact Nat.le_of_mul_le_mul_right this hD0
    have dn : ∀ a b : Nat, 2 * X + b * U D ≤ a * U D → 2 * va x + b * U 1074 ≤ a * U 1074 := fun a b hh => by
      have : (2 * va x + b * U 1074) * U D ≤ a * U D * U 1074 := by
        calc (2 * va x + b * U 1074) * U D = 2 * (va x * U D) + b * U 1074 * U D := by rw [Nat.add_mul, Nat.mul_assoc 2]
          _ = 2 * (X * U 1074) + b * U D * U 1074 := by rw [h]; congr 1; ac_rfl
          _ = (2 * X + b * U D) * U 1074 := by rw [Nat.add_mul, Nat.mul_assoc 2]
          _ ≤ _ := Nat.mul_le_mul_right _ hh
      rw [Nat.mul_assoc, Nat.mul_comm (U D), ← Nat.mul_assoc] at this
      exact Nat.le_of_mul_le_mul_right this hD0
    have upi : ∀ a b : Nat, a * U 1074 ≤ 2 * va x + b * U 1074 → a * U D ≤ 2 * X + b * U D := fun a b hh => by
      have : a * U D * U 1074 ≤ (2 * X + b * U D) * U 1074 := by
        calc a * U D * U 1074 = a * U 1074 * U D := by ac_rfl
          _ ≤ (2 * va x + b * U 1074) * U D := Nat.mul_le_mul_right _ hh
          _ = 2 * (va x * U D) + b * U 1074 * U D := by rw [Nat.add_mul, Nat.mul_assoc 2]
          _ = 2 * (X * U 1074) + b * U D * U 1074 := by rw [h]; congr 1; ac_rfl
          _ = _ := by rw [Nat.add_mul, Nat.mul_assoc 2]
      exact Nat.le_of_mul_le_mul_right this hK0
    have dni : ∀ a b : Nat, 2 * va x + b * U 1074 ≤ a * U 1074 → 2 * X + b * U D ≤ a * U D := fun a b hh => by
      have : (2 * X + b * U D) * U 1074 ≤ a * U D * U 1074 := by
        calc (2 * X + b * U D) * U 1074 = 2 * (X * U 1074) + b * U D * U 1074 := by rw [Nat.add_mul, Nat.mul_assoc 2]
          _ = 2 * (va x * U D) + b * U 1074 * U D := by rw [h]; congr 1; ac_rfl
          _ = (2 * va x + b * U 1074) * U D := by rw [Nat.add_mul, Nat.mul_assoc 2]
          _ ≤ a * U 1074 * U D := Nat.mul_le_mul_right _ hh
          _ = _ := by ac_rfl
      exact Nat.le_of_mul_le_mul_right this hK0
  · have := up (2 * e) 1 (by omega); omega
  · have := dn (2 * e + 1) 0 (by omega); omega
  · intro hh
    have p1 := upi (2 * e + 1) 0 (by omega)
    have p2 := dni (2 * e + 1) 0 (by omega)
    exact h3 (by omega)
  · intro hh
    have p1 := upi (2 * e) 1 (by omega)
    have p2 := dni (2 * e) 1 (by omega)
    exact h4 (by omega)
/-! ### powers of two -/
theorem va_up {a : Nat} (s : Nat) (h : 4503599627370496 ≤ a) : va (a + s * 4503599627370496) = va a * U s := by
  obtain ⟨q, m, hm, h1, h2⟩ := va_split a h
  rw [h2, U_pow, Nat.mul_assoc, ← U_add, ← va_U hm]
  congr 1
  omega
theorem read_pow_val {c s : Nat} (hc : c = (1022 + s + 1) * 4503599627370496) : va c = U 1074 * U s := by
  have := va_U (q := 1022 + s) (m := 0) (by decide)
  simp only [Nat.add_zero] at this
  rw [hc, this, ← U52, ← U_add, ← U_add]
  congr 1
  omega
/-- Multiplying by a power of two. -/
theorem fmul_two {a c s : Nat} (hc : c = (1022 + s + 1) * 4503599627370496) (hs : s ≤ 100) (h1 : 4503599627370496 ≤ a) (h2 : a + s * 4503599627370496 ≤ 9218868437227405312) (h3 : a < 9218868437227405312) : fmulOk a c = true ∧ fmul a c = a + s * 4503599627370496 := by
  have hc2 : c < 9218868437227405312 := by omega
  have hv := read_pow_val hc
  refine ⟨(fmul_fin h3 hc2).1, ?_⟩
  have hu : va a * va c = va (a + s * 4503599627370496) * U 1074 := by rw [hv, va_up s h1]; ac_rfl
  have p1 := fmul_le (r := a + s * 4503599627370496) h3 hc2 (by rw [hu]; exact Nat.le_refl _)
  have p2 := le_fmul (r := a + s * 4503599627370496) h3 hc2 h2 (by rw [hu]; exact Nat.le_refl _)
  omega
end Go.Proofs.YtgmjlhpigfaicaaW.PrintWords
/- Rounds enough (Ev), where a router stands (Place), what a graph that may be is (Ok). -/
namespace Go.Proofs.Ytgmjlhpigfaicaa.Pure
open Go.RowKit Go.Proofs.YtgmjlhpigfaicaaW.PrintWords Go.Proofs.Ytgmjlhpigfaicaa.XR
set_option linter.unusedSimpArgs false
set_option linter.unusedVariables false
/-- With rounds enough F tells a. -/
def Ev {α : Type} (F : Nat → Option α) (a : α) : Prop := ∃ n, ∀ k, n ≤ k → F k = some a
section
variable {α β : Type} {F G : Nat → Option α} {a : α} {b : β}
theorem Ev.const : Ev (fun _ => some a) a := ⟨0, fun _ _ => rfl⟩
theorem Ev.of (h : ∀ k, F k = G k) (e : Ev G a) : Ev F a := by
  obtain ⟨n, hn⟩ := e
  exact ⟨n, fun k hk => (h k).trans (hn k hk)⟩
theorem Ev.all (h : ∀ k, F k = some a) : Ev F a := ⟨0, fun k _ => h k⟩
theorem Ev.up (h : ∀ k, F (k + 1) = G k) (e : Ev G a) : Ev F a := by
  obtain ⟨n, hn⟩ := e
  refine ⟨n + 1, fun k hk => ?_⟩
  obtain ⟨k, rfl⟩ : ∃ m, k = m + 1 := ⟨k - 1, by omega⟩
  exact (h k).trans (hn k (by omega))
theorem Ev.bind {H : Nat → α → Option β} (e : Ev F a) (h : Ev (fun k => H k a) b) : Ev (fun k => (F k).bind (H k)) b := by
  obtain ⟨n, hn⟩ := e
  obtain ⟨m, hm⟩ := h
  refine ⟨n + m, fun k hk => ?_⟩
  show (F k).bind (H k) = some b
  rw [hn k (by omega)]
  exact hm k (by omega)
theorem Ev.yes {c : Prop} [Decidable c] (h : c) (e : Ev F a) : Ev (fun k => if c then F k else G k) a := e.of fun k => if_pos h
theorem Ev.no {c : Prop} [Decidable c] (h : ¬ c) (e : Ev G a) : Ev (fun k => if c then F k else G k) a := e.of fun k => if_neg h
theorem Ev.one (e : Ev F a) {c : α} (h : Ev F c) : a = c := by
  obtain ⟨n, hn⟩ := e
  obtain ⟨m, hm⟩ := h
  exact Option.some.inj ((hn (n + m) (by omega)).symm.trans (hm (n + m) (by omega)))
end
theorem wrap_up (n : Nat) (h : n ≤ 4611686018427387904) : wrap64 ((n : Int) + 1) = ((n + 1 : Nat) : Int) := by unfold wrap64; omega
theorem wrap_dn (n : Nat) (h : n ≤ 4611686018427387904) : wrap64 (((n + 1 : Nat) : Int) - 1) = (n : Int) := by unfold wrap64; omega
/-! ### routers -/
theorem rd108 {ns : List S108} {n : Nat} (h : n < ns.length) : rd_T108 ns (n : Int) = ns[n] := by
  unfold rd_T108
  rw [Int.toNat_natCast, List.getD_eq_getElem?_getD, List.getElem?_eq_getElem h, Option.getD_some]
theorem rd117 {ls : List S117} {n : Nat} (h : n < ls.length) : rd_T117 ls (n : Int) = ls[n] := by
  unfold rd_T117
  rw [Int.toNat_natCast, List.getD_eq_getElem?_getD, List.getElem?_eq_getElem h, Option.getD_some]
/-- Where a router stands. -/
def ix (ns : List S108) (id : Int) : Int := match ns.findIdx? (fun x => x.f0 = id) with
  | some n => n
  | none => -1

theorem find_from {p : S108 → Bool} {ns : List S108} (F : Nat → Nat → Option Int) (hl : ns.length ≤ 4611686018427387904)
    (h : ∀ n k, F n (k + 1) = if n < ns.length then (if p (rd_T108 ns (n : Int)) = true then some (n : Int) else F (n + 1) k) else some (-1)) :
    ∀ (d n : Nat), ns.length - n = d → (∀ i, i < n → ∀ hi : i < ns.length, p ns[i] = false) → Ev (F n) (match ns.findIdx? p with | some n => (n : Int) | none => -1) := by
  intro d
  induction d with
  | zero =>
    intro n hd hn
    refine Ev.up (G := fun _ => some (-1)) (fun k => ?_) ?_
    · rw [h n k, if_neg (by omega)]
    · have e : ns.findIdx? p = none := by
        rw [List.findIdx?_eq_none_iff]
        intro x hx
        obtain ⟨i, hi, rfl⟩ := List.getElem_of_mem hx
        exact hn i (by omega) hi
      rw [e]
      exact Ev.const
  | succ d ih =>
    intro n hd hn
    have hlt : n < ns.length := by omega
    cases hp : p ns[n] with
    | true =>
      refine Ev.up (G := fun _ => some (n : Int)) (fun k => ?_) ?_
      · rw [h n k, if_pos hlt, rd108 hlt, if_pos hp]
      · have e : ns.findIdx? p = some n := by
          rw [List.findIdx?_eq_some_iff_getElem]
          exact ⟨hlt, hp, fun j hj => by simpa using hn j hj (by omega)⟩
        rw [e]
        exact Ev.const
    | false =>
      refine Ev.up (fun k => ?_) (ih (n + 1) (by omega) fun i hi hi2 => ?_)
      · rw [h n k, if_pos hlt, rd108 hlt, if_neg (by rw [hp]; decide)]
      · rcases Nat.lt_succ_iff_lt_or_eq.1 hi with h1 | h1
        · exact hn i h1 hi2
        · subst h1; exact hp
theorem place_ev (ns : List S108) (ls : List S117) (id : Int) (hl : ns.length ≤ 4611686018427387904) : Ev (fun k => beaconref07_Place.f k ns ls id) (ix ns id) := by
  unfold beaconref07_Place.f ix
  refine find_from (p := fun x => x.f0 = id) (F := fun n k => beaconref07_Place.l0 k id (n : Int) ns ls) hl (fun n k => ?_) _ 0 rfl (by simp)
  simp only [beaconref07_Place.l0]
  by_cases c : n < ns.length
  · rw [if_pos (by omega), if_pos (by omega), if_pos c, wrap_up n (by omega)]
    simp
  · rw [if_neg (by omega), if_neg c]
theorem place8_ev (ns : List S108) (ls : List S117) (id : Int) (hl : ns.length ≤ 4611686018427387904) : Ev (fun k => beaconref08_place.f k ns ls id) (ix ns id) := by
  unfold beaconref08_place.f ix
  refine find_from (p := fun x => x.f0 = id) (F := fun n k => beaconref08_place.l0 k id (n : Int) ns ls) hl (fun n k => ?_) _ 0 rfl (by simp)
  simp only [beaconref08_place.l0]
  by_cases c : n < ns.length
  · rw [if_pos (by omega), if_pos (by omega), if_pos c, wrap_up n (by omega)]
    simp
  · rw [if_neg (by omega), if_neg c]
theorem ix_range (ns : List S108) (id : Int) : ix ns id = -1 ∨ ∃ n : Nat, ∃ h : n < ns.length, ix ns id = n ∧ ns[n].f0 = id := by
  unfold ix
  cases e : ns.findIdx? (fun x => x.f0 = id) with
  | none => exact .inl rfl
  | some n =>
    obtain ⟨h1, h2, _⟩ := List.findIdx?_eq_some_iff_getElem.1 e
    exact .inr ⟨n, h1, rfl, by simpa using h2⟩
/-- Numbers rise. -/
def Rise (ns : List S108) : Prop := ns.Pairwise fun x y => x.f0 < y.f0
theorem rise_inj {ns : List S108} (h : Rise ns) {i j : Nat} (hi : i < ns.length) (hj : j < ns.length) (e : ns[i].f0 = ns[j].f0) : i = j := by
  have h' := List.pairwise_iff_getElem.1 h
  rcases Nat.lt_trichotomy i j with h1 | h1 | h1
  · have := h' i j hi hj h1; omega
  · exact h1
  · have := h' j i hj hi h1; omega
theorem ix_at {ns : List S108} (h : Rise ns) {n : Nat} (hn : n < ns.length) : ix ns ns[n].f0 = n := by
  rcases ix_range ns ns[n].f0 with e | ⟨m, hm, e, e2⟩
  · unfold ix at e
    cases e3 : ns.findIdx? (fun x => x.f0 = ns[n].f0) with
    | none =>
      rw [List.findIdx?_eq_none_iff] at e3
      have := e3 ns[n] (List.getElem_mem hn)
      simp at this
    | some m => rw [e3] at e; simp at e
  · rw [e, rise_inj h hm hn e2]
end Go.Proofs.Ytgmjlhpigfaicaa.Pure
/- Floats: weights and limits, sums that grow and keep order. -/
namespace Go.Proofs.Ytgmjlhpigfaicaa.Pure
open Go.RowKit Go.Proofs.YtgmjlhpigfaicaaW.PrintWords Go.Proofs.Ytgmjlhpigfaicaa.XR
set_option linter.unusedSimpArgs false
set_option linter.unusedVariables false
theorem rnan_f {a : Nat} (ha : a < 18446744073709551616) : beaconref01_nan.f a = some (decide (9218868437227405312 < a % 9223372036854775808)) := by
  unfold beaconref01_nan.f
  by_cases h : isN a
  · rw [feq_nan (.inl h)]
    unfold isN at h
    simp [h]
  · rw [feq_key ha ha h h]
    unfold isN at h
    simp [h]
theorem rinf_f {a : Nat} (ha : a < 18446744073709551616) (hn : ¬ isN a) : beaconref01_inf.f a = some (decide (a % 9223372036854775808 = 9218868437227405312)) := by
  unfold beaconref01_inf.f
  rw [flt_key (by omega) ha (by unfold isN; omega) hn, flt_key ha (by omega) hn (by unfold isN; omega)]
  unfold isN at hn
  have h1 : key 9218868437227405311 = 9218868437227405311 := by decide
  have h2 : key 18442240474082181119 = -9218868437227405311 := by decide
  rw [h1, h2]
  have hk : (a < 9223372036854775808 ∧ key a = (a : Int)) ∨ (9223372036854775808 ≤ a ∧ key a = -((a - 9223372036854775808 : Nat) : Int)) := by unfold key; split <;> omega
  generalize key a = q at *
  by_cases h3 : 9218868437227405311 < q
  · rw [if_pos (by simpa using h3)]
    congr 1
    symm
    rw [decide_eq_true_eq]
    omega
  · rw [if_neg (by simpa using h3)]
    congr 1
    exact decide_eq_decide.2 (by omega)
theorem rsign1_f {a : Nat} (ha : a < 18446744073709551616) : beaconref01_sign.f a = some (decide (9223372036854775808 ≤ a)) := by
  unfold beaconref01_sign.f fbits
  congr 1
  rw [show ((((a : Nat) : Int) / 9223372036854775808) == 1) = decide (((a : Nat) : Int) / 9223372036854775808 = 1) from rfl]
  exact decide_eq_decide.2 (by omega)
theorem whole_iff {x : Nat} (hx : x < 9218868437227405312) (hb : va x < 4503599627370496 * U 1074) : fround .zero x = x ↔ ∃ n : Nat, va x = n * U 1074 := by
  obtain ⟨_, ⟨n, h1, _, h2, h3⟩, _⟩ := fround_spec hx
  have hn : n < 4503599627370496 := by
    rcases Nat.lt_or_ge n 4503599627370496 with h | h
    · exact h
    · have := Nat.mul_le_mul_right (U 1074) h; omega
  obtain ⟨h4, h5⟩ := fofint_val hn
  rw [h1]
  constructor
  · intro h; exact ⟨n, by rw [← h4, h]⟩
  · rintro ⟨m, hm⟩
    have h6 : n = m := by
      rw [hm] at h2 h3
      have := Nat.le_of_mul_le_mul_right h2 (U_pos _)
      have := Nat.lt_of_mul_lt_mul_right h3
      omega
    subst h6
    have p1 := le_of_va (r := fofint (n : Int)) (s := x) (by rw [h4, hm]; exact Nat.le_refl _)
    have p2 := le_of_va (r := x) (s := fofint (n : Int)) (by rw [h4, hm]; exact Nat.le_refl _)
    omega
theorem va_30 : va 4742290407621132288 = 1073741824 * U 1074 := by
  have := va_U (q := 1052) (m := 0) (by decide)
  simp only [Nat.add_zero] at this
  have h30 : U 30 = 1073741824 := by unfold U; decide
  rw [show (4742290407621132288 : Nat) = (1052 + 1) * 4503599627370496 from by decide, this, ← U52, ← h30, ← U_add, ← U_add]
theorem va_32 {a : Nat} (h1 : 4607182418800017408 ≤ a) (h2 : a ≤ 4742290407621132288) : va (a + 2 * 4503599627370496) ≤ 4294967296 * U 1074 := by
  rw [va_up 2 (by omega), U2]
  have := va_le h2
  rw [va_30] at this
  omega
theorem quarters {a : Nat} (h1 : 4607182418800017408 ≤ a) (h2 : a ≤ 4742290407621132288) : fmulOk a 4616189618054758400 = true ∧ fmul a 4616189618054758400 = a + 2 * 4503599627370496 ∧ froundOk (a + 2 * 4503599627370496) = true ∧
    (fround .zero (a + 2 * 4503599627370496) = a + 2 * 4503599627370496 ↔ ∃ n : Nat, va (a + 2 * 4503599627370496) = n * U 1074) ∧ fround .zero (a + 2 * 4503599627370496) ≤ 9218868437227405312 := by
  obtain ⟨h3, h4⟩ := fmul_two (a := a) (c := 4616189618054758400) (s := 2) (by omega) (by omega) (by omega) (by omega) (by omega)
  have hb := va_32 h1 h2
  have hU := U_pos 1074
  obtain ⟨h5, ⟨n, h6, _, h7, _⟩, _⟩ := fround_spec (x := a + 2 * 4503599627370496) (by omega)
  refine ⟨h3, h4, h5, whole_iff (by omega) (by omega), ?_⟩
  rw [h6]
  have : n < 4503599627370496 := by
    rcases Nat.lt_or_ge n 4503599627370496 with h | h
    · exact h
    · have := Nat.mul_le_mul_right (U 1074) h; omega
  exact Nat.le_of_lt (fofint_val this).2
/-- A weight or a limit: from one on, in quarters. -/
def IsQ (most a : Nat) : Prop := 4607182418800017408 ≤ a ∧ a ≤ most ∧ ∃ n : Nat, va (a + 2 * 4503599627370496) = n * U 1074
theorem bounded_f {a most : Nat} (ha : a < 18446744073709551616) (hm : most ≤ 4742290407621132288) : ∃ c, beaconref01_bounded.f a most = some c ∧ (c = 0 ↔ IsQ most a) := by
  unfold beaconref01_bounded.f
  rw [rnan_f ha]
  by_cases h1 : 9218868437227405312 < a % 9223372036854775808
  · refine ⟨10, by simp [h1], ?_⟩
    unfold IsQ; omega
  have d1 : decide (9218868437227405312 < a % 9223372036854775808) = false := by simpa using h1
  rw [d1, rinf_f ha h1]
  by_cases h2 : a % 9223372036854775808 = 9218868437227405312
  · refine ⟨11, by simp [h2], ?_⟩
    unfold IsQ; omega
  have d2 : decide (a % 9223372036854775808 = 9218868437227405312) = false := by simpa using h2
  rw [d2, rsign1_f ha]
  by_cases h3 : 9223372036854775808 ≤ a
  · refine ⟨12, by simp [h3], ?_⟩
    unfold IsQ; omega
  have d3 : decide (9223372036854775808 ≤ a) = false := by simpa using h3
  rw [d3, flt_pos (by omega) (by omega), flt_pos (by omega) (by omega)]
  by_cases h4 : a < 4607182418800017408
  · refine ⟨13, by simp [h4], ?_⟩
    unfold IsQ; omega
  have d4 : decide (a < 4607182418800017408) = false := by simpa using h4
  rw [d4]
  by_cases h5 : most < a
  · refine ⟨14, by simp [h5], ?_⟩
    unfold IsQ; omega
  have d5 : decide (most < a) = false := by simpa using h5
  rw [d5]
  obtain ⟨q1, q2, q3, q4, q5⟩ := quarters (a := a) (by omega) (by omega)
  obtain ⟨x, hx⟩ : ∃ x, x = a + 2 * 4503599627370496 := ⟨_, rfl⟩
  have hw : IsQ most a ↔ fround .zero x = x := by
    rw [hx]; unfold IsQ
    exact ⟨fun h => q4.2 h.2.2, fun h => ⟨by omega, by omega, q4.1 h⟩⟩
  rw [← hx] at q2 q3 q5
  have hxl : x ≤ 9218868437227405312 := by omega
  clear q4
  clear hx
  unfold beaconref01_quarter.f math_Trunc.f
  rw [q1, q2, q3]
  simp only [Option.bind_some, Bool.false_eq_true, if_false]
  simp only [if_true, Option.bind_some]
  rw [feq_pos q5 hxl, hw]
  generalize fround .zero x = y at *
  by_cases h6 : y = x
  · refine ⟨0, by simp [h6], ?_⟩
    simp [h6]
  · have h7 : ¬ x = y := fun h => h6 h.symm
    refine ⟨15, by simp [h6], ?_⟩
    simp [h6]
theorem weight_f {a : Nat} (ha : a < 18446744073709551616) : ∃ c, beaconref01_Weight.f a = some c ∧ (c = 0 ↔ IsQ 4697254411347427328 a) := by
  obtain ⟨c, h1, h2⟩ := bounded_f (most := 4697254411347427328) ha (by decide)
  exact ⟨c, by unfold beaconref01_Weight.f; rw [h1]; rfl, h2⟩
theorem limit_f {a : Nat} (ha : a < 18446744073709551616) : ∃ c, beaconref01_Limit.f a = some c ∧ (c = 0 ↔ IsQ 4742290407621132288 a) := by
  obtain ⟨c, h1, h2⟩ := bounded_f (most := 4742290407621132288) ha (by decide)
  exact ⟨c, by unfold beaconref01_Limit.f; rw [h1]; rfl, h2⟩
/-! ### sums -/
theorem va_one : va 4607182418800017408 = U 1074 := by
  have := va_U (q := 1022) (m := 0) (by decide)
  simp only [Nat.add_zero] at this
  rw [show (4607182418800017408 : Nat) = (1022 + 1) * 4503599627370496 from by decide, this, ← U52, ← U_add]
theorem va_succ {x : Nat} (h : x < 4746794007248502784) : va (x + 1) ≤ va x + U 1074 := by
  have hU := U_pos 1074
  rcases Nat.lt_or_ge x 4503599627370496 with h1 | h1
  · rw [va_small (r := x + 1) (by omega), va_small (r := x) (by omega)]
    omega
  · obtain ⟨q, m, hm, hx, hv⟩ := va_split x h1
    have hq : q ≤ 1074 := by omega
    have h2 : va (x + 1) = (4503599627370496 + m + 1) * 2 ^ q := by
      rcases Nat.lt_or_ge (m + 1) 4503599627370496 with h3 | h3
      · rw [hx, show (q + 1) * 4503599627370496 + m + 1 = (q + 1) * 4503599627370496 + (m + 1) from by omega, va_big h3]
        rfl
      · have e2 : x + 1 = (q + 1 + 1) * 4503599627370496 + 0 := by omega
        have e3 : 4503599627370496 + m + 1 = 9007199254740992 := by omega
        rw [e2, va_big (by decide), e3, Nat.pow_succ, Nat.mul_comm (2 ^ q) 2, ← Nat.mul_assoc]
    rw [h2, hv, Nat.add_mul _ 1, Nat.one_mul, U_pow]
    exact Nat.add_le_add_left (U_le hq) _
theorem fadd_gt {w x : Nat} (h1 : 4607182418800017408 ≤ w) (h2 : w < 9218868437227405312) (hx : x < 4746794007248502784) : x < fadd w x := by
  refine le_fadd h2 (by omega) (by omega) (Nat.le_trans (va_succ hx) ?_)
  have := va_le h1
  rw [va_one] at this
  omega
theorem fadd_inf {w : Nat} (h : w < 9218868437227405312) : fadd w 9218868437227405312 = 9218868437227405312 := by
  have e : FloatKind.f64.format.add w 9218868437227405312 = some (Ieee.double.write (.infinity false)) := by
    rw [fmt]
    unfold Ieee.Format.add
    rw [read_pos h, read_pinf]
    rfl
  unfold fadd
  rw [e, Option.getD_some, write_inf]
/-- In quarters, not too many. -/
def Qu (x : Nat) : Prop := x < 9218868437227405312 ∧ ∃ n : Nat, n ≤ 4294967296 ∧ va x = n * U 1072
theorem qu_zero : Qu 0 := ⟨by decide, 0, by decide, by rw [va_small (by decide), Nat.zero_mul]⟩
theorem qu_of {most a : Nat} (h : IsQ most a) (hm : most ≤ 4742290407621132288) : Qu a := by
  obtain ⟨h1, h2, n, h3⟩ := h
  have h4 : va a = n * U 1072 := by
    rw [va_up 2 (by omega), show (1074 : Nat) = 1072 + 2 from rfl, U_add, ← Nat.mul_assoc] at h3
    exact Nat.eq_of_mul_eq_mul_right (U_pos 2) h3
  refine ⟨by omega, n, ?_, h4⟩
  have h5 := va_le (Nat.le_trans h2 hm)
  rw [va_30, h4, show (1074 : Nat) = 1072 + 2 from rfl, U_add, U2, ← Nat.mul_assoc, Nat.mul_right_comm] at h5
  have := Nat.le_of_mul_le_mul_right h5 (U_pos 1072)
  omega
theorem fadd_ex {a b : Nat} (ha : Qu a) (hb : Qu b) : va (fadd a b) = va a + va b ∧ fadd a b < 9218868437227405312 := by
  obtain ⟨ha, n, hn, e1⟩ := ha
  obtain ⟨hb, m, hm, e2⟩ := hb
  obtain ⟨r, hr⟩ := rep (n + m) 1072 (by omega) (by omega)
  have hf := va_fin hr (by omega) (by omega)
  have es : va a + va b = va r := by rw [hr, e1, e2, Nat.add_mul]
  have h1 : fadd a b ≤ r := fadd_le ha hb (Nat.le_of_eq es)
  have h2 : r ≤ fadd a b := le_fadd ha hb (by omega) (Nat.le_of_eq es.symm)
  have h3 : fadd a b = r := by omega
  rw [h3]
  exact ⟨es.symm, hf⟩
/-- A distance: none, or quarters below the limit. -/
def Di (max x : Nat) : Prop := x = 9218868437227405312 ∨ Qu x ∧ x < max
def addV (w d max : Nat) : Nat := if fadd w d < max then fadd w d else 9218868437227405312
section
variable {w d max : Nat}
theorem add_f (hw : IsQ 4697254411347427328 w) (hd : Di max d) (hm : IsQ 4742290407621132288 max) : beaconref01_Add.f w d max = some (addV w d max) := by
  have w1 := hw.1; have w2 := hw.2.1; have m2 := hm.2.1
  have hd2 : d ≤ 9218868437227405312 := by rcases hd with h | h; omega; exact Nat.le_of_lt h.1.1
  obtain ⟨h1, h2⟩ := fadd_ok (a := w) (b := d) (by omega) hd2
  have h0 : fadd w d ≠ 0 := by
    rcases hd with h | h
    · rw [h, fadd_inf (by omega)]; decide
    · have := fadd_gt (x := d) w1 (by omega) (by omega); omega
  unfold beaconref01_Add.f addV
  rw [if_pos h1, rnan_f (by omega)]
  have hnn : ¬ 9218868437227405312 < fadd w d % 9223372036854775808 := by omega
  rw [decide_eq_false hnn, flt_pos h2 (by omega), feq_pos h2 (by omega), decide_eq_false h0]
  simp only [Option.bind_some, Bool.false_eq_true, if_false, decide_eq_true_eq]
  by_cases h : fadd w d < max
  · rw [if_pos h, if_pos h]
  · rw [if_neg h, if_neg h]
    unfold math_Inf.f
    rw [if_pos (by decide), show ffrom 9218868437227405312 = 9218868437227405312 from by unfold ffrom; decide]
    rfl
theorem addV_di (hw : IsQ 4697254411347427328 w) (hd : Di max d) (hm : IsQ 4742290407621132288 max) : Di max (addV w d max) := by
  unfold addV
  by_cases h : fadd w d < max
  · rw [if_pos h]
    refine .inr ⟨?_, h⟩
    rcases hd with e | e
    · have := hw.2.1
      have := hm.2.1
      rw [e, fadd_inf (by omega)] at h
      omega
    · obtain ⟨e1, e2⟩ := fadd_ex (qu_of hw (by decide)) e.1
      obtain ⟨_, n, hn, a1⟩ := qu_of hw (by decide)
      obtain ⟨_, m, hm2, a2⟩ := e.1
      obtain ⟨_, q, hq, a3⟩ := qu_of hm (by decide)
      have hlt := va_lt h
      rw [e1, a1, a2, a3, ← Nat.add_mul] at hlt
      have := Nat.lt_of_mul_lt_mul_right hlt
      exact ⟨e2, n + m, by omega, by rw [e1, a1, a2, Nat.add_mul]⟩
  · rw [if_neg h]
    exact .inl rfl
theorem addV_gt (hw : IsQ 4697254411347427328 w) (hd : Di max d) (hm : IsQ 4742290407621132288 max) (hf : d < 9218868437227405312) : d < addV w d max := by
  unfold addV
  have w1 := hw.1; have w2 := hw.2.1; have m2 := hm.2.1
  by_cases h : fadd w d < max
  · rw [if_pos h]
    rcases hd with e | e
    · omega
    · exact fadd_gt w1 (by omega) (by omega)
  · rw [if_neg h]
    exact hf
theorem addV_one (hw : IsQ 4697254411347427328 w) (hd : Di max d) (hm : IsQ 4742290407621132288 max) : 0 < addV w d max := by
  rcases hd with e | e
  · unfold addV
    have := hw.2.1
    have := hm.2.1
    rw [e, fadd_inf (by omega), if_neg (by omega)]
    decide
  · exact Nat.lt_of_le_of_lt (Nat.zero_le _) (addV_gt hw (.inr e) hm e.1.1)
theorem addV_mono {d' : Nat} (hw : IsQ 4697254411347427328 w) (hd : Di max d) (hd' : Di max d') (hm : IsQ 4742290407621132288 max) (h : d ≤ d') : addV w d max ≤ addV w d' max := by
  have w2 := hw.2.1; have m2 := hm.2.1
  rcases hd' with e' | e'
  · have hx : addV w d' max = 9218868437227405312 := by unfold addV; rw [e', fadd_inf (by omega), if_neg (by omega)]
    rw [hx]
    rcases addV_di hw hd hm with e | e
    · omega
    · exact Nat.le_of_lt e.1.1
  · rcases hd with e | e
    · have := e'.1.1; omega
    · obtain ⟨a1, _⟩ := fadd_ex (qu_of hw (by decide)) e.1
      obtain ⟨b1, b2⟩ := fadd_ex (qu_of hw (by decide)) e'.1
      have hv := va_le h
      have hle : fadd w d ≤ fadd w d' := le_of_va (by omega)
      unfold addV
      by_cases h1 : fadd w d' < max
      · rw [if_pos h1, if_pos (by omega)]; exact hle
      · rw [if_neg h1]
        by_cases h2 : fadd w d < max
        · rw [if_pos h2]; omega
        · rw [if_neg h2]; exact Nat.le_refl _
theorem addV_fin (h : addV w d max < 9218868437227405312) : addV w d max = fadd w d := by
  unfold addV at h ⊢
  by_cases h1 : fadd w d < max
  · rw [if_pos h1]
  · rw [if_neg h1] at h; omega
end
end Go.Proofs.Ytgmjlhpigfaicaa.Pure
/- Check of a graph: if it tells that it may be, its numbers rise, its links stand in order, and join routers that are there. -/
namespace Go.Proofs.Ytgmjlhpigfaicaa.Pure
open Go.RowKit Go.Proofs.YtgmjlhpigfaicaaW.PrintWords Go.Proofs.Ytgmjlhpigfaicaa.XR
set_option linter.unusedSimpArgs false
set_option linter.unusedVariables false
theorem id_f (x : Int) : beaconref02_CheckId.f x = some (if 1 ≤ x ∧ x ≤ 2147483647 then 0 else 20) := by
  unfold beaconref02_CheckId.f
  by_cases h1 : x < 1
  · rw [if_pos h1, if_neg (by omega)]
  · by_cases h2 : x > 2147483647
    · rw [if_neg h1, if_pos h2, if_neg (by omega)]
    · rw [if_neg h1, if_neg h2, if_pos (by omega)]
def Lk (ns : List S108) (x : S117) : Prop := x.f0 < x.f1 ∧ 0 ≤ ix ns x.f0 ∧ 0 ≤ ix ns x.f1 ∧ IsQ 4697254411347427328 x.f2
def lt2 (x y : S117) : Prop := x.f0 < y.f0 ∨ (x.f0 = y.f0 ∧ x.f1 < y.f1)
def LP (ns : List S108) (ls : List S117) (m : Nat) : Prop := ∀ i, i < m → ∀ hi : i < ls.length, Lk ns ls[i] ∧ ∀ j, i = j + 1 → ∀ hj : j < ls.length, lt2 ls[j] ls[i]
theorem LP.succ {ns : List S108} {ls : List S117} {n : Nat} (h : LP ns ls n) (hn : n < ls.length) (h1 : Lk ns ls[n]) (h2 : ∀ j, n = j + 1 → ∀ hj : j < ls.length, lt2 ls[j] ls[n]) : LP ns ls (n + 1) := by
  intro i hi hi2
  rcases Nat.lt_succ_iff_lt_or_eq.1 hi with h3 | h3
  · exact h i h3 hi2
  · subst h3; exact ⟨h1, h2⟩
section
variable {ns : List S108} {ls : List S117} {n : Nat} {a b : Int} {c : Nat} {d : Bool}
theorem j4_true : Ev (fun k => beaconref07_Check.j4 k n true ns ls a b c d) 71 := Ev.up (G := fun _ => some 71) (fun k => by simp only [beaconref07_Check.j4]; rfl) Ev.const
theorem j3_true : Ev (fun k => beaconref07_Check.j3 k n true ns ls a b c d) 71 := Ev.up (G := fun _ => some 71) (fun k => by simp only [beaconref07_Check.j3]; rfl) Ev.const
end
theorem chk_l1 (ns : List S108) (ls : List S117) (hn : ns.length ≤ 256) (hl : ls.length ≤ 4096) (hw : ∀ x ∈ ls, x.f2 < 18446744073709551616) :
    ∀ (d n : Nat), ls.length - n = d → LP ns ls n → ∃ e, Ev (fun k => beaconref07_Check.l1 k (n : Int) ns ls) e ∧ (e = 0 → LP ns ls ls.length) := by
  intro d
  induction d with
  | zero =>
    intro n hd h
    refine ⟨0, Ev.up (G := fun _ => some 0) (fun k => ?_) Ev.const, fun _ i hi hi2 => h i (by omega) hi2⟩
    simp only [beaconref07_Check.l1]
    rw [if_neg (by omega)]
  | succ d ih =>
    intro n hd h
    have hlt : n < ls.length := by omega
    have hx := rd117 hlt
    obtain ⟨x, ex⟩ : ∃ x, x = ls[n] := ⟨_, rfl⟩
    rw [← ex] at hx
    have step : ∀ {e : Int} {G : Nat → Option Int}, (∀ k, (if x.f0 ≥ x.f1 then (beaconref07_Check.j3 k n true ns ls x.f0 x.f1 x.f2 x.f3) else ((beaconref07_Place.f k ns ls x.f0).bind fun t300 => (if t300 < 0 then (beaconref07_Check.j3 k n true ns ls x.f0 x.f1 x.f2 x.f3) else ((beaconref07_Place.f k ns ls x.f1).bind fun t301 => (beaconref07_Check.j3 k n (decide (t301 < 0)) ns ls x.f0 x.f1 x.f2 x.f3))))) = G k) → Ev G e → Ev (fun k => beaconref07_Check.l1 k (n : Int) ns ls) e := by
      intro e G hG he
      refine Ev.up (fun k => ?_) he
      simp only [beaconref07_Check.l1]
      rw [if_pos (by omega), if_pos (by omega), hx]
      exact hG k
    by_cases c1 : x.f0 ≥ x.f1
    · exact ⟨71, step (fun k => if_pos c1) j3_true, fun h => absurd h (by decide)⟩
    by_cases c2 : ix ns x.f0 < 0
    · exact ⟨71, step (fun k => if_neg c1) ((place_ev ns ls x.f0 (by omega)).bind (Ev.yes c2 j3_true)), fun h => absurd h (by decide)⟩
    by_cases c3 : ix ns x.f1 < 0
    · refine ⟨71, step (fun k => if_neg c1) ((place_ev ns ls x.f0 (by omega)).bind (Ev.no c2 ((place_ev ns ls x.f1 (by omega)).bind ?_))), fun h => absurd h (by decide)⟩
      rw [decide_eq_true c3]
      exact j3_true
    have good : ∀ {e : Int}, Ev (fun k => beaconref07_Check.j3 k n false ns ls x.f0 x.f1 x.f2 x.f3) e → Ev (fun k => beaconref07_Check.l1 k (n : Int) ns ls) e := by
      intro e he
      refine step (fun k => if_neg c1) ((place_ev ns ls x.f0 (by omega)).bind (Ev.no c2 ((place_ev ns ls x.f1 (by omega)).bind ?_)))
      rw [decide_eq_false c3]
      exact he
    -- behind the order
    have j4f : (∀ j, n = j + 1 → ∀ hj : j < ls.length, lt2 ls[j] ls[n]) → ∃ e, Ev (fun k => beaconref07_Check.j4 k n false ns ls x.f0 x.f1 x.f2 x.f3) e ∧ (e = 0 → LP ns ls ls.length) := by
      intro ho
      obtain ⟨e, he, hq⟩ := weight_f (a := x.f2) (hw x (by rw [ex]; exact List.getElem_mem hlt))
      by_cases c4 : e = 0
      · obtain ⟨e2, h2, h3⟩ := ih (n + 1) (by omega) (h.succ hlt (by rw [← ex]; exact ⟨by omega, by omega, by omega, hq.1 c4⟩) ho)
        refine ⟨e2, Ev.up (fun k => ?_) h2, h3⟩
        simp only [beaconref07_Check.j4]
        rw [he, wrap_up n (by omega)]
        simp only [Option.bind_some, Bool.false_eq_true, if_false]
        rw [if_pos c4]
      · refine ⟨e, Ev.up (G := fun _ => some e) (fun k => ?_) Ev.const, fun h => absurd h c4⟩
        simp only [beaconref07_Check.j4]
        rw [he]
        simp only [Option.bind_some, Bool.false_eq_true, if_false]
        rw [if_neg c4]
    by_cases c5 : n = 0
    · obtain ⟨e, h1, h2⟩ := j4f (fun j hj => by omega)
      refine ⟨e, good (Ev.up (fun k => ?_) h1), h2⟩
      simp only [beaconref07_Check.j3, Bool.false_eq_true, if_false]
      rw [if_neg (by omega)]
    · obtain ⟨m, rfl⟩ : ∃ m, n = m + 1 := ⟨n - 1, by omega⟩
      have hm : m < ls.length := by omega
      have hy := rd117 hm
      obtain ⟨y, ey⟩ : ∃ y, y = ls[m] := ⟨_, rfl⟩
      rw [← ey] at hy
      have st : ∀ {e : Int} {G : Nat → Option Int}, (∀ k, (if y.f0 > x.f0 then (beaconref07_Check.j4 k ((m + 1 : Nat) : Int) true ns ls x.f0 x.f1 x.f2 x.f3) else (if y.f0 = x.f0 then (beaconref07_Check.j4 k ((m + 1 : Nat) : Int) (decide (y.f1 ≥ x.f1)) ns ls x.f0 x.f1 x.f2 x.f3) else (beaconref07_Check.j4 k ((m + 1 : Nat) : Int) false ns ls x.f0 x.f1 x.f2 x.f3))) = G k) → Ev G e → Ev (fun k => beaconref07_Check.j3 k ((m + 1 : Nat) : Int) false ns ls x.f0 x.f1 x.f2 x.f3) e := by
        intro e G hG he
        refine Ev.up (fun k => ?_) he
        simp only [beaconref07_Check.j3, Bool.false_eq_true, if_false]
        rw [if_pos (by omega), wrap_dn m (by omega), if_pos (by omega), if_pos (by omega), hy]
        exact hG k
      by_cases c6 : y.f0 > x.f0
      · exact ⟨71, good (st (fun k => if_pos c6) j4_true), fun h => absurd h (by decide)⟩
      by_cases c7 : y.f0 = x.f0
      · by_cases c8 : y.f1 ≥ x.f1
        · refine ⟨71, good (st (fun k => (if_neg c6).trans (if_pos c7)) ?_), fun h => absurd h (by decide)⟩
          rw [decide_eq_true c8]
          exact j4_true
        · obtain ⟨e, h1, h2⟩ := j4f (fun j hj hj2 => by
            obtain rfl : j = m := by omega
            rw [← ex, ← ey]
            exact .inr ⟨c7, by omega⟩)
          refine ⟨e, good (st (fun k => (if_neg c6).trans (if_pos c7)) ?_), h2⟩
          rw [decide_eq_false c8]
          exact h1
      · obtain ⟨e, h1, h2⟩ := j4f (fun j hj hj2 => by
          obtain rfl : j = m := by omega
          rw [← ex, ← ey]
          exact .inl (by omega))
        exact ⟨e, good (st (fun k => (if_neg c6).trans (if_neg c7)) h1), h2⟩
def NP (ns : List S108) (m : Nat) : Prop := ∀ i, i < m → ∀ hi : i < ns.length, (1 ≤ ns[i].f0 ∧ ns[i].f0 ≤ 2147483647) ∧ ∀ j, i = j + 1 → ∀ hj : j < ns.length, ns[j].f0 < ns[i].f0
theorem chk_l0 (ns : List S108) (ls : List S117) (hn : ns.length ≤ 256) (hl : ls.length ≤ 4096) (hw : ∀ x ∈ ls, x.f2 < 18446744073709551616) :
    ∀ (d n : Nat), ns.length - n = d → NP ns n → ∃ e, Ev (fun k => beaconref07_Check.l0 k (n : Int) ns ls) e ∧ (e = 0 → NP ns ns.length ∧ LP ns ls ls.length) := by
  intro d
  induction d with
  | zero =>
    intro n hd h
    obtain ⟨e, h1, h2⟩ := chk_l1 ns ls hn hl hw _ 0 rfl (fun i hi => by omega)
    refine ⟨e, Ev.up (fun k => ?_) h1, fun he => ⟨fun i hi hi2 => h i (by omega) hi2, h2 he⟩⟩
    simp only [beaconref07_Check.l0]
    rw [if_neg (by omega)]
    rfl
  | succ d ih =>
    intro n hd h
    have hlt : n < ns.length := by omega
    have hx := rd108 hlt
    obtain ⟨x, ex⟩ : ∃ x, x = ns[n] := ⟨_, rfl⟩
    rw [← ex] at hx
    have next : (1 ≤ x.f0 ∧ x.f0 ≤ 2147483647) → (∀ j, n = j + 1 → ∀ hj : j < ns.length, ns[j].f0 < ns[n].f0) → ∃ e, Ev (fun k => beaconref07_Check.l0 k ((n + 1 : Nat) : Int) ns ls) e ∧ (e = 0 → NP ns ns.length ∧ LP ns ls ls.length) := by
      intro h1 h2
      refine ih (n + 1) (by omega) fun i hi hi2 => ?_
      rcases Nat.lt_succ_iff_lt_or_eq.1 hi with h3 | h3
      · exact h i h3 hi2
      · subst h3; exact ⟨by rw [← ex]; exact h1, h2⟩
    by_cases c1 : 1 ≤ x.f0 ∧ x.f0 ≤ 2147483647
    · by_cases c2 : n = 0
      · obtain ⟨e, h1, h2⟩ := next c1 (fun j hj => by omega)
        refine ⟨e, Ev.up (fun k => ?_) h1, h2⟩
        simp only [beaconref07_Check.l0]
        rw [if_pos (by omega), if_pos (by omega), hx, id_f, if_pos c1, wrap_up n (by omega)]
        simp only [Option.bind_some, if_true]
        rw [if_neg (by omega)]
      · obtain ⟨m, rfl⟩ : ∃ m, n = m + 1 := ⟨n - 1, by omega⟩
        have hm : m < ns.length := by omega
        have hy := rd108 hm
        by_cases c3 : ns[m].f0 ≥ x.f0
        · refine ⟨70, Ev.up (G := fun _ => some 70) (fun k => ?_) Ev.const, fun h => absurd h (by decide)⟩
          simp only [beaconref07_Check.l0]
          rw [if_pos (by omega), if_pos (by omega), hx, id_f, if_pos c1, wrap_dn m (by omega), hy]
          simp only [Option.bind_some, if_true]
          rw [if_pos (by omega), if_pos (by omega), if_pos (by omega), if_pos c3]
        · obtain ⟨e, h1, h2⟩ := next c1 (fun j hj hj2 => by
            obtain rfl : j = m := by omega
            rw [← ex]
            omega)
          refine ⟨e, Ev.up (fun k => ?_) h1, h2⟩
          simp only [beaconref07_Check.l0]
          rw [if_pos (by omega), if_pos (by omega), hx, id_f, if_pos c1, wrap_dn m (by omega), hy, wrap_up (m + 1) (by omega)]
          simp only [Option.bind_some, if_true]
          rw [if_pos (by omega), if_pos (by omega), if_pos (by omega), if_neg c3]
    · refine ⟨70, Ev.up (G := fun _ => some 70) (fun k => ?_) Ev.const, fun h => absurd h (by decide)⟩
      simp only [beaconref07_Check.l0]
      rw [if_pos (by omega), if_pos (by omega), hx, id_f, if_neg c1]
      rfl
/-- A graph that may be. -/
structure Ok (ns : List S108) (ls : List S117) : Prop where
  n : ns.length ≤ 256
  l : ls.length ≤ 4096
  id : ∀ x ∈ ns, 1 ≤ x.f0 ∧ x.f0 ≤ 2147483647
  up : Rise ns
  lk : ∀ x ∈ ls, Lk ns x
  lo : ls.Pairwise lt2
theorem pw_of_adj {α : Type} (R : α → α → Prop) (tr : ∀ {x y z}, R x y → R y z → R x z) (l : List α) (h : ∀ i (hi : i < l.length) j, i = j + 1 → ∀ hj : j < l.length, R l[j] l[i]) : l.Pairwise R := by
  rw [List.pairwise_iff_getElem]
  intro i j hi hj hij
  obtain ⟨d, rfl⟩ : ∃ d, j = i + 1 + d := ⟨j - i - 1, by omega⟩
  clear hij
  induction d with
  | zero => exact h (i + 1) hj i rfl hi
  | succ d ih => exact tr (ih (by omega)) (h (i + 1 + d + 1) hj (i + 1 + d) rfl (by omega))
theorem lt2_trans {x y z : S117} (h : lt2 x y) (g : lt2 y z) : lt2 x z := by unfold lt2 at *; omega
theorem check_ev (ns : List S108) (ls : List S117) (hw : ∀ x ∈ ls, x.f2 < 18446744073709551616) : ∃ e, Ev (fun k => beaconref07_Check.f k ns ls) e ∧ (e = 0 → Ok ns ls) := by
  by_cases h1 : (ns.length : Int) > 256
  · refine ⟨2, (Ev.up (G := fun _ => some 2) (F := fun k => beaconref07_Check.j0 k true ns ls) (fun k => by simp only [beaconref07_Check.j0]; rfl) Ev.const).of fun k => ?_, fun h => absurd h (by decide)⟩
    unfold beaconref07_Check.f
    rw [if_pos h1]
  · by_cases h2 : (ls.length : Int) > 4096
    · refine ⟨2, (Ev.up (G := fun _ => some 2) (F := fun k => beaconref07_Check.j0 k true ns ls) (fun k => by simp only [beaconref07_Check.j0]; rfl) Ev.const).of fun k => ?_, fun h => absurd h (by decide)⟩
      unfold beaconref07_Check.f
      rw [if_neg h1, decide_eq_true h2]
    · obtain ⟨e, h3, h4⟩ := chk_l0 ns ls (by omega) (by omega) hw _ 0 rfl (fun i hi => by omega)
      refine ⟨e, (Ev.up (F := fun k => beaconref07_Check.j0 k false ns ls) (fun k => by simp only [beaconref07_Check.j0]; rfl) h3).of fun k => ?_, fun he => ?_⟩
      · unfold beaconref07_Check.f
        rw [if_neg h1, decide_eq_false h2]
      · obtain ⟨h5, h6⟩ := h4 he
        refine ⟨by omega, by omega, fun x hx => ?_, ?_, fun x hx => ?_, ?_⟩
        · obtain ⟨i, hi, rfl⟩ := List.getElem_of_mem hx
          exact (h5 i hi hi).1
        · exact pw_of_adj (fun x y : S108 => x.f0 < y.f0) (fun h g => Int.lt_trans h g) ns fun i hi j hj hj2 => (h5 i hi hi).2 j hj hj2
        · obtain ⟨i, hi, rfl⟩ := List.getElem_of_mem hx
          exact (h6 i hi hi).1
        · exact pw_of_adj lt2 lt2_trans ls fun i hi j hj hj2 => (h6 i hi hi).2 j hj hj2
end Go.Proofs.Ytgmjlhpigfaicaa.Pure
/- How far all are from one: what beaconref08.dists tells. -/
namespace Go.Proofs.Ytgmjlhpigfaicaa.Pure
open Go.RowKit Go.Proofs.YtgmjlhpigfaicaaW.PrintWords Go.Proofs.Ytgmjlhpigfaicaa.XR
set_option linter.unusedSimpArgs false
set_option linter.unusedVariables false
def ga (d : List Nat) (i : Nat) : Nat := d.getD i 0
theorem rdOf_n (d : List Nat) (n : Nat) : rdOf (0 : Nat) d (n : Int) = ga d n := by unfold rdOf ga; rw [Int.toNat_natCast]
theorem ga_same {d : List Nat} {i v : Nat} (h : i < d.length) : ga (d.set i v) i = v := by
  unfold ga
  rw [List.getD_eq_getElem?_getD, List.getElem?_set_self h, Option.getD_some]
theorem ga_other {d : List Nat} {i j v : Nat} (h : i ≠ j) : ga (d.set i v) j = ga d j := by
  unfold ga
  rw [List.getD_eq_getElem?_getD, List.getElem?_set_ne h, List.getD_eq_getElem?_getD]
theorem sum_set : ∀ (d : List Nat) (i v : Nat), i < d.length → v < ga d i → (d.set i v).sum < d.sum
  | [], i, v, h, _ => by simp at h
  | x :: xs, 0, v, _, h => by
    have h : v < x := h
    simp only [List.set_cons_zero, List.sum_cons]
    omega
  | x :: xs, i + 1, v, h, h2 => by
    have := sum_set xs i v (by simpa using h) (by simpa [ga] using h2)
    simp only [List.set_cons_succ, List.sum_cons]
    omega
def Join (ns : List S108) (x : S117) (u v : Nat) : Prop := x.f3 = true ∧ (rd_T108 ns (u : Int)).f1 = true ∧ (rd_T108 ns (v : Int)).f1 = true ∧ ((ix ns x.f0 = u ∧ ix ns x.f1 = v) ∨ (ix ns x.f0 = v ∧ ix ns x.f1 = u))
/-- What holds all the time. -/
structure J (ns : List S108) (ls : List S117) (max src : Nat) (d : List Nat) : Prop where
  len : d.length = ns.length
  di : ∀ i, i < ns.length → Di max (ga d i)
  s0 : ga d src = 0
  wit : ∀ v, v < ns.length → v ≠ src → ga d v = 9218868437227405312 ∨ ∃ x ∈ ls, ∃ u, u < ns.length ∧ Join ns x u v ∧ addV x.f2 (ga d u) max ≤ ga d v
/-- What holds at the end. -/
structure Po (ns : List S108) (ls : List S117) (max src : Nat) (d : List Nat) : Prop where
  j : J ns ls max src d
  mn : ∀ x ∈ ls, ∀ u v, u < ns.length → v < ns.length → Join ns x u v → ga d v ≤ addV x.f2 (ga d u) max
section
variable {ns : List S108} {ls : List S117} {max src : Nat}
theorem J.store {d : List Nat} (h : J ns ls max src d) (hm : IsQ 4742290407621132288 max) (hk : ∀ x ∈ ls, Lk ns x) {x : S117} (hx : x ∈ ls) {u v : Nat} (hu : u < ns.length) (hv : v < ns.length) (huv : u ≠ v) (hj : Join ns x u v) (hlt : addV x.f2 (ga d u) max < ga d v) :
    J ns ls max src (d.set v (addV x.f2 (ga d u) max)) ∧ (d.set v (addV x.f2 (ga d u) max)).sum < d.sum := by
  have hvl : v < d.length := by rw [h.len]; exact hv
  have hs : v ≠ src := by rintro rfl; rw [h.s0] at hlt; omega
  refine ⟨⟨by rw [List.length_set]; exact h.len, fun i hi => ?_, ?_, fun w hw hws => ?_⟩, sum_set d v _ hvl hlt⟩
  · by_cases e : v = i
    · subst e
      rw [ga_same hvl]
      exact addV_di (hk x hx).2.2.2 (h.di u hu) hm
    · rw [ga_other e]
      exact h.di i hi
  · rw [ga_other hs]
    exact h.s0
  · by_cases e : v = w
    · subst e
      refine .inr ⟨x, hx, u, hu, hj, ?_⟩
      rw [ga_same hvl, ga_other (Ne.symm huv)]
      exact Nat.le_refl _
    · rw [ga_other e]
      rcases h.wit w hw hws with e1 | ⟨y, hy, t, ht, hj2, hle⟩
      · exact .inl e1
      · refine .inr ⟨y, hy, t, ht, hj2, ?_⟩
        by_cases e2 : v = t
        · subst e2
          rw [ga_same hvl]
          exact Nat.le_trans (addV_mono (hk y hy).2.2.2 (addV_di (hk x hx).2.2.2 (h.di u hu) hm) (h.di v hv) hm (Nat.le_of_lt hlt)) hle
        · rw [ga_other e2]
          exact hle
theorem di_le {d : Nat} (h : Di max d) : d ≤ 9218868437227405312 := by
  rcases h with h | h
  · omega
  · exact Nat.le_of_lt h.1.1
/-- What one link does. -/
theorem link_step (ok : Ok ns ls) (hm : IsQ 4742290407621132288 max) {d : List Nat} (h : J ns ls max src d) {x : S117} (hx : x ∈ ls) {a b : Nat} (ha : a < ns.length) (hb : b < ns.length) (ea : ix ns x.f0 = a) (eb : ix ns x.f1 = b)
    (hj : Join ns x a b) (t : Bool) (as_ bs : List Int) (i : Nat) (hi : i ≤ 4611686018427387904) :
    ∃ d' t', J ns ls max src d' ∧ ((d' = d ∧ t' = t ∧ ga d b ≤ addV x.f2 (ga d a) max ∧ ga d a ≤ addV x.f2 (ga d b) max) ∨ (t' = true ∧ d'.sum < d.sum)) ∧
      ∀ {D : List Nat}, Ev (fun k => beaconref08_dists.l3 k max d' as_ bs t' ((i + 1 : Nat) : Int) ns ls) D → Ev (fun k => beaconref08_dists.j4 k max d as_ bs t (i : Int) (a : Int) (b : Int) false ns ls x.f0 x.f1 x.f2 x.f3) D := by
  have hk := ok.lk
  have hw := (hk x hx).2.2.2
  have hab : a ≠ b := by
    rintro rfl
    rcases ix_range ns x.f0 with e | ⟨n, hn, e, e2⟩
    · omega
    · rcases ix_range ns x.f1 with g | ⟨m, hm, g, g2⟩
      · omega
      · obtain rfl : n = a := by omega
        obtain rfl : m = n := by omega
        have := (hk x hx).1
        omega
  have hj' : Join ns x b a := ⟨hj.1, hj.2.2.1, hj.2.1, by rcases hj.2.2.2 with h | h; exact .inr h; exact .inl h⟩
  have hal : a < d.length := by rw [h.len]; exact ha
  have hbl : b < d.length := by rw [h.len]; exact hb
  have e1 := add_f hw (h.di a ha) hm
  have f1 : flt (addV x.f2 (ga d a) max) (ga d b) = decide (addV x.f2 (ga d a) max < ga d b) := flt_pos (di_le (addV_di hw (h.di a ha) hm)) (di_le (h.di b hb))
  by_cases c1 : addV x.f2 (ga d a) max < ga d b
  · obtain ⟨j1, s1⟩ := h.store hm hk hx ha hb hab hj c1
    obtain ⟨y, ey⟩ : ∃ y, y = d.set b (addV x.f2 (ga d a) max) := ⟨_, rfl⟩
    rw [← ey] at j1 s1
    have hya : a < y.length := by rw [j1.len]; exact ha
    have hyb : b < y.length := by rw [j1.len]; exact hb
    have e2 := add_f hw (j1.di b hb) hm
    have f2 : flt (addV x.f2 (ga y b) max) (ga y a) = decide (addV x.f2 (ga y b) max < ga y a) := flt_pos (di_le (addV_di hw (j1.di b hb) hm)) (di_le (j1.di a ha))
    by_cases c2 : addV x.f2 (ga y b) max < ga y a
    · obtain ⟨j2, s2⟩ := j1.store hm hk hx hb ha (Ne.symm hab) hj' c2
      refine ⟨_, true, j2, .inr ⟨rfl, by omega⟩, fun {D} hD => Ev.up (fun k => ?_) hD⟩
      simp only [beaconref08_dists.j4, Bool.false_eq_true, if_false, rdOf_n, Int.toNat_natCast]
      rw [if_pos (by omega), if_pos (by omega), e1]
      simp only [Option.bind_some]
      rw [if_pos (by omega), if_pos (by omega), f1, decide_eq_true c1, if_pos rfl, ← ey, e2]
      simp only [Option.bind_some]
      rw [f2, decide_eq_true c2, if_pos rfl, wrap_up i hi]
    · refine ⟨y, true, j1, .inr ⟨rfl, s1⟩, fun {D} hD => Ev.up (fun k => ?_) hD⟩
      simp only [beaconref08_dists.j4, Bool.false_eq_true, if_false, rdOf_n, Int.toNat_natCast]
      rw [if_pos (by omega), if_pos (by omega), e1]
      simp only [Option.bind_some]
      rw [if_pos (by omega), if_pos (by omega), f1, decide_eq_true c1, if_pos rfl, ← ey, e2]
      simp only [Option.bind_some]
      rw [f2, decide_eq_false c2, if_neg (by decide), wrap_up i hi]
  · have e2 := add_f hw (h.di b hb) hm
    have f2 : flt (addV x.f2 (ga d b) max) (ga d a) = decide (addV x.f2 (ga d b) max < ga d a) := flt_pos (di_le (addV_di hw (h.di b hb) hm)) (di_le (h.di a ha))
    by_cases c2 : addV x.f2 (ga d b) max < ga d a
    · obtain ⟨j2, s2⟩ := h.store hm hk hx hb ha (Ne.symm hab) hj' c2
      refine ⟨_, true, j2, .inr ⟨rfl, s2⟩, fun {D} hD => Ev.up (fun k => ?_) hD⟩
      simp only [beaconref08_dists.j4, Bool.false_eq_true, if_false, rdOf_n, Int.toNat_natCast]
      rw [if_pos (by omega), if_pos (by omega), e1]
      simp only [Option.bind_some]
      rw [if_pos (by omega), if_pos (by omega), f1, decide_eq_false c1, if_neg (by decide), e2]
      simp only [Option.bind_some]
      rw [f2, decide_eq_true c2, if_pos rfl, wrap_up i hi]
    · refine ⟨d, t, h, .inl ⟨rfl, rfl, by omega, by omega⟩, fun {D} hD => Ev.up (fun k => ?_) hD⟩
      simp only [beaconref08_dists.j4, Bool.false_eq_true, if_false, rdOf_n, Int.toNat_natCast]
      rw [if_pos (by omega), if_pos (by omega), e1]
      simp only [Option.bind_some]
      rw [if_pos (by omega), if_pos (by omega), f1, decide_eq_false c1, if_neg (by decide), e2]
      simp only [Option.bind_some]
      rw [f2, decide_eq_false c2, if_neg (by decide), wrap_up i hi]
theorem ixn {id : Int} (h : 0 ≤ ix ns id) : ∃ n : Nat, n < ns.length ∧ ix ns id = n := by
  rcases ix_range ns id with e | ⟨n, hn, e, _⟩
  · omega
  · exact ⟨n, hn, e⟩
def asL (ns : List S108) (ls : List S117) : List Int := ls.map fun x => ix ns x.f0
def bsL (ns : List S108) (ls : List S117) : List Int := ls.map fun x => ix ns x.f1
theorem rd_as {i : Nat} (h : i < ls.length) : rd (asL ns ls) (i : Int) = ix ns ls[i].f0 := by
  unfold rd asL
  rw [Int.toNat_natCast, List.getD_eq_getElem?_getD, List.getElem?_map, List.getElem?_eq_getElem h]
  rfl
theorem rd_bs {i : Nat} (h : i < ls.length) : rd (bsL ns ls) (i : Int) = ix ns ls[i].f1 := by
  unfold rd bsL
  rw [Int.toNat_natCast, List.getD_eq_getElem?_getD, List.getElem?_map, List.getElem?_eq_getElem h]
  rfl
/-- No link up to here makes anything nearer. -/
def No (ns : List S108) (ls : List S117) (max : Nat) (d : List Nat) (m : Nat) : Prop := ∀ i, i < m → ∀ hi : i < ls.length, ∀ u v, u < ns.length → v < ns.length → Join ns ls[i] u v → ga d v ≤ addV ls[i].f2 (ga d u) max
theorem skip {d : List Nat} {t : Bool} {as_ bs : List Int} {i : Nat} (hi : i ≤ 4611686018427387904) {a b : Int} {p q : Int} {w : Nat} {f : Bool} {D : List Nat} (h : Ev (fun k => beaconref08_dists.l3 k max d as_ bs t ((i + 1 : Nat) : Int) ns ls) D) :
    Ev (fun k => beaconref08_dists.j4 k max d as_ bs t (i : Int) a b true ns ls p q w f) D :=
  Ev.up (fun k => by simp only [beaconref08_dists.j4]; rw [if_pos trivial, wrap_up i hi]) h
/-- One turn over all links; S: what the distances sum to at its start. -/
theorem turn_l3 (ok : Ok ns ls) (hm : IsQ 4742290407621132288 max) (S : Nat)
    (again : ∀ d, J ns ls max src d → d.sum < S → ∃ D, Ev (fun k => beaconref08_dists.l2 k max d (asL ns ls) (bsL ns ls) true ns ls) D ∧ Po ns ls max src D) :
    ∀ (r i : Nat) (d : List Nat) (t : Bool), ls.length - i = r → J ns ls max src d → ((t = false ∧ No ns ls max d i ∧ d.sum ≤ S) ∨ (t = true ∧ d.sum < S)) →
      ∃ D, Ev (fun k => beaconref08_dists.l3 k max d (asL ns ls) (bsL ns ls) t (i : Int) ns ls) D ∧ Po ns ls max src D := by
  intro r
  have okl := ok.l
  induction r with
  | zero =>
    intro i d t hr h hc
    have base : ∀ {D : List Nat}, Ev (fun k => beaconref08_dists.l2 k max d (asL ns ls) (bsL ns ls) t ns ls) D → Ev (fun k => beaconref08_dists.l3 k max d (asL ns ls) (bsL ns ls) t (i : Int) ns ls) D := fun {D} hD => Ev.up (fun k => by
      simp only [beaconref08_dists.l3]
      rw [if_neg (by omega)]) hD
    rcases hc with ⟨ht, hn, _⟩ | ⟨ht, hs⟩
    · refine ⟨d, base (Ev.up (G := fun _ => some d) (fun k => ?_) Ev.const), h, fun x hx u v hu hv hj => ?_⟩
      · simp only [beaconref08_dists.l2]
        rw [ht, if_neg (by decide)]
      · obtain ⟨j, hj2, rfl⟩ := List.getElem_of_mem hx
        exact hn j (by omega) hj2 u v hu hv hj
    · obtain ⟨D, h1, h2⟩ := again d h hs
      rw [← ht] at h1
      exact ⟨D, base h1, h2⟩
  | succ r ih =>
    intro i d t hr h hc
    have hlt : i < ls.length := by omega
    have hx := rd117 hlt
    have hxm : ls[i] ∈ ls := List.getElem_mem hlt
    have ha := rd_as (ns := ns) hlt
    have hb := rd_bs (ns := ns) hlt
    obtain ⟨x, ex⟩ : ∃ x, x = ls[i] := ⟨_, rfl⟩
    rw [← ex] at hx hxm ha hb
    obtain ⟨l1, l2, l3, l4⟩ := ok.lk x hxm
    obtain ⟨a, hal, ea⟩ := ixn l2
    obtain ⟨b, hbl, eb⟩ := ixn l3
    have la : (asL ns ls).length = ls.length := by unfold asL; rw [List.length_map]
    have lb : (bsL ns ls).length = ls.length := by unfold bsL; rw [List.length_map]
    -- where nothing is done
    have pass : (¬ ∃ u v, Join ns x u v) → ((t = false ∧ No ns ls max d (i + 1) ∧ d.sum ≤ S) ∨ (t = true ∧ d.sum < S)) := by
      intro hnj
      rcases hc with ⟨ht, hn, hs⟩ | hs
      · refine .inl ⟨ht, fun j hj hj2 u v hu hv hjo => ?_, hs⟩
        rcases Nat.lt_succ_iff_lt_or_eq.1 hj with h3 | h3
        · exact hn j h3 hj2 u v hu hv hjo
        · subst h3; rw [← ex] at hjo; exact absurd ⟨u, v, hjo⟩ hnj
      · exact .inr hs
    by_cases c1 : x.f3 = true
    · by_cases c2 : (rd_T108 ns (a : Int)).f1 = true
      · by_cases c3 : (rd_T108 ns (b : Int)).f1 = true
        · have hj : Join ns x a b := ⟨c1, c2, c3, .inl ⟨ea, eb⟩⟩
          obtain ⟨d', t', h1, h2, h3⟩ := link_step ok hm h hxm hal hbl ea eb hj t (asL ns ls) (bsL ns ls) i (by omega)
          have hc' : (t' = false ∧ No ns ls max d' (i + 1) ∧ d'.sum ≤ S) ∨ (t' = true ∧ d'.sum < S) := by
            rcases h2 with ⟨e1, e2, m1, m2⟩ | ⟨e1, e2⟩
            · subst e1; subst e2
              rcases hc with ⟨ht, hn, hs⟩ | hs
              · refine .inl ⟨ht, fun j hj hj2 u v hu hv hjo => ?_, hs⟩
                rcases Nat.lt_succ_iff_lt_or_eq.1 hj with h3 | h3
                · exact hn j h3 hj2 u v hu hv hjo
                · subst h3
                  rw [← ex] at hjo ⊢
                  rcases hjo.2.2.2 with ⟨q1, q2⟩ | ⟨q1, q2⟩
                  · obtain rfl : u = a := by omega
                    obtain rfl : v = b := by omega
                    exact m1
                  · obtain rfl : u = b := by omega
                    obtain rfl : v = a := by omega
                    exact m2
              · exact .inr hs
            · refine .inr ⟨e1, ?_⟩
              rcases hc with ⟨_, _, hs⟩ | ⟨_, hs⟩ <;> omega
          obtain ⟨D, h4, h5⟩ := ih (i + 1) d' t' (by omega) h1 hc'
          refine ⟨D, Ev.up (fun k => ?_) (h3 h4), h5⟩
          simp only [beaconref08_dists.l3]
          rw [if_pos (by omega), if_pos (by omega), if_pos (by omega), if_pos (by omega), hx, if_pos c1, ha, hb, ea, eb, if_pos (by omega), if_pos (by omega), if_pos c2, if_pos (by omega), if_pos (by omega), c3]
          rfl
        · obtain ⟨D, h4, h5⟩ := ih (i + 1) d t (by omega) h (pass (by
            rintro ⟨u, v, j1, j2, j3, j4⟩
            rcases j4 with ⟨q1, q2⟩ | ⟨q1, q2⟩
            · obtain rfl : v = b := by omega
              exact c3 j3
            · obtain rfl : u = b := by omega
              exact c3 j2))
          refine ⟨D, Ev.up (fun k => ?_) (skip (i := i) (a := (a : Int)) (b := (b : Int)) (p := x.f0) (q := x.f1) (w := x.f2) (f := x.f3) (by omega) h4), h5⟩
          · simp only [beaconref08_dists.l3]
            rw [if_pos (by omega), if_pos (by omega), if_pos (by omega), if_pos (by omega), hx, if_pos c1, ha, hb, ea, eb, if_pos (by omega), if_pos (by omega), if_pos c2, if_pos (by omega), if_pos (by omega), Bool.eq_false_iff.2 c3]
            rfl
      · obtain ⟨D, h4, h5⟩ := ih (i + 1) d t (by omega) h (pass (by
          rintro ⟨u, v, j1, j2, j3, j4⟩
          rcases j4 with ⟨q1, q2⟩ | ⟨q1, q2⟩
          · obtain rfl : u = a := by omega
            exact c2 j2
          · obtain rfl : v = a := by omega
            exact c2 j3))
        refine ⟨D, Ev.up (fun k => ?_) (skip (i := i) (a := (a : Int)) (b := (b : Int)) (p := x.f0) (q := x.f1) (w := x.f2) (f := x.f3) (by omega) h4), h5⟩
        · simp only [beaconref08_dists.l3]
          rw [if_pos (by omega), if_pos (by omega), if_pos (by omega), if_pos (by omega), hx, if_pos c1, ha, hb, ea, eb, if_pos (by omega), if_pos (by omega), if_neg c2]
    · obtain ⟨D, h4, h5⟩ := ih (i + 1) d t (by omega) h (pass (by rintro ⟨u, v, j1, _⟩; exact c1 j1))
      refine ⟨D, Ev.up (fun k => ?_) (skip (i := i) (a := (a : Int)) (b := (b : Int)) (p := x.f0) (q := x.f1) (w := x.f2) (f := x.f3) (by omega) h4), h5⟩
      · simp only [beaconref08_dists.l3]
        rw [if_pos (by omega), if_pos (by omega), if_pos (by omega), if_pos (by omega), hx, if_neg c1, ha, hb, ea, eb]
theorem turns (ok : Ok ns ls) (hm : IsQ 4742290407621132288 max) : ∀ (S : Nat) (d : List Nat), d.sum < S → J ns ls max src d → ∃ D, Ev (fun k => beaconref08_dists.l2 k max d (asL ns ls) (bsL ns ls) true ns ls) D ∧ Po ns ls max src D := by
  intro S
  induction S with
  | zero => intro d h; omega
  | succ S ih =>
    intro d hs h
    obtain ⟨D, h1, h2⟩ := turn_l3 ok hm S (fun d' h' hs' => ih d' hs' h') _ 0 d false rfl h (.inl ⟨rfl, fun i hi => by omega, by omega⟩)
    refine ⟨D, Ev.up (fun k => ?_) h1, h2⟩
    simp only [beaconref08_dists.l2]
    rfl
end
end Go.Proofs.Ytgmjlhpigfaicaa.Pure
/- Dists: how far all are from one. -/
namespace Go.Proofs.Ytgmjlhpigfaicaa.Pure
open Go.RowKit Go.Proofs.YtgmjlhpigfaicaaW.PrintWords Go.Proofs.Ytgmjlhpigfaicaa.XR
set_option linter.unusedSimpArgs false
set_option linter.unusedVariables false
theorem inf1 : math_Inf.f 1 = some 9218868437227405312 := by
  unfold math_Inf.f
  rw [if_pos (by decide), show ffrom 9218868437227405312 = 9218868437227405312 from by unfold ffrom; decide]
theorem ga_rep {n i : Nat} (h : i < n) : ga (List.replicate n 9218868437227405312) i = 9218868437227405312 := by
  unfold ga
  rw [List.getD_eq_getElem?_getD, List.getElem?_replicate, if_pos h, Option.getD_some]
section
variable {ns : List S108} {ls : List S117} {max : Nat}
/-- What Dists tells of the router at s. -/
def Ds (ns : List S108) (ls : List S117) (max s : Nat) (D : List Nat) : Prop :=
  D.length = ns.length ∧ (((rd_T108 ns (s : Int)).f1 = true ∧ Po ns ls max s D) ∨ ((rd_T108 ns (s : Int)).f1 = false ∧ ∀ i, i < ns.length → ga D i = 9218868437227405312))
theorem l1_ev (ok : Ok ns ls) {d D : List Nat} (h : Ev (fun k => beaconref08_dists.l2 k max d (asL ns ls) (bsL ns ls) true ns ls) D) : ∀ (r i : Nat), ls.length - i = r → i ≤ ls.length →
    Ev (fun k => beaconref08_dists.l1 k max d (asL ns (ls.take i)) (bsL ns (ls.take i)) (i : Int) ns ls) D := by
  intro r
  have okl := ok.l
  have okn := ok.n
  induction r with
  | zero =>
    intro i hr hi
    obtain rfl : i = ls.length := by omega
    rw [List.take_length]
    refine Ev.up (fun k => ?_) h
    simp only [beaconref08_dists.l1]
    rw [if_neg (by omega)]
  | succ r ih =>
    intro i hr hi
    have hlt : i < ls.length := by omega
    have hx := rd117 hlt
    have ta : asL ns (ls.take (i + 1)) = asL ns (ls.take i) ++ [ix ns ls[i].f0] := by unfold asL; rw [List.take_succ_eq_append_getElem hlt, List.map_append]; rfl
    have tb : bsL ns (ls.take (i + 1)) = bsL ns (ls.take i) ++ [ix ns ls[i].f1] := by unfold bsL; rw [List.take_succ_eq_append_getElem hlt, List.map_append]; rfl
    have la : (asL ns (ls.take i)).length = i := by unfold asL; rw [List.length_map, List.length_take]; omega
    have lb : (bsL ns (ls.take i)).length = i := by unfold bsL; rw [List.length_map, List.length_take]; omega
    have h1 := ih (i + 1) (by omega) (by omega)
    rw [ta, tb] at h1
    refine Ev.up (G := fun k => (beaconref08_place.f k ns ls ls[i].f0).bind fun t373 => (beaconref08_place.f k ns ls ls[i].f1).bind fun t378 => beaconref08_dists.l1 k max d (asL ns (ls.take i) ++ [t373]) (bsL ns (ls.take i) ++ [t378]) ((i + 1 : Nat) : Int) ns ls) (fun k => ?_) ((place8_ev ns ls _ (by omega)).bind ((place8_ev ns ls _ (by omega)).bind h1))
    simp only [beaconref08_dists.l1]
    rw [if_pos (by omega), if_pos (by omega), hx, la, lb, wrap_up i (by omega)]
    simp only [if_pos (show i < 17592186044416 by omega)]
theorem dists_ev (ok : Ok ns ls) (hm : IsQ 4742290407621132288 max) {s : Nat} {id : Int} (hs : s < ns.length) (hid : ix ns id = s) : ∃ D, Ev (fun k => beaconref08_dists.f k ns ls max id) D ∧ Ds ns ls max s D := by
  have okn := ok.n
  have m1 := hm.1
  -- what stands behind the first loop
  obtain ⟨D, h1, h2⟩ : ∃ D, Ev (fun k => beaconref08_dists.l0 k max id (List.replicate ns.length 9218868437227405312) (ns.length : Int) ns ls) D ∧ Ds ns ls max s D := by
    by_cases c : (rd_T108 ns (s : Int)).f1 = true
    · have hl : s < (List.replicate ns.length 9218868437227405312).length := by rw [List.length_replicate]; exact hs
      have hJ : J ns ls max s ((List.replicate ns.length 9218868437227405312).set s 0) := by
        refine ⟨by rw [List.length_set, List.length_replicate], fun i hi => ?_, ga_same hl, fun v hv hvs => .inl ?_⟩
        · by_cases e : s = i
          · subst e
            rw [ga_same hl]
            exact .inr ⟨qu_zero, by omega⟩
          · rw [ga_other e, ga_rep hi]
            exact .inl rfl
        · rw [ga_other (Ne.symm hvs), ga_rep hv]
      obtain ⟨D, h1, h2⟩ := turns ok hm (((List.replicate ns.length 9218868437227405312).set s 0).sum + 1) _ (by omega) hJ
      have h3 := l1_ev ok h1 _ 0 rfl (by omega)
      refine ⟨D, Ev.up (G := fun k => (beaconref08_place.f k ns ls id).bind fun t369 => (if 0 ≤ t369 then (if t369 < (ns.length : Int) then (if (rd_T108 ns t369).f1 = true then (if t369 < ((List.replicate ns.length 9218868437227405312).length : Int) then (beaconref08_dists.l1 k max ((List.replicate ns.length 9218868437227405312).set (t369 : Int).toNat 0) ([] : List Int) ([] : List Int) 0 ns ls) else (none)) else (some (List.replicate ns.length 9218868437227405312))) else (none)) else (none))) (fun k => ?_) ((place8_ev ns ls id (by omega)).bind ?_), h2.j.len, .inl ⟨c, h2⟩⟩
      · simp only [beaconref08_dists.l0]
        rw [if_neg (by omega)]
      · rw [hid]
        refine Ev.yes (by omega) (Ev.yes (by omega) (Ev.yes c (Ev.yes (by rw [List.length_replicate]; omega) ?_)))
        rw [Int.toNat_natCast]
        exact h3
    · refine ⟨List.replicate ns.length 9218868437227405312, Ev.up (G := fun k => (beaconref08_place.f k ns ls id).bind fun t369 => (if 0 ≤ t369 then (if t369 < (ns.length : Int) then (if (rd_T108 ns t369).f1 = true then (if t369 < ((List.replicate ns.length 9218868437227405312).length : Int) then (beaconref08_dists.l1 k max ((List.replicate ns.length 9218868437227405312).set (t369 : Int).toNat 0) ([] : List Int) ([] : List Int) 0 ns ls) else (none)) else (some (List.replicate ns.length 9218868437227405312))) else (none)) else (none))) (fun k => ?_) ((place8_ev ns ls id (by omega)).bind ?_), by rw [List.length_replicate], .inr ⟨Bool.eq_false_iff.2 c, fun i hi => ga_rep hi⟩⟩
      · simp only [beaconref08_dists.l0]
        rw [if_neg (by omega)]
      · rw [hid]
        exact Ev.yes (by omega) (Ev.yes (by omega) (Ev.no c Ev.const))
  refine ⟨D, ?_, h2⟩
  -- the first loop
  have loop : ∀ (r i : Nat), ns.length - i = r → i ≤ ns.length → Ev (fun k => beaconref08_dists.l0 k max id (List.replicate i 9218868437227405312) (i : Int) ns ls) D := by
    intro r
    induction r with
    | zero =>
      intro i hr hi
      obtain rfl : i = ns.length := by omega
      exact h1
    | succ r ih =>
      intro i hr hi
      refine Ev.up (fun k => ?_) (ih (i + 1) (by omega) (by omega))
      simp only [beaconref08_dists.l0]
      rw [if_pos (by omega), inf1, wrap_up i (by omega)]
      simp only [Option.bind_some]
      rw [if_pos (by rw [List.length_replicate]; omega), ← List.replicate_succ']
  unfold beaconref08_dists.f
  exact loop _ 0 rfl (by omega)
end
end Go.Proofs.Ytgmjlhpigfaicaa.Pure
/- Neighbours, and which of them is next. -/
namespace Go.Proofs.Ytgmjlhpigfaicaa.Pure
open Go.RowKit Go.Proofs.YtgmjlhpigfaicaaW.PrintWords Go.Proofs.Ytgmjlhpigfaicaa.XR
set_option linter.unusedSimpArgs false
set_option linter.unusedVariables false
theorem find_gen {α : Type} {p : α → Bool} {ns : List α} (R : Int → α) (hR : ∀ n (h : n < ns.length), R (n : Int) = ns[n]) (F : Nat → Nat → Option Int)
    (h : ∀ n k, F n (k + 1) = if n < ns.length then (if p (R (n : Int)) = true then some (n : Int) else F (n + 1) k) else some (-1)) :
    ∀ (d n : Nat), ns.length - n = d → (∀ i, i < n → ∀ hi : i < ns.length, p ns[i] = false) → Ev (F n) (match ns.findIdx? p with | some n => (n : Int) | none => -1) := by
  intro d
  induction d with
  | zero =>
    intro n hd hn
    refine Ev.up (G := fun _ => some (-1)) (fun k => ?_) ?_
    · rw [h n k, if_neg (by omega)]
    · have e : ns.findIdx? p = none := by
        rw [List.findIdx?_eq_none_iff]
        intro x hx
        obtain ⟨i, hi, rfl⟩ := List.getElem_of_mem hx
        exact hn i (by omega) hi
      rw [e]
      exact Ev.const
  | succ d ih =>
    intro n hd hn
    have hlt : n < ns.length := by omega
    cases hp : p ns[n] with
    | true =>
      refine Ev.up (G := fun _ => some (n : Int)) (fun k => ?_) ?_
      · rw [h n k, if_pos hlt, hR n hlt, if_pos hp]
      · have e : ns.findIdx? p = some n := by
          rw [List.findIdx?_eq_some_iff_getElem]
          exact ⟨hlt, hp, fun j hj => by simpa using hn j hj (by omega)⟩
        rw [e]
        exact Ev.const
    | false =>
      refine Ev.up (fun k => ?_) (ih (n + 1) (by omega) fun i hi hi2 => ?_)
      · rw [h n k, if_pos hlt, hR n hlt, if_neg (by rw [hp]; decide)]
      · rcases Nat.lt_succ_iff_lt_or_eq.1 hi with h1 | h1
        · exact hn i h1 hi2
        · subst h1; exact hp
/-- Where the link of two stands. -/
def lx (ls : List S117) (a b : Int) : Int := match ls.findIdx? (fun x => decide (x.f0 = a) && decide (x.f1 = b)) with
  | some n => n
  | none => -1
def lk2 (ls : List S117) (a b : Int) : Int := if a > b then lx ls b a else lx ls a b
section
variable {ns : List S108} {ls : List S117}
theorem link_ev (hl : ls.length ≤ 4096) (a b : Int) : Ev (fun k => beaconref07_link.f k ns ls a b) (lk2 ls a b) := by
  have base : ∀ a b : Int, Ev (fun k => beaconref07_link.j0 k a b ns ls) (lx ls a b) := by
    intro a b
    refine Ev.up (fun k => by simp only [beaconref07_link.j0]; rfl) ?_
    unfold lx
    refine find_gen (p := fun x => decide (x.f0 = a) && decide (x.f1 = b)) (rd_T117 ls) (fun n h => rd117 h) (F := fun n k => beaconref07_link.l0 k a b (n : Int) ns ls) (fun n k => ?_) _ 0 rfl (by simp)
    simp only [beaconref07_link.l0]
    by_cases c : n < ls.length
    · rw [if_pos (by omega), if_pos (by omega), if_pos c, wrap_up n (by omega)]
      by_cases c1 : (rd_T117 ls (n : Int)).f0 = a
      · by_cases c2 : (rd_T117 ls (n : Int)).f1 = b
        · simp [c1, c2]
        · simp [c1, c2]
      · simp [c1]
    · rw [if_neg (by omega), if_neg c]
  unfold lk2 beaconref07_link.f
  by_cases c : a > b
  · rw [if_pos c]
    exact (base b a).of fun k => if_pos c
  · rw [if_neg c]
    exact (base a b).of fun k => if_neg c
theorem lx_range (a b : Int) : lx ls a b = -1 ∨ ∃ n : Nat, ∃ h : n < ls.length, lx ls a b = n ∧ ls[n].f0 = a ∧ ls[n].f1 = b := by
  unfold lx
  cases e : ls.findIdx? (fun x => decide (x.f0 = a) && decide (x.f1 = b)) with
  | none => exact .inl rfl
  | some n =>
    obtain ⟨h1, h2, _⟩ := List.findIdx?_eq_some_iff_getElem.1 e
    rw [Bool.and_eq_true, decide_eq_true_eq, decide_eq_true_eq] at h2
    exact .inr ⟨n, h1, rfl, h2.1, h2.2⟩
theorem lx_at (ok : Ok ns ls) {n : Nat} (hn : n < ls.length) : lx ls ls[n].f0 ls[n].f1 = n := by
  have hp := List.pairwise_iff_getElem.1 ok.lo
  rcases lx_range (ls := ls) ls[n].f0 ls[n].f1 with e | ⟨m, hm, e, e0, e1⟩
  · unfold lx at e
    cases e3 : ls.findIdx? (fun x => decide (x.f0 = ls[n].f0) && decide (x.f1 = ls[n].f1)) with
    | none =>
      rw [List.findIdx?_eq_none_iff] at e3
      have := e3 ls[n] (List.getElem_mem hn)
      simp at this
    | some m => rw [e3] at e; simp at e
  · rw [e]
    rcases Nat.lt_trichotomy n m with h | h | h
    · have := hp n m hn hm h; unfold lt2 at this; omega
    · rw [h]
    · have := hp m n hm hn h; unfold lt2 at this; omega
def upB (ns : List S108) (id : Int) : Bool := if ix ns id ≥ 0 then (rd_T108 ns (ix ns id)).f1 else false
def liveB (ns : List S108) (x : S117) : Bool := x.f3 && (upB ns x.f0 && upB ns x.f1)
theorem up_ev (hn : ns.length ≤ 256) (id : Int) : Ev (fun k => beaconref07_up.f k ns ls id) (upB ns id) := by
  unfold beaconref07_up.f
  refine (place_ev ns ls id (by omega)).bind ?_
  unfold upB
  rcases ix_range ns id with e | ⟨n, h, e, _⟩
  · rw [e]
    exact Ev.no (by decide) Ev.const
  · rw [e]
    rw [show (if (n : Int) ≥ 0 then (rd_T108 ns (n : Int)).f1 else false) = (rd_T108 ns (n : Int)).f1 from if_pos (by omega)]
    exact Ev.yes (by omega) (Ev.yes (by omega) (Ev.yes (by omega) Ev.const))
theorem live_ev (hn : ns.length ≤ 256) (x : S117) : Ev (fun k => beaconref07_live.f k ns ls x.f0 x.f1 x.f2 x.f3) (liveB ns x) := by
  unfold beaconref07_live.f liveB
  cases x.f3 with
  | false => exact Ev.const
  | true =>
    refine Ev.yes rfl ((up_ev hn x.f0).bind ?_)
    cases upB ns x.f0 with
    | false => exact Ev.no (by decide) Ev.const
    | true =>
      refine Ev.yes rfl ((up_ev hn x.f1).bind ?_)
      cases upB ns x.f1 <;> exact Ev.const
/-- The live link of a router and the one that stands at i. -/
def nb (ns : List S108) (ls : List S117) (id : Int) (i : Nat) : Option S117 :=
  let j := lk2 ls id (rd_T108 ns (i : Int)).f0
  if j ≥ 0 ∧ liveB ns (rd_T117 ls j) = true then some (rd_T117 ls j) else none
def nbs (ns : List S108) (ls : List S117) (id : Int) : Nat → Nat → List S117
  | _, 0 => []
  | i, d + 1 => match nb ns ls id i with
    | some x => x :: nbs ns ls id (i + 1) d
    | none => nbs ns ls id (i + 1) d
theorem nbs_some {id : Int} {i d : Nat} {x : S117} (h : nb ns ls id i = some x) : nbs ns ls id i (d + 1) = x :: nbs ns ls id (i + 1) d := by
  show (match nb ns ls id i with | some x => x :: nbs ns ls id (i + 1) d | none => nbs ns ls id (i + 1) d) = _
  rw [h]
theorem nbs_none {id : Int} {i d : Nat} (h : nb ns ls id i = none) : nbs ns ls id i (d + 1) = nbs ns ls id (i + 1) d := by
  show (match nb ns ls id i with | some x => x :: nbs ns ls id (i + 1) d | none => nbs ns ls id (i + 1) d) = _
  rw [h]
theorem nbs_ev (ok : Ok ns ls) (id : Int) : ∀ (d i : Nat) (acc : List S117), ns.length - i = d → acc.length ≤ i → Ev (fun k => beaconref07_Neighbours.l0 k id acc (i : Int) ns ls) (acc ++ nbs ns ls id i d, 0) := by
  have okn := ok.n; have okl := ok.l
  intro d
  induction d with
  | zero =>
    intro i acc hd ha
    refine Ev.up (G := fun _ => some (acc ++ [], 0)) (fun k => ?_) Ev.const
    simp only [beaconref07_Neighbours.l0]
    rw [if_neg (by omega), List.append_nil]
  | succ d ih =>
    intro i acc hd ha
    have hlt : i < ns.length := by omega
    refine Ev.up (G := fun k => (beaconref07_link.f k ns ls id ((rd_T108 ns (i : Int)).f0)).bind fun t465 => (if t465 ≥ 0 then (if 0 ≤ t465 then (if t465 < (ls.length : Int) then ((beaconref07_live.f k ns ls ((rd_T117 ls t465).f0) ((rd_T117 ls t465).f1) ((rd_T117 ls t465).f2) ((rd_T117 ls t465).f3)).bind fun t467 => (if t467 = true then (if acc.length < 4398046511104 then (beaconref07_Neighbours.l0 k id (acc ++ [rd_T117 ls t465]) ((i + 1 : Nat) : Int) ns ls) else (none)) else (beaconref07_Neighbours.l0 k id acc ((i + 1 : Nat) : Int) ns ls))) else (none)) else (none)) else (beaconref07_Neighbours.l0 k id acc ((i + 1 : Nat) : Int) ns ls))) (fun k => ?_) ((link_ev ok.l id _).bind ?_)
    · simp only [beaconref07_Neighbours.l0]
      rw [if_pos (by omega), if_pos (by omega), wrap_up i (by omega)]
    · obtain ⟨j, ej⟩ : ∃ j, j = lk2 ls id (rd_T108 ns (i : Int)).f0 := ⟨_, rfl⟩
      have en : nb ns ls id i = if j ≥ 0 ∧ liveB ns (rd_T117 ls j) = true then some (rd_T117 ls j) else none := by unfold nb; rw [← ej]
      rw [← ej]
      by_cases c : j ≥ 0
      · have hj : j < ls.length := by
          rw [ej]; unfold lk2
          split
          · rcases lx_range (ls := ls) (rd_T108 ns (i : Int)).f0 id with e | ⟨n, h, e, _⟩ <;> omega
          · rcases lx_range (ls := ls) id (rd_T108 ns (i : Int)).f0 with e | ⟨n, h, e, _⟩ <;> omega
        cases hb : liveB ns (rd_T117 ls j) with
        | true =>
          have h1 := ih (i + 1) (acc ++ [rd_T117 ls j]) (by omega) (by rw [List.length_append]; simp; omega)
          rw [nbs_some (by rw [en, if_pos ⟨c, hb⟩])]
          rw [List.append_assoc] at h1
          have h2 := live_ev (ls := ls) ok.n (rd_T117 ls j)
          rw [hb] at h2
          exact Ev.yes c (Ev.yes c (Ev.yes hj (h2.bind (Ev.yes rfl (Ev.yes (by omega) h1)))))
        | false =>
          have h1 := ih (i + 1) acc (by omega) (by omega)
          rw [nbs_none (by rw [en, if_neg (by rw [hb]; simp)])]
          have h2 := live_ev (ls := ls) ok.n (rd_T117 ls j)
          rw [hb] at h2
          exact Ev.yes c (Ev.yes c (Ev.yes hj (h2.bind (Ev.no (by decide) h1))))
      · have h1 := ih (i + 1) acc (by omega) (by omega)
        rw [nbs_none (by rw [en, if_neg (by simp [c])])]
        exact Ev.no c h1
theorem mem_nbs {id : Int} {x : S117} : ∀ (d i : Nat), x ∈ nbs ns ls id i d ↔ ∃ j, i ≤ j ∧ j < i + d ∧ nb ns ls id j = some x := by
  intro d
  induction d with
  | zero => intro i; constructor
            · intro h; exact absurd h (by simp [nbs])
            · rintro ⟨j, h1, h2, _⟩; omega
  | succ d ih =>
    intro i
    cases h : nb ns ls id i with
    | none =>
      rw [nbs_none h, ih]
      constructor
      · rintro ⟨j, h1, h2, h3⟩; exact ⟨j, by omega, by omega, h3⟩
      · rintro ⟨j, h1, h2, h3⟩
        rcases Nat.eq_or_lt_of_le h1 with e | e
        · subst e; rw [h] at h3; cases h3
        · exact ⟨j, e, by omega, h3⟩
    | some y =>
      rw [nbs_some h, List.mem_cons, ih]
      constructor
      · rintro (rfl | ⟨j, h1, h2, h3⟩)
        · exact ⟨i, Nat.le_refl _, by omega, h⟩
        · exact ⟨j, by omega, by omega, h3⟩
      · rintro ⟨j, h1, h2, h3⟩
        rcases Nat.eq_or_lt_of_le h1 with e | e
        · subst e; rw [h] at h3; exact .inl (Option.some.inj h3).symm
        · exact .inr ⟨j, e, by omega, h3⟩
theorem upB_at (ok : Ok ns ls) {n : Nat} (hn : n < ns.length) : upB ns ns[n].f0 = (rd_T108 ns (n : Int)).f1 := by
  unfold upB
  rw [ix_at ok.up hn, if_pos (by omega)]
/-- A neighbour's link. -/
theorem nb_join (ok : Ok ns ls) {u v : Nat} (hu : u < ns.length) (hv : v < ns.length) {x : S117} (h : nb ns ls ns[u].f0 v = some x) : x ∈ ls ∧ Join ns x v u ∧ x.f0 + x.f1 - ns[u].f0 = ns[v].f0 ∧ u ≠ v := by
  unfold nb at h
  simp only at h
  split at h
  · rename_i hc
    obtain rfl := Option.some.inj h
    obtain ⟨h1, h2⟩ := hc
    rw [rd108 hv] at h1 h2 ⊢
    have hh : ∃ n : Nat, ∃ hn : n < ls.length, lk2 ls ns[u].f0 ns[v].f0 = n ∧ ((ls[n].f0 = ns[u].f0 ∧ ls[n].f1 = ns[v].f0) ∨ (ls[n].f0 = ns[v].f0 ∧ ls[n].f1 = ns[u].f0)) := by
      unfold lk2 at h1 ⊢
      split at h1
      · rename_i hg
        rw [if_pos hg]
        rcases lx_range (ls := ls) ns[v].f0 ns[u].f0 with e | ⟨n, hn, e, e1, e2⟩
        · omega
        · exact ⟨n, hn, e, .inr ⟨e1, e2⟩⟩
      · rename_i hg
        rw [if_neg hg]
        rcases lx_range (ls := ls) ns[u].f0 ns[v].f0 with e | ⟨n, hn, e, e1, e2⟩
        · omega
        · exact ⟨n, hn, e, .inl ⟨e1, e2⟩⟩
    obtain ⟨n, hn, e, e2⟩ := hh
    rw [e] at h2 ⊢
    rw [rd117 hn] at h2 ⊢
    have hm : ls[n] ∈ ls := List.getElem_mem hn
    have hlt := (ok.lk _ hm).1
    unfold liveB at h2
    rw [Bool.and_eq_true, Bool.and_eq_true] at h2
    obtain ⟨l1, l2, l3⟩ := h2
    refine ⟨hm, ?_, by omega, by rintro rfl; omega⟩
    rcases e2 with ⟨a1, a2⟩ | ⟨a1, a2⟩
    · rw [a1, upB_at ok hu] at l2
      rw [a2, upB_at ok hv] at l3
      exact ⟨l1, l3, l2, .inr ⟨by rw [a1, ix_at ok.up hu], by rw [a2, ix_at ok.up hv]⟩⟩
    · rw [a1, upB_at ok hv] at l2
      rw [a2, upB_at ok hu] at l3
      exact ⟨l1, l2, l3, .inl ⟨by rw [a1, ix_at ok.up hv], by rw [a2, ix_at ok.up hu]⟩⟩
  · cases h
/-- Each live link is a neighbour's. -/
theorem join_nb (ok : Ok ns ls) {u v : Nat} (hu : u < ns.length) (hv : v < ns.length) {x : S117} (hx : x ∈ ls) (hj : Join ns x v u) : nb ns ls ns[u].f0 v = some x := by
  obtain ⟨n, hn, rfl⟩ := List.getElem_of_mem hx
  obtain ⟨j1, j2, j3, j4⟩ := hj
  have hlt := (ok.lk _ hx).1
  have at_ : ∀ {id : Int} {w : Nat}, ix ns id = w → ∀ hw : w < ns.length, id = ns[w].f0 := by
    intro id w e hw
    rcases ix_range ns id with e2 | ⟨m, hm, e2, e3⟩
    · omega
    · obtain rfl : m = w := by omega
      exact e3.symm
  have hl : liveB ns ls[n] = true := by
    unfold liveB
    rw [j1]
    rcases j4 with ⟨a1, a2⟩ | ⟨a1, a2⟩
    · rw [at_ a1 hv, at_ a2 hu, upB_at ok hv, upB_at ok hu, j2, j3]; rfl
    · rw [at_ a1 hu, at_ a2 hv, upB_at ok hv, upB_at ok hu, j2, j3]; rfl
  have hk : lk2 ls ns[u].f0 ns[v].f0 = n := by
    have h1 := lx_at ok hn
    unfold lk2
    rcases j4 with ⟨a1, a2⟩ | ⟨a1, a2⟩
    · have b1 := at_ a1 hv
      have b2 := at_ a2 hu
      rw [if_pos (by omega), ← b1, ← b2]
      exact h1
    · have b1 := at_ a1 hu
      have b2 := at_ a2 hv
      rw [if_neg (by omega), ← b1, ← b2]
      exact h1
  unfold nb
  simp only
  rw [rd108 hv, hk, rd117 hn, if_pos ⟨by omega, hl⟩]
end
end Go.Proofs.Ytgmjlhpigfaicaa.Pure
/- Which neighbour is next; is one near. -/
namespace Go.Proofs.Ytgmjlhpigfaicaa.Pure
open Go.RowKit Go.Proofs.YtgmjlhpigfaicaaW.PrintWords Go.Proofs.Ytgmjlhpigfaicaa.XR
set_option linter.unusedSimpArgs false
set_option linter.unusedVariables false
section
variable {ns : List S108} {ls : List S117} {max s : Nat} {D : List Nat}
theorem neighbours_ev (ok : Ok ns ls) (hC : Ev (fun k => beaconref07_Check.f k ns ls) 0) {u : Nat} (hu : u < ns.length) : Ev (fun k => beaconref07_Neighbours.f k ns ls ns[u].f0) (nbs ns ls ns[u].f0 0 ns.length, 0) := by
  have okn := ok.n
  unfold beaconref07_Neighbours.f
  refine hC.bind (Ev.yes rfl ((place_ev ns ls _ (by omega)).bind ?_))
  rw [ix_at ok.up hu]
  exact Ev.no (by omega) (nbs_ev ok _ _ 0 [] (by omega) (by simp))
theorem far_f {x : Nat} (h : x ≤ 9218868437227405312) : beaconref09_Far.f x = some (decide (x = 9218868437227405312)) := by
  unfold beaconref09_Far.f
  rw [flt_pos (by decide) h]
  congr 1
  exact decide_eq_decide.2 (by omega)
theorem Ds.di (h : Ds ns ls max s D) {i : Nat} (hi : i < ns.length) : Di max (ga D i) := by
  rcases h.2 with ⟨_, h2⟩ | ⟨_, h2⟩
  · exact h2.j.di i hi
  · exact .inl (h2 i hi)
theorem drop117 {L : List S117} {i : Nat} {x : S117} {xs : List S117} (h : L.drop i = x :: xs) : (i : Int) < L.length ∧ L.drop (i + 1) = xs ∧ rd_T117 L (i : Int) = x := by
  have h1 : i < L.length := by
    rcases Nat.lt_or_ge i L.length with h1 | h1
    · exact h1
    · rw [List.drop_eq_nil_of_le h1] at h; cases h
  rw [List.drop_eq_getElem_cons h1] at h
  injection h with h2 h3
  exact ⟨by omega, h3, (rd117 h1).trans h2⟩
theorem drop117n {L : List S117} {i : Nat} (h : L.drop i = []) : L.length ≤ i := by
  rcases Nat.lt_or_ge i L.length with h1 | h1
  · rw [List.drop_eq_getElem_cons h1] at h; cases h
  · exact h1
/-- v is a neighbour of u by x, from which it is so far to where D leads. -/
def Toward (ns : List S108) (ls : List S117) (D : List Nat) (u v : Nat) (x : S117) : Prop := v < ns.length ∧ x ∈ ls ∧ Join ns x v u ∧ ga D v ≠ 9218868437227405312 ∧ fadd x.f2 (ga D v) = ga D u
theorem next_l (ok : Ok ns ls) (hD : Ds ns ls max s D) (hm : IsQ 4742290407621132288 max) {u : Nat} (hu : u < ns.length) (L : List S117) (hLl : L.length ≤ 4611686018427387904)
    (hL : ∀ x ∈ L, ∃ v : Nat, ∃ hv : v < ns.length, x ∈ ls ∧ Join ns x v u ∧ x.f0 + x.f1 - ns[u].f0 = ns[v].f0) : ∀ (R : List S117) (i : Nat), L.drop i = R →
    ∃ n, Ev (fun k => beaconref09_next.l0 k ns[u].f0 D L (i : Int) ns ls) n ∧ ((n = 0 ∧ ∀ x ∈ R, ∀ v : Nat, ¬ Toward ns ls D u v x) ∨ ∃ (v : Nat) (x : S117), n = (rd_T108 ns (v : Int)).f0 ∧ Toward ns ls D u v x) := by
  intro R
  have okn := ok.n
  induction R with
  | nil =>
    intro i hd
    have := drop117n hd
    refine ⟨0, Ev.up (G := fun _ => some 0) (fun k => ?_) Ev.const, .inl ⟨rfl, by simp⟩⟩
    simp only [beaconref09_next.l0]
    rw [if_neg (by omega)]
  | cons x R ih =>
    intro i hd
    obtain ⟨h1, h2, h3⟩ := drop117 hd
    have hxL : x ∈ L := List.mem_of_mem_drop (by rw [hd]; simp)
    obtain ⟨v, hv, hx, hj, hs⟩ := hL x hxL
    have hk := ok.lk x hx
    have hidu := ok.id ns[u] (List.getElem_mem hu)
    have hidv := ok.id ns[v] (List.getElem_mem hv)
    obtain ⟨n, e1, e2⟩ := ih (i + 1) h2
    have hw : wrap64 (wrap64 (x.f0 + x.f1) - ns[u].f0) = ns[v].f0 := by unfold wrap64; omega
    have huniq : ∀ w, Toward ns ls D u w x → w = v := by
      rintro w ⟨hwl, _, hjw, _⟩
      rcases hjw.2.2.2 with ⟨a1, a2⟩ | ⟨a1, a2⟩ <;> rcases hj.2.2.2 with ⟨b1, b2⟩ | ⟨b1, b2⟩ <;> omega
    have hdv := di_le (hD.di hv)
    have hdu := di_le (hD.di hu)
    have start : ∀ {r : Int} {G : Nat → Option Int}, (∀ k, (if decide (ga D v = 9218868437227405312) = true then (beaconref09_next.l0 k ns[u].f0 D L ((i + 1 : Nat) : Int) ns ls) else (if (faddOk x.f2 (ga D v)) = true then ((beaconref07_Place.f k ns ls ns[u].f0).bind fun t483 => (if 0 ≤ t483 then (if t483 < (D.length : Int) then (if (feq (fadd x.f2 (ga D v)) (rdOf (0 : Nat) D t483)) = true then (some ns[v].f0) else (beaconref09_next.l0 k ns[u].f0 D L ((i + 1 : Nat) : Int) ns ls)) else (none)) else (none))) else (none))) = G k) → Ev G r → Ev (fun k => beaconref09_next.l0 k ns[u].f0 D L (i : Int) ns ls) r := by
      intro r G hG hr
      refine Ev.up (G := fun k => (beaconref07_Place.f k ns ls ns[v].f0).bind fun t479 => (if 0 ≤ t479 then (if t479 < (D.length : Int) then ((beaconref09_Far.f (rdOf (0 : Nat) D t479)).bind fun t481 => (if t481 = true then (beaconref09_next.l0 k ns[u].f0 D L ((i + 1 : Nat) : Int) ns ls) else (if (faddOk x.f2 (rdOf (0 : Nat) D t479)) = true then ((beaconref07_Place.f k ns ls ns[u].f0).bind fun t483 => (if 0 ≤ t483 then (if t483 < (D.length : Int) then (if (feq (fadd x.f2 (rdOf (0 : Nat) D t479)) (rdOf (0 : Nat) D t483)) = true then (some ns[v].f0) else (beaconref09_next.l0 k ns[u].f0 D L ((i + 1 : Nat) : Int) ns ls)) else (none)) else (none))) else (none)))) else (none)) else (none))) (fun k => ?_) ((place_ev ns ls _ (by omega)).bind ?_)
      · simp only [beaconref09_next.l0]
        rw [if_pos h1, if_pos (by omega), h3, hw, wrap_up i (by omega)]
      · rw [ix_at ok.up hv]
        refine Ev.yes (by omega) (Ev.yes (by rw [hD.1]; omega) (hr.of fun k => ?_))
        rw [rdOf_n, far_f hdv]
        exact hG k
    by_cases c1 : ga D v = 9218868437227405312
    · refine ⟨n, start (fun k => if_pos (by simpa using c1)) e1, ?_⟩
      rcases e2 with ⟨e2, e3⟩ | e2
      · refine .inl ⟨e2, fun y hy w => ?_⟩
        rcases List.mem_cons.1 hy with rfl | hy
        · intro ht
          obtain rfl := huniq w ht
          exact ht.2.2.2.1 c1
        · exact e3 y hy w
      · exact .inr e2
    · have hok := fadd_ok (a := x.f2) (b := ga D v) (by have := hk.2.2.2.2.1; omega) hdv
      have start2 : ∀ {r : Int} {G : Nat → Option Int}, (∀ k, (if decide (fadd x.f2 (ga D v) = ga D u) = true then (some ns[v].f0) else (beaconref09_next.l0 k ns[u].f0 D L ((i + 1 : Nat) : Int) ns ls)) = G k) → Ev G r → Ev (fun k => beaconref09_next.l0 k ns[u].f0 D L (i : Int) ns ls) r := by
        intro r G hG hr
        refine start (fun k => if_neg (by simpa using c1)) (Ev.yes hok.1 ((place_ev ns ls _ (by omega)).bind ?_))
        rw [ix_at ok.up hu]
        refine Ev.yes (by omega) (Ev.yes (by rw [hD.1]; omega) (hr.of fun k => ?_))
        rw [rdOf_n, feq_pos hok.2 hdu]
        exact hG k
      by_cases c2 : fadd x.f2 (ga D v) = ga D u
      · refine ⟨ns[v].f0, start2 (fun k => if_pos (by simpa using c2)) Ev.const, .inr ⟨v, x, by rw [rd108 hv], hv, hx, hj, c1, c2⟩⟩
      · refine ⟨n, start2 (fun k => if_neg (by simpa using c2)) e1, ?_⟩
        rcases e2 with ⟨e2, e3⟩ | e2
        · refine .inl ⟨e2, fun y hy w => ?_⟩
          rcases List.mem_cons.1 hy with rfl | hy
          · intro ht
            obtain rfl := huniq w ht
            exact c2 ht.2.2.2.2
          · exact e3 y hy w
        · exact .inr e2
theorem nbs_len {id : Int} : ∀ (d i : Nat), (nbs ns ls id i d).length ≤ d := by
  intro d
  induction d with
  | zero => intro i; simp [nbs]
  | succ d ih =>
    intro i
    have := ih (i + 1)
    cases h : nb ns ls id i with
    | none => rw [nbs_none h]; omega
    | some x => rw [nbs_some h, List.length_cons]; omega
theorem nbs_mem (ok : Ok ns ls) {u : Nat} (hu : u < ns.length) : ∀ x ∈ nbs ns ls ns[u].f0 0 ns.length, ∃ v : Nat, ∃ hv : v < ns.length, x ∈ ls ∧ Join ns x v u ∧ x.f0 + x.f1 - ns[u].f0 = ns[v].f0 := by
  intro x hx
  obtain ⟨v, _, hv, h⟩ := (mem_nbs _ _).1 hx
  have hv : v < ns.length := by omega
  obtain ⟨h1, h2, h3, _⟩ := nb_join ok hu hv h
  exact ⟨v, hv, h1, h2, h3⟩
theorem next_ev (ok : Ok ns ls) (hC : Ev (fun k => beaconref07_Check.f k ns ls) 0) (hD : Ds ns ls max s D) (hm : IsQ 4742290407621132288 max) {u : Nat} (hu : u < ns.length) :
    ∃ n, Ev (fun k => beaconref09_next.f k ns ls ns[u].f0 D) n ∧ ((n = 0 ∧ ∀ x, ∀ v : Nat, ¬ Toward ns ls D u v x) ∨ ∃ (v : Nat) (x : S117), n = (rd_T108 ns (v : Int)).f0 ∧ Toward ns ls D u v x) := by
  have okn := ok.n
  have hlen := nbs_len (ns := ns) (ls := ls) (id := ns[u].f0) ns.length 0
  obtain ⟨n, h1, h2⟩ := next_l ok hD hm hu (nbs ns ls ns[u].f0 0 ns.length) (by omega) (nbs_mem ok hu) _ 0 rfl
  refine ⟨n, ?_, ?_⟩
  · unfold beaconref09_next.f
    exact (neighbours_ev ok hC hu).bind h1
  · rcases h2 with ⟨h3, h4⟩ | h3
    · refine .inl ⟨h3, fun x v ht => h4 x ?_ v ht⟩
      exact (mem_nbs _ _).2 ⟨v, Nat.zero_le _, by have := ht.1; omega, join_nb ok hu ht.1 ht.2.1 ht.2.2.1⟩
    · exact .inr h3
theorem Toward.lt (ok : Ok ns ls) (hD : Ds ns ls max s D) (hm : IsQ 4742290407621132288 max) {u v : Nat} {x : S117} (h : Toward ns ls D u v x) : ga D v < ga D u := by
  obtain ⟨h1, h2, h3, h4, h5⟩ := h
  have hk := (ok.lk x h2).2.2.2
  have m2 := hm.2.1
  have w2 := hk.2.1
  rcases hD.di h1 with e | e
  · exact absurd e h4
  · rw [← h5]
    exact fadd_gt hk.1 (by omega) (by have := e.2; omega)
/-- Who can be reached, and is not where it leads, has a next one, nearer. -/
theorem next_down (ok : Ok ns ls) (hC : Ev (fun k => beaconref07_Check.f k ns ls) 0) (hP : Po ns ls max s D) (hD : Ds ns ls max s D) (hm : IsQ 4742290407621132288 max) {u : Nat} (hu : u < ns.length) (hus : u ≠ s) (hf : ga D u ≠ 9218868437227405312) :
    ∃ (v : Nat), ∃ hv : v < ns.length, Ev (fun k => beaconref09_next.f k ns ls ns[u].f0 D) ns[v].f0 ∧ ga D v < ga D u ∧ (rd_T108 ns (v : Int)).f1 = true := by
  obtain ⟨n, h1, h2⟩ := next_ev ok hC hD hm hu
  have ex : ∃ x, ∃ v : Nat, Toward ns ls D u v x := by
    rcases hP.j.wit u hu hus with e | ⟨x, hx, t, ht, hj, hle⟩
    · exact absurd e hf
    · have hge := hP.mn x hx t u ht hu hj
      have heq : addV x.f2 (ga D t) max = ga D u := by omega
      have hlt : addV x.f2 (ga D t) max < 9218868437227405312 := by
        have := di_le (hD.di hu)
        omega
      have hfa := addV_fin hlt
      refine ⟨x, t, ht, hx, hj, fun e => ?_, by rw [← hfa]; exact heq⟩
      have hw := (ok.lk x hx).2.2.2.2.1
      rw [e] at hlt
      rw [e, fadd_inf (by omega)] at hfa
      omega
  rcases h2 with ⟨_, h3⟩ | ⟨v, x, h3, h4⟩
  · obtain ⟨x, v, h⟩ := ex
    exact absurd h (h3 x v)
  · refine ⟨v, h4.1, ?_, h4.lt ok hD hm, h4.2.2.1.2.1⟩
    rw [rd108 h4.1] at h3
    rw [← h3]
    exact h1
theorem near_ev (ok : Ok ns ls) (hC : Ev (fun k => beaconref07_Check.f k ns ls) 0) (hD : Ds ns ls max s D) {u : Nat} (hu : u < ns.length) : ∃ b, Ev (fun k => beaconref09_near.f k ns ls ns[u].f0 D) b := by
  have okn := ok.n
  have hlen := nbs_len (ns := ns) (ls := ls) (id := ns[u].f0) ns.length 0
  have hL := nbs_mem ok hu
  obtain ⟨L, eL⟩ : ∃ L, L = nbs ns ls ns[u].f0 0 ns.length := ⟨_, rfl⟩
  rw [← eL] at hlen hL
  have loop : ∀ (R : List S117) (i : Nat), L.drop i = R → ∃ b, Ev (fun k => beaconref09_near.l0 k ns[u].f0 D L (i : Int) ns ls) b := by
    intro R
    induction R with
    | nil =>
      intro i hd
      have := drop117n hd
      refine ⟨false, Ev.up (G := fun _ => some false) (fun k => ?_) Ev.const⟩
      simp only [beaconref09_near.l0]
      rw [if_neg (by omega)]
    | cons x R ih =>
      intro i hd
      obtain ⟨h1, h2, h3⟩ := drop117 hd
      have hxL : x ∈ L := List.mem_of_mem_drop (by rw [hd]; simp)
      obtain ⟨v, hv, hx, hj, hs⟩ := hL x hxL
      have hk := ok.lk x hx
      have hidu := ok.id ns[u] (List.getElem_mem hu)
      have hidv := ok.id ns[v] (List.getElem_mem hv)
      obtain ⟨b, e1⟩ := ih (i + 1) h2
      have hw : wrap64 (wrap64 (x.f0 + x.f1) - ns[u].f0) = ns[v].f0 := by unfold wrap64; omega
      have hdv := di_le (hD.di hv)
      have start : ∀ {r : Bool} {G : Nat → Option Bool}, (∀ k, (if decide (ga D v = 9218868437227405312) = true then (beaconref09_near.l0 k ns[u].f0 D L ((i + 1 : Nat) : Int) ns ls) else (some true)) = G k) → Ev G r → Ev (fun k => beaconref09_near.l0 k ns[u].f0 D L (i : Int) ns ls) r := by
        intro r G hG hr
        refine Ev.up (G := fun k => (beaconref07_Place.f k ns ls ns[v].f0).bind fun t492 => (if 0 ≤ t492 then (if t492 < (D.length : Int) then ((beaconref09_Far.f (rdOf (0 : Nat) D t492)).bind fun t494 => (if t494 = true then (beaconref09_near.l0 k ns[u].f0 D L ((i + 1 : Nat) : Int) ns ls) else (some true))) else (none)) else (none))) (fun k => ?_) ((place_ev ns ls _ (by omega)).bind ?_)
        · simp only [beaconref09_near.l0]
          rw [if_pos h1, if_pos (by omega), h3, hw, wrap_up i (by omega)]
        · rw [ix_at ok.up hv]
          refine Ev.yes (by omega) (Ev.yes (by rw [hD.1]; omega) (hr.of fun k => ?_))
          rw [rdOf_n, far_f hdv]
          exact hG k
      by_cases c1 : ga D v = 9218868437227405312
      · exact ⟨b, start (fun k => if_pos (by simpa using c1)) e1⟩
      · exact ⟨true, start (fun k => if_neg (by simpa using c1)) Ev.const⟩
  obtain ⟨b, h⟩ := loop _ 0 rfl
  refine ⟨b, ?_⟩
  unfold beaconref09_near.f
  refine (neighbours_ev ok hC hu).bind ?_
  rw [← eL]
  exact h
end
end Go.Proofs.Ytgmjlhpigfaicaa.Pure
/- Landmarks, homes, entries. -/
namespace Go.Proofs.Ytgmjlhpigfaicaa.Pure
open Go.RowKit Go.Proofs.YtgmjlhpigfaicaaW.PrintWords Go.Proofs.Ytgmjlhpigfaicaa.XR
set_option linter.unusedSimpArgs false
set_option linter.unusedVariables false
/-- A landmark that is up. -/
def mkB (ns : List S108) (i : Nat) : Bool := (rd_T108 ns (i : Int)).f1 && (rd_T108 ns (i : Int)).f2
section
variable {ns : List S108} {ls : List S117} {max s : Nat} {D : List Nat}
theorem mark_ev (ok : Ok ns ls) {i : Nat} (hi : i < ns.length) : Ev (fun k => beaconref09_mark.f k ns ls ns[i].f0) (mkB ns i) := by
  have okn := ok.n
  unfold beaconref09_mark.f mkB
  refine (place_ev ns ls _ (by omega)).bind ?_
  rw [ix_at ok.up hi]
  refine Ev.yes (by omega) (Ev.yes (by omega) (Ev.yes (by omega) ?_))
  cases (rd_T108 ns (i : Int)).f1 with
  | false => exact Ev.const
  | true => exact Ev.const
/-- What home tells: the landmark that is least far, the first of them. -/
def HoP (ns : List S108) (D : List Nat) (n : Nat) (hm : Int) (r : Nat) : Prop :=
  (hm = 0 ∧ r = 9218868437227405312 ∧ ∀ j, j < n → mkB ns j = true → ga D j = 9218868437227405312) ∨
  ∃ m, m < n ∧ mkB ns m = true ∧ hm = (rd_T108 ns (m : Int)).f0 ∧ r = ga D m ∧ r < 9218868437227405312 ∧ ∀ j, j < n → mkB ns j = true → r ≤ ga D j
theorem home_ev (ok : Ok ns ls) (hD : Ds ns ls max s D) (id : Int) : ∃ hm r, Ev (fun k => beaconref09_home.f k ns ls id D) (id, hm, r) ∧ HoP ns D ns.length hm r := by
  have okn := ok.n
  have loop : ∀ (d i : Nat) (hm : Int) (r : Nat), ns.length - i = d → i ≤ ns.length → HoP ns D i hm r → ∃ hm' r', Ev (fun k => beaconref09_home.l0 k D (i : Int) ns ls id hm r) (id, hm', r') ∧ HoP ns D ns.length hm' r' := by
    intro d
    induction d with
    | zero =>
      intro i hm r hd hi h
      obtain rfl : i = ns.length := by omega
      refine ⟨hm, r, Ev.up (G := fun _ => some (id, hm, r)) (fun k => ?_) Ev.const, h⟩
      simp only [beaconref09_home.l0]
      rw [if_neg (by omega)]
    | succ d ih =>
      intro i hm r hd hi h
      have hlt : i < ns.length := by omega
      have hr : r ≤ 9218868437227405312 := by rcases h with ⟨_, h, _⟩ | ⟨_, _, _, _, _, h, _⟩ <;> omega
      have hdi := di_le (hD.di hlt)
      have start : ∀ {R : Int × Int × Nat} {G : Nat → Option (Int × Int × Nat)}, (∀ k, (if mkB ns i = true then (if decide (ga D i < r) = true then (beaconref09_home.l0 k D ((i + 1 : Nat) : Int) ns ls id ns[i].f0 (ga D i)) else (beaconref09_home.l0 k D ((i + 1 : Nat) : Int) ns ls id hm r)) else (beaconref09_home.l0 k D ((i + 1 : Nat) : Int) ns ls id hm r)) = G k) → Ev G R → Ev (fun k => beaconref09_home.l0 k D (i : Int) ns ls id hm r) R := by
        intro R G hG hR
        refine Ev.up (G := fun k => (beaconref09_mark.f k ns ls ns[i].f0).bind fun t414 => (if t414 = true then (if (i : Int) < (D.length : Int) then (if (flt (rdOf (0 : Nat) D (i : Int)) r) = true then (beaconref09_home.l0 k D ((i + 1 : Nat) : Int) ns ls id ns[i].f0 (rdOf (0 : Nat) D (i : Int))) else (beaconref09_home.l0 k D ((i + 1 : Nat) : Int) ns ls id hm r)) else (none)) else (beaconref09_home.l0 k D ((i + 1 : Nat) : Int) ns ls id hm r))) (fun k => ?_) ((mark_ev ok hlt).bind (hR.of fun k => ?_))
        · simp only [beaconref09_home.l0]
          rw [if_pos (by omega), if_pos (by omega), rd108 hlt, wrap_up i (by omega)]
        · rw [if_pos (show (i : Int) < (D.length : Int) by rw [hD.1]; omega), rdOf_n, flt_pos hdi hr]
          exact hG k
      cases hmk : mkB ns i with
      | false =>
        obtain ⟨a, b, h1, h2⟩ := ih (i + 1) hm r (by omega) (by omega) (by
          rcases h with ⟨e1, e2, e3⟩ | ⟨m, m1, m2, m3, m4, m5, m6⟩
          · refine .inl ⟨e1, e2, fun j hj hjm => ?_⟩
            rcases Nat.lt_succ_iff_lt_or_eq.1 hj with h3 | h3
            · exact e3 j h3 hjm
            · subst h3; rw [hmk] at hjm; cases hjm
          · refine .inr ⟨m, by omega, m2, m3, m4, m5, fun j hj hjm => ?_⟩
            rcases Nat.lt_succ_iff_lt_or_eq.1 hj with h3 | h3
            · exact m6 j h3 hjm
            · subst h3; rw [hmk] at hjm; cases hjm)
        exact ⟨a, b, start (fun k => if_neg (by rw [hmk]; decide)) h1, h2⟩
      | true =>
        by_cases c : ga D i < r
        · obtain ⟨a, b, h1, h2⟩ := ih (i + 1) ns[i].f0 (ga D i) (by omega) (by omega) (by
            refine .inr ⟨i, by omega, hmk, by rw [rd108 hlt], rfl, by omega, fun j hj hjm => ?_⟩
            rcases Nat.lt_succ_iff_lt_or_eq.1 hj with h3 | h3
            · rcases h with ⟨e1, e2, e3⟩ | ⟨m, m1, m2, m3, m4, m5, m6⟩
              · rw [e3 j h3 hjm]; exact hdi
              · have := m6 j h3 hjm; omega
            · subst h3; exact Nat.le_refl _)
          exact ⟨a, b, start (fun k => (if_pos hmk).trans (if_pos (by simpa using c))) h1, h2⟩
        · obtain ⟨a, b, h1, h2⟩ := ih (i + 1) hm r (by omega) (by omega) (by
            rcases h with ⟨e1, e2, e3⟩ | ⟨m, m1, m2, m3, m4, m5, m6⟩
            · refine .inl ⟨e1, e2, fun j hj hjm => ?_⟩
              rcases Nat.lt_succ_iff_lt_or_eq.1 hj with h3 | h3
              · exact e3 j h3 hjm
              · subst h3; omega
            · refine .inr ⟨m, by omega, m2, m3, m4, m5, fun j hj hjm => ?_⟩
              rcases Nat.lt_succ_iff_lt_or_eq.1 hj with h3 | h3
              · exact m6 j h3 hjm
              · subst h3; omega)
          exact ⟨a, b, start (fun k => (if_pos hmk).trans (if_neg (by simpa using c))) h1, h2⟩
  obtain ⟨a, b, h1, h2⟩ := loop _ 0 0 9218868437227405312 rfl (Nat.zero_le _) (.inl ⟨rfl, rfl, fun j hj => by omega⟩)
  refine ⟨a, b, h1.of fun k => ?_, h2⟩
  unfold beaconref09_home.f
  rw [inf1]
  rfl
theorem Dists_ev (ok : Ok ns ls) (hC : Ev (fun k => beaconref07_Check.f k ns ls) 0) (hL : beaconref01_Limit.f max = some 0) (hm : IsQ 4742290407621132288 max) {i : Nat} (hi : i < ns.length) :
    ∃ D, Ev (fun k => beaconref08_Dists.f k ns ls max ns[i].f0) (D, 0) ∧ Ds ns ls max i D := by
  have okn := ok.n
  obtain ⟨D, h1, h2⟩ := dists_ev ok hm hi (ix_at ok.up hi)
  refine ⟨D, ?_, h2⟩
  have asked : Ev (fun k => beaconref08_asked.f k ns ls max ns[i].f0) 0 := by
    unfold beaconref08_asked.f
    refine Ev.bind (F := fun _ => beaconref01_Limit.f max) (Ev.all fun _ => hL) (Ev.yes rfl (hC.bind (Ev.yes rfl ((place8_ev ns ls _ (by omega)).bind ?_))))
    rw [ix_at ok.up hi]
    exact Ev.no (by omega) Ev.const
  unfold beaconref08_Dists.f
  exact asked.bind (Ev.yes rfl (h1.bind Ev.const))
/-- What u's table has of the router at w. -/
def Ent (ns : List S108) (ls : List S117) (D : List Nat) (u w : Nat) (e : Int × Int × Nat × Int × Nat × Int) : Prop :=
  e = (0, 0, 0, 0, 0, 0) ∨ (e.1 = (rd_T108 ns (w : Int)).f0 ∧ e.2.2.1 = ga D u ∧ 1 ≤ e.2.1 ∧ e.2.1 ≤ 3 ∧
    (ga D u ≠ 9218868437227405312 → Ev (fun k => beaconref09_next.f k ns ls (rd_T108 ns (u : Int)).f0 D) e.2.2.2.1))
/-- When it has none: no landmark, and neither in the ball nor in the flock; or too far. -/
def Knows (ns : List S108) (D : List Nat) (u w : Nat) (hm : Int) (r : Nat) : Prop :=
  ga D u ≠ 9218868437227405312 ∧ (mkB ns w = true ∨ ga D u < r ∨ (hm = (rd_T108 ns (u : Int)).f0 ∧ ga D u = r))
theorem entry_ev (ok : Ok ns ls) (hC : Ev (fun k => beaconref07_Check.f k ns ls) 0) (hm : IsQ 4742290407621132288 max) {u w : Nat} (hu : u < ns.length) (hw : w < ns.length) (hD : Ds ns ls max w D) {h : Int} {r : Nat}
    (hh : Ev (fun k => beaconref09_home.f k ns ls ns[w].f0 D) (ns[w].f0, h, r)) (hr : r ≤ 9218868437227405312) :
    ∃ e, Ev (fun k => beaconref09_entry.f k ns ls ns[u].f0 ns[w].f0 D) e ∧ Ent ns ls D u w e ∧ (Knows ns D u w h r → e.2.1 ≠ 0) ∧ (e.2.1 ≠ 0 → ga D u ≠ 9218868437227405312 → Knows ns D u w h r) ∧ (e.2.1 = 1 ↔ e.2.1 ≠ 0 ∧ mkB ns w = true) ∧ (ga D u = 9218868437227405312 → e.2.1 ≠ 0 → e.2.1 = 1) := by
  have okn := ok.n
  have hdu := di_le (hD.di hu)
  -- behind the next one
  have j0 : ∀ n : Int, (ga D u ≠ 9218868437227405312 → Ev (fun k => beaconref09_next.f k ns ls ns[u].f0 D) n) →
      ∃ e, Ev (fun k => beaconref09_entry.j0 k ns[u].f0 ns[w].f0 D (ga D u) ns ls ns[w].f0 0 (ga D u) n 0 0) e ∧ Ent ns ls D u w e ∧ (Knows ns D u w h r → e.2.1 ≠ 0) ∧ (e.2.1 ≠ 0 → ga D u ≠ 9218868437227405312 → Knows ns D u w h r) ∧ (e.2.1 = 1 ↔ e.2.1 ≠ 0 ∧ mkB ns w = true) ∧ (ga D u = 9218868437227405312 → e.2.1 ≠ 0 → e.2.1 = 1) := by
    intro n hn
    have mk : ∀ {e : Int × Int × Nat × Int × Nat × Int} {G : Nat → Option (Int × Int × Nat × Int × Nat × Int)}, (∀ k, (if mkB ns w = true then (if decide (ga D u = 9218868437227405312) = true then ((beaconref09_near.f k ns ls ns[u].f0 D).bind fun t504 => (if t504 = true then (some (ns[w].f0, 1, ga D u, n, 0, 0)) else (some (0, 0, 0, 0, 0, 0)))) else (some (ns[w].f0, 1, ga D u, n, 0, 0))) else ((beaconref09_home.f k ns ls ns[w].f0 D).bind fun bt505 => (if (flt (ga D u) bt505.2.2) = true then (some (ns[w].f0, 2, ga D u, n, bt505.2.2, bt505.2.1)) else (if decide (ga D u = 9218868437227405312) = true then (some (0, 0, 0, 0, 0, 0)) else (if bt505.2.1 = ns[u].f0 then (if (feq (ga D u) bt505.2.2) = true then (some (ns[w].f0, 3, ga D u, n, bt505.2.2, bt505.2.1)) else (some (0, 0, 0, 0, 0, 0))) else (some (0, 0, 0, 0, 0, 0))))))) = G k) → Ev G e → Ev (fun k => beaconref09_entry.j0 k ns[u].f0 ns[w].f0 D (ga D u) ns ls ns[w].f0 0 (ga D u) n 0 0) e := by
      intro e G hG he
      refine Ev.up (G := fun k => (beaconref09_mark.f k ns ls ns[w].f0).bind fun t502 => (if t502 = true then (if decide (ga D u = 9218868437227405312) = true then ((beaconref09_near.f k ns ls ns[u].f0 D).bind fun t504 => (if t504 = true then (some (ns[w].f0, 1, ga D u, n, 0, 0)) else (some (0, 0, 0, 0, 0, 0)))) else (some (ns[w].f0, 1, ga D u, n, 0, 0))) else ((beaconref09_home.f k ns ls ns[w].f0 D).bind fun bt505 => (if (flt (ga D u) bt505.2.2) = true then (some (ns[w].f0, 2, ga D u, n, bt505.2.2, bt505.2.1)) else (if decide (ga D u = 9218868437227405312) = true then (some (0, 0, 0, 0, 0, 0)) else (if bt505.2.1 = ns[u].f0 then (if (feq (ga D u) bt505.2.2) = true then (some (ns[w].f0, 3, ga D u, n, bt505.2.2, bt505.2.1)) else (some (0, 0, 0, 0, 0, 0))) else (some (0, 0, 0, 0, 0, 0)))))))) (fun k => ?_) ((mark_ev ok hw).bind (he.of hG))
      simp only [beaconref09_entry.j0, far_f hdu, Option.bind_some]
    have zero : Ent ns ls D u w (0, 0, 0, 0, 0, 0) := .inl rfl
    have some_ : ∀ (kd : Int) (a : Nat) (b : Int), 1 ≤ kd → kd ≤ 3 → Ent ns ls D u w (ns[w].f0, kd, ga D u, n, a, b) := fun kd a b h1 h2 => .inr ⟨by rw [rd108 hw], rfl, h1, h2, fun hf => by rw [rd108 hu]; exact hn hf⟩
    by_cases c0 : mkB ns w = true
    · by_cases c1 : ga D u = 9218868437227405312
      · obtain ⟨b, hb⟩ := near_ev ok hC hD hu
        cases b with
        | true => exact ⟨_, mk (fun k => (if_pos c0).trans (if_pos (by simpa using c1))) (hb.bind (Ev.yes rfl Ev.const)), some_ 1 0 0 (by decide) (by decide), fun _ => by simp, fun _ hf => absurd c1 hf, by simp [c0], fun _ _ => rfl⟩
        | false => exact ⟨_, mk (fun k => (if_pos c0).trans (if_pos (by simpa using c1))) (hb.bind (Ev.no (by decide) Ev.const)), zero, fun hk => absurd c1 hk.1, fun h => absurd rfl h, by simp, fun _ h => absurd rfl h⟩
      · exact ⟨_, mk (fun k => (if_pos c0).trans (if_neg (by simpa using c1))) Ev.const, some_ 1 0 0 (by decide) (by decide), fun _ => by simp, fun _ _ => ⟨c1, .inl c0⟩, by simp [c0], fun _ _ => rfl⟩
    · have f1 : flt (ga D u) r = decide (ga D u < r) := flt_pos hdu hr
      have f2 : feq (ga D u) r = decide (ga D u = r) := feq_pos hdu hr
      by_cases c1 : ga D u < r
      · exact ⟨_, mk (fun k => if_neg c0) (hh.bind (Ev.yes (by rw [f1]; simpa using c1) Ev.const)), some_ 2 r h (by decide) (by decide), fun _ => by simp, fun _ hf => ⟨hf, .inr (.inl c1)⟩, by simp [c0], fun hf => by omega⟩
      · by_cases c2 : ga D u = 9218868437227405312
        · exact ⟨_, mk (fun k => if_neg c0) (hh.bind (Ev.no (by rw [f1]; simpa using c1) (Ev.yes (by simpa using c2) Ev.const))), zero, fun hk => absurd c2 hk.1, fun h => absurd rfl h, by simp, fun _ h => absurd rfl h⟩
        · by_cases c3 : h = ns[u].f0
          · by_cases c4 : ga D u = r
            · exact ⟨_, mk (fun k => if_neg c0) (hh.bind (Ev.no (by rw [f1]; simpa using c1) (Ev.no (by simpa using c2) (Ev.yes c3 (Ev.yes (by rw [f2]; simpa using c4) Ev.const))))), some_ 3 r h (by decide) (by decide), fun _ => by simp, fun _ hf => ⟨hf, .inr (.inr ⟨by rw [rd108 hu]; exact c3, c4⟩)⟩, by simp [c0], fun hf => absurd hf c2⟩
            · exact ⟨_, mk (fun k => if_neg c0) (hh.bind (Ev.no (by rw [f1]; simpa using c1) (Ev.no (by simpa using c2) (Ev.yes c3 (Ev.no (by rw [f2]; simpa using c4) Ev.const))))), zero, fun hk => by rcases hk.2 with e | e | e; exact absurd e c0; exact absurd e c1; exact absurd e.2 c4, fun h => absurd rfl h, by simp, fun _ h => absurd rfl h⟩
          · exact ⟨_, mk (fun k => if_neg c0) (hh.bind (Ev.no (by rw [f1]; simpa using c1) (Ev.no (by simpa using c2) (Ev.no c3 Ev.const)))), zero, fun hk => by rcases hk.2 with e | e | e; exact absurd e c0; exact absurd e c1; exact absurd (by rw [e.1, rd108 hu]) c3, fun h => absurd rfl h, by simp, fun _ h => absurd rfl h⟩
  have start : ∀ {e : Int × Int × Nat × Int × Nat × Int} {G : Nat → Option (Int × Int × Nat × Int × Nat × Int)}, (∀ k, (if decide (ga D u = 9218868437227405312) = true then (beaconref09_entry.j0 k ns[u].f0 ns[w].f0 D (ga D u) ns ls ns[w].f0 0 (ga D u) 0 0 0) else ((beaconref09_next.f k ns ls ns[u].f0 D).bind fun t501 => (beaconref09_entry.j0 k ns[u].f0 ns[w].f0 D (ga D u) ns ls ns[w].f0 0 (ga D u) t501 0 0))) = G k) → Ev G e → Ev (fun k => beaconref09_entry.f k ns ls ns[u].f0 ns[w].f0 D) e := by
    intro e G hG he
    unfold beaconref09_entry.f
    refine (place_ev ns ls _ (by omega)).bind ?_
    rw [ix_at ok.up hu]
    refine Ev.yes (by omega) (Ev.yes (by rw [hD.1]; omega) (he.of fun k => ?_))
    rw [rdOf_n, far_f hdu]
    exact hG k
  by_cases c : ga D u = 9218868437227405312
  · obtain ⟨e, h1, h2⟩ := j0 0 (fun hf => absurd c hf)
    exact ⟨e, start (fun k => if_pos (by simpa using c)) h1, h2⟩
  · obtain ⟨n, n1, _⟩ := next_ev ok hC hD hm hu
    obtain ⟨e, h1, h2⟩ := j0 n (fun _ => n1)
    exact ⟨e, start (fun k => if_neg (by simpa using c)) (n1.bind h1), h2⟩
end
end Go.Proofs.Ytgmjlhpigfaicaa.Pure
/- A table: its entries by kinds, and within a kind as the routers stand. -/
namespace Go.Proofs.Ytgmjlhpigfaicaa.Pure
open Go.RowKit Go.Proofs.YtgmjlhpigfaicaaW.PrintWords Go.Proofs.Ytgmjlhpigfaicaa.XR
set_option linter.unusedSimpArgs false
set_option linter.unusedVariables false
abbrev En := Int × Int × Nat × Int × Nat × Int
def mkE (e : En) : S39 := ⟨e.1, e.2.1, e.2.2.1, e.2.2.2.1, e.2.2.2.2.1, e.2.2.2.2.2⟩
/-- Those of one kind, from i on, so many routers. -/
def tb (ns : List S108) (u : Nat) (E : Nat → En) (kd : Int) : Nat → Nat → List S39
  | _, 0 => []
  | i, d + 1 => if i ≠ u ∧ (rd_T108 ns (i : Int)).f1 = true ∧ (E i).2.1 = kd then mkE (E i) :: tb ns u E kd (i + 1) d else tb ns u E kd (i + 1) d
def tab (ns : List S108) (u : Nat) (E : Nat → En) : List S39 := tb ns u E 1 0 ns.length ++ (tb ns u E 2 0 ns.length ++ tb ns u E 3 0 ns.length)
section
variable {ns : List S108} {ls : List S117} {u : Nat} {E : Nat → En} {all : List (List Nat)}
theorem tb_len (kd : Int) : ∀ (d i : Nat), (tb ns u E kd i d).length ≤ d := by
  intro d
  induction d with
  | zero => intro i; simp [tb]
  | succ d ih =>
    intro i
    have := ih (i + 1)
    unfold tb
    split
    · rw [List.length_cons]; omega
    · omega
theorem tab_l1 (ok : Ok ns ls) (hu : u < ns.length) (hall : all.length = ns.length) (hE : ∀ w, ∀ hw : w < ns.length, w ≠ u → (rd_T108 ns (w : Int)).f1 = true → Ev (fun k => beaconref09_entry.f k ns ls ns[u].f0 ns[w].f0 (rd_L12 all (w : Int))) (E w)) (kd : Nat) (hk : kd ≤ 3) {R : List S39} :
    ∀ (d i : Nat) (acc : List S39), ns.length - i = d → i ≤ ns.length → acc.length ≤ 100000 + i → Ev (fun k => beaconref09_table.l0 k ns[u].f0 all (acc ++ tb ns u E kd i d) ((kd + 1 : Nat) : Int) ns ls) R →
      Ev (fun k => beaconref09_table.l1 k ns[u].f0 all acc (kd : Int) (i : Int) ns ls) R := by
  have okn := ok.n
  intro d
  induction d with
  | zero =>
    intro i acc hd hi ha h
    refine Ev.up (fun k => ?_) h
    simp only [beaconref09_table.l1, tb, List.append_nil]
    rw [if_neg (by omega), wrap_up kd (by omega)]
  | succ d ih =>
    intro i acc hd hi ha h
    have hlt : i < ns.length := by omega
    have next : ∀ {acc' : List S39}, acc'.length ≤ 100000 + (i + 1) → acc' ++ tb ns u E kd (i + 1) d = acc ++ tb ns u E kd i (d + 1) → Ev (fun k => beaconref09_table.l1 k ns[u].f0 all acc' (kd : Int) ((i + 1 : Nat) : Int) ns ls) R := by
      intro acc' h1 h2
      exact ih (i + 1) acc' (by omega) (by omega) h1 (by rw [h2]; exact h)
    have skip_ : tb ns u E kd i (d + 1) = tb ns u E kd (i + 1) d → ∀ (id : Int), Ev (fun k => beaconref09_table.j2 k ns[u].f0 all acc (kd : Int) (i : Int) id true ns ls) R := by
      intro e id
      refine Ev.up (fun k => ?_) (next (acc' := acc) (by omega) (by rw [e]))
      simp only [beaconref09_table.j2]
      rw [if_pos trivial, wrap_up i (by omega)]
    by_cases c1 : ns[i].f0 = ns[u].f0
    · have e : i = u := rise_inj ok.up hlt hu c1
      refine Ev.up (fun k => ?_) (skip_ (by show (if i ≠ u ∧ _ ∧ _ then _ else _) = _; rw [if_neg (by rw [e]; simp)]) ns[i].f0)
      simp only [beaconref09_table.l1]
      rw [if_pos (by omega), if_pos (by omega), rd108 hlt, if_pos c1]
    · have hne : i ≠ u := by rintro rfl; exact c1 rfl
      have l1e : ∀ {b : Bool}, (rd_T108 ns (i : Int)).f1 = b → Ev (fun k => beaconref09_table.j2 k ns[u].f0 all acc (kd : Int) (i : Int) ns[i].f0 (!b) ns ls) R → Ev (fun k => beaconref09_table.l1 k ns[u].f0 all acc (kd : Int) (i : Int) ns ls) R := by
        intro b hb hj
        refine Ev.up (fun k => ?_) hj
        simp only [beaconref09_table.l1]
        rw [if_pos (by omega), if_pos (by omega), hb, rd108 hlt, if_neg c1]
      cases hup : (rd_T108 ns (i : Int)).f1 with
      | false =>
        exact l1e hup (skip_ (by show (if i ≠ u ∧ _ ∧ _ then _ else _) = _; rw [if_neg (by rw [hup]; simp)]) ns[i].f0)
      | true =>
        refine l1e hup ?_
        refine Ev.up (G := fun k => (beaconref09_entry.f k ns ls ns[u].f0 ns[i].f0 (rd_L12 all (i : Int))).bind fun bt517 => (if bt517.2.1 = (kd : Int) then (beaconref09_table.l1 k ns[u].f0 all (acc ++ [mkE bt517]) (kd : Int) ((i + 1 : Nat) : Int) ns ls) else (beaconref09_table.l1 k ns[u].f0 all acc (kd : Int) ((i + 1 : Nat) : Int) ns ls))) (fun k => ?_) ((hE i hlt hne hup).bind ?_)
        · simp only [beaconref09_table.j2, Bool.not_true, Bool.false_eq_true, if_false]
          rw [if_pos (by omega), if_pos (by omega), wrap_up i (by omega)]
          simp only [if_pos (show acc.length < 2932031007402 by omega)]
          rfl
        · by_cases c2 : (E i).2.1 = (kd : Int)
          · refine Ev.yes c2 (next (by rw [List.length_append]; simp; omega) ?_)
            rw [show tb ns u E kd i (d + 1) = mkE (E i) :: tb ns u E kd (i + 1) d from if_pos ⟨hne, hup, c2⟩, List.append_assoc]
            rfl
          · refine Ev.no c2 (next (by omega) ?_)
            rw [show tb ns u E kd i (d + 1) = tb ns u E kd (i + 1) d from if_neg (by rintro ⟨_, _, h⟩; exact c2 h)]
theorem table_ev (ok : Ok ns ls) (hu : u < ns.length) (hall : all.length = ns.length) (hE : ∀ w, ∀ hw : w < ns.length, w ≠ u → (rd_T108 ns (w : Int)).f1 = true → Ev (fun k => beaconref09_entry.f k ns ls ns[u].f0 ns[w].f0 (rd_L12 all (w : Int))) (E w)) :
    Ev (fun k => beaconref09_table.f k ns ls ns[u].f0 all) (tab ns u E) := by
  have okn := ok.n
  have l1 := tb_len (ns := ns) (u := u) (E := E) 1 ns.length 0
  have l2 := tb_len (ns := ns) (u := u) (E := E) 2 ns.length 0
  have go : ∀ (kd : Nat) (acc : List S39), kd ≤ 3 → acc.length ≤ 100000 → ∀ {R : List S39}, Ev (fun k => beaconref09_table.l0 k ns[u].f0 all (acc ++ tb ns u E kd 0 ns.length) ((kd + 1 : Nat) : Int) ns ls) R → Ev (fun k => beaconref09_table.l0 k ns[u].f0 all acc (kd : Int) ns ls) R := by
    intro kd acc h1 h2 R h
    refine Ev.up (fun k => ?_) (tab_l1 ok hu hall hE kd h1 _ 0 acc rfl (Nat.zero_le _) (by omega) h)
    simp only [beaconref09_table.l0]
    rw [if_pos (by omega)]
    rfl
  have last : Ev (fun k => beaconref09_table.l0 k ns[u].f0 all (tab ns u E) ((4 : Nat) : Int) ns ls) (tab ns u E) := by
    refine Ev.up (G := fun _ => some (tab ns u E)) (fun k => ?_) Ev.const
    simp only [beaconref09_table.l0]
    rw [if_neg (by decide)]
  unfold beaconref09_table.f
  have e3 := go 3 (tb ns u E 1 0 ns.length ++ tb ns u E 2 0 ns.length) (by decide) (by rw [List.length_append]; omega) (R := tab ns u E) (by
    rw [List.append_assoc]
    exact last)
  have e2 := go 2 (tb ns u E 1 0 ns.length) (by decide) (by omega) e3
  exact go 1 [] (by decide) (by simp) e2
theorem tb_mem {kd : Int} {x : S39} : ∀ (d i : Nat), x ∈ tb ns u E kd i d ↔ ∃ w, i ≤ w ∧ w < i + d ∧ w ≠ u ∧ (rd_T108 ns (w : Int)).f1 = true ∧ (E w).2.1 = kd ∧ x = mkE (E w) := by
  intro d
  induction d with
  | zero => intro i; constructor
            · intro h; exact absurd h (by simp [tb])
            · rintro ⟨w, h1, h2, _⟩; omega
  | succ d ih =>
    intro i
    by_cases c : i ≠ u ∧ (rd_T108 ns (i : Int)).f1 = true ∧ (E i).2.1 = kd
    · rw [show tb ns u E kd i (d + 1) = mkE (E i) :: tb ns u E kd (i + 1) d from if_pos c, List.mem_cons, ih]
      constructor
      · rintro (rfl | ⟨w, h1, h2, h3⟩)
        · exact ⟨i, Nat.le_refl _, by omega, c.1, c.2.1, c.2.2, rfl⟩
        · exact ⟨w, by omega, by omega, h3⟩
      · rintro ⟨w, h1, h2, h3⟩
        rcases Nat.eq_or_lt_of_le h1 with e | e
        · subst e; exact .inl h3.2.2.2
        · exact .inr ⟨w, e, by omega, h3⟩
    · rw [show tb ns u E kd i (d + 1) = tb ns u E kd (i + 1) d from if_neg c, ih]
      constructor
      · rintro ⟨w, h1, h2, h3⟩; exact ⟨w, by omega, by omega, h3⟩
      · rintro ⟨w, h1, h2, h3⟩
        rcases Nat.eq_or_lt_of_le h1 with e | e
        · subst e; exact absurd ⟨h3.1, h3.2.1, h3.2.2.1⟩ c
        · exact ⟨w, e, by omega, h3⟩
/-- By kinds, and within a kind by numbers. -/
def Asc (x y : S39) : Prop := x.f1 < y.f1 ∨ (x.f1 = y.f1 ∧ x.f0 < y.f0)
theorem tb_asc (ok : Ok ns ls) (hd : ∀ w, w < ns.length → (E w).2.1 ≠ 0 → (E w).1 = (rd_T108 ns (w : Int)).f0) {kd : Int} (hk : kd ≠ 0) : ∀ (d i : Nat), i + d ≤ ns.length → (tb ns u E kd i d).Pairwise Asc := by
  intro d
  induction d with
  | zero => intro i _; simp [tb]
  | succ d ih =>
    intro i hi
    by_cases c : i ≠ u ∧ (rd_T108 ns (i : Int)).f1 = true ∧ (E i).2.1 = kd
    · rw [show tb ns u E kd i (d + 1) = mkE (E i) :: tb ns u E kd (i + 1) d from if_pos c]
      refine List.pairwise_cons.2 ⟨fun x hx => ?_, ih (i + 1) (by omega)⟩
      obtain ⟨w, h1, h2, h3, h4, h5, rfl⟩ := (tb_mem _ _).1 hx
      have a := hd i (by omega) (by rw [c.2.2]; exact hk)
      have b := hd w (by omega) (by rw [h5]; exact hk)
      have r := List.pairwise_iff_getElem.1 ok.up i w (by omega) (by omega) (by omega)
      rw [rd108 (by omega)] at a b
      refine .inr ⟨by show (E i).2.1 = (E w).2.1; rw [c.2.2, h5], ?_⟩
      show (E i).1 < (E w).1
      rw [a, b]
      exact r
    · rw [show tb ns u E kd i (d + 1) = tb ns u E kd (i + 1) d from if_neg c]
      exact ih (i + 1) (by omega)
theorem tab_asc (ok : Ok ns ls) (hd : ∀ w, w < ns.length → (E w).2.1 ≠ 0 → (E w).1 = (rd_T108 ns (w : Int)).f0) : (tab ns u E).Pairwise Asc := by
  have k : ∀ {kd : Int} {x : S39}, x ∈ tb ns u E kd 0 ns.length → x.f1 = kd := by
    intro kd x hx
    obtain ⟨w, _, _, _, _, h, rfl⟩ := (tb_mem _ _).1 hx
    exact h
  unfold tab
  rw [List.pairwise_append, List.pairwise_append]
  refine ⟨tb_asc ok hd (by decide) _ _ (by omega), ⟨tb_asc ok hd (by decide) _ _ (by omega), tb_asc ok hd (by decide) _ _ (by omega), fun x hx y hy => ?_⟩, fun x hx y hy => ?_⟩
  · have := k hx; have := k hy; exact .inl (by omega)
  · rcases List.mem_append.1 hy with hy | hy
    · have := k hx; have := k hy; exact .inl (by omega)
    · have := k hx; have := k hy; exact .inl (by omega)
end
end Go.Proofs.Ytgmjlhpigfaicaa.Pure
/- Tables of the program: Check, Find, the home's entry (lines of the texts for key F). -/
namespace Go.Proofs.Ytgmjlhpigfaicaa.Pure
open Go.RowKit Go.Proofs.YtgmjlhpigfaicaaW.PrintWords Go.Proofs.Ytgmjlhpigfaicaa.XR
set_option linter.unusedSimpArgs false
set_option linter.unusedVariables false
theorem drop_cons {α : Type} {l : List α} {n : Nat} {x : α} {xs : List α} (h : l.drop n = x :: xs) : n < l.length ∧ l.drop (n + 1) = xs ∧ ∀ d, l.getD n d = x := by
  have h1 : n < l.length := by
    rcases Nat.lt_or_ge n l.length with h1 | h1
    · exact h1
    · rw [List.drop_eq_nil_of_le h1] at h
      cases h
  rw [List.drop_eq_getElem_cons h1] at h
  injection h with h2 h3
  exact ⟨h1, h3, fun d => by rw [List.getD_eq_getElem?_getD, List.getElem?_eq_getElem h1, Option.getD_some, h2]⟩
theorem drop_nil {α : Type} {l : List α} {n : Nat} (h : l.drop n = []) : l.length ≤ n := by
  rcases Nat.lt_or_ge n l.length with h1 | h1
  · rw [List.drop_eq_getElem_cons h1] at h
    cases h
  · exact h1
theorem at_drop {l : List S39} {n : Nat} {x : S39} {xs : List S39} (h : l.drop n = x :: xs) : (n : Int) < l.length ∧ l.drop (n + 1) = xs ∧ rd_T39 l (n : Int) = x := by
  obtain ⟨h1, h2, h3⟩ := drop_cons h
  exact ⟨by omega, h2, by unfold rd_T39; rw [Int.toNat_natCast]; exact h3 _⟩
def ordv (d k d' k' : Int) : Int := if k < k' then -1 else if k > k' then 1 else if d < d' then -1 else if d > d' then 1 else 0
theorem cmp_f (a b : Int) : cmp_Compare_int.f a b = some (if a < b then -1 else if a > b then 1 else 0) := by
  unfold cmp_Compare_int.f cmp_isNaN_int.f
  simp only [Option.bind_some, bne_self_eq_false, Bool.false_eq_true, if_false]
  by_cases h : a < b
  · rw [if_pos h, if_pos h]
  · rw [if_neg h, if_neg h]
    by_cases h' : a > b
    · rw [if_pos h', if_pos h']
    · rw [if_neg h', if_neg h']
theorem or_f (k : Nat) (a b : Int) : cmp_Or_int.f (k + 3) [a, b] = some (if a = 0 then b else a) := by
  unfold cmp_Or_int.f
  have w1 : wrap64 (0 + 1) = 1 := by unfold wrap64; omega
  have w2 : wrap64 (1 + 1) = 2 := by unfold wrap64; omega
  have hl : (([a, b] : List Int).length : Int) = 2 := rfl
  have r0 : rd [a, b] 0 = a := rfl
  have r1 : rd [a, b] 1 = b := rfl
  rw [hl, cmp_Or_int.l0, if_pos (by decide), if_pos (by decide), hl, if_pos (by decide), r0, w1]
  by_cases ha : a = 0
  · rw [if_pos ha, if_pos ha]
    rw [cmp_Or_int.l0, if_pos (by decide), if_pos (by decide), hl, if_pos (by decide), r1, w2]
    by_cases hb : b = 0
    · rw [if_pos hb]
      rw [cmp_Or_int.l0, if_neg (by decide)]
      rw [hb]
    · rw [if_neg hb]
  · rw [if_neg ha, if_neg ha]
theorem ord_f (k : Nat) (hk : 3 ≤ k) (a0 a1 : Int) (a2 : Nat) (a3 : Int) (a4 : Nat) (a5 b0 b1 : Int) (b2 : Nat) (b3 : Int) (b4 : Nat) (b5 : Int) :
    table_order.f k a0 a1 a2 a3 a4 a5 b0 b1 b2 b3 b4 b5 = some (ordv a0 a1 b0 b1) := by
  obtain ⟨k, rfl⟩ : ∃ q, k = q + 3 := ⟨k - 3, by omega⟩
  unfold table_order.f ordv
  rw [cmp_f, cmp_f, Option.bind_some, Option.bind_some, or_f, Option.bind_some]
  congr 1
  by_cases h : a1 < b1
  · rw [if_pos h, if_pos h, if_neg (by decide)]
  · rw [if_neg h, if_neg h]
    by_cases h' : a1 > b1
    · rw [if_pos h', if_pos h', if_neg (by decide)]
    · rw [if_neg h', if_neg h', if_pos rfl]
def far (x : S39) : Bool := flt 9218868437227405311 x.f2
theorem inf_f (a : Nat) : math_IsInf.f a 1 = some (flt 9218868437227405311 a) := by
  unfold math_IsInf.f
  rw [if_neg (by decide), if_neg (by decide)]
def tup (y : S39) (s : Bool) : Int × Int × Nat × Int × Nat × Int × Bool := (y.f0, y.f1, y.f2, y.f3, y.f4, y.f5, s)
theorem rd39 {l : List S39} {n : Nat} (h : n < l.length) : rd_T39 l (n : Int) = l[n] := by
  unfold rd_T39
  rw [Int.toNat_natCast, List.getD_eq_getElem?_getD, List.getElem?_eq_getElem h, Option.getD_some]
def okE (x : S39) : Prop := 1 ≤ x.f1 ∧ x.f1 ≤ 3 ∧ 1 ≤ x.f0 ∧ x.f0 ≤ 2147483647
theorem may_ev {l : List S39} (hb : l.length ≤ 2932031007402) (ho : ∀ x ∈ l, okE x) (hp : l.Pairwise Asc) : Ev (fun k => table_may.f k l) true := by
  have loop : ∀ (d n : Nat), n + d = l.length → Ev (fun k => table_may.l0 k l l (l.length : Int) (n : Int)) true := by
    intro d
    induction d with
    | zero =>
      intro n hd
      refine Ev.up (G := fun _ => some true) (fun k => ?_) Ev.const
      rw [table_may.l0, if_neg (by omega)]
    | succ d ih =>
      intro n hd
      have hlt : n < l.length := by omega
      obtain ⟨o1, o2, o3, o4⟩ := ho _ (List.getElem_mem hlt)
      have hx := rd39 hlt
      have hn := ih (n + 1) (by omega)
      by_cases c : n = 0
      · refine Ev.up (fun k => ?_) hn
        rw [table_may.l0, if_pos (by omega), if_pos (by omega), if_pos (by omega), hx, if_neg (by omega), if_neg (by omega), ident_CheckId.f, if_neg (by omega), if_neg (by omega), Option.bind_some, if_pos rfl, if_neg (by omega), wrap_up n (by omega)]
      · obtain ⟨m, rfl⟩ : ∃ m, n = m + 1 := ⟨n - 1, by omega⟩
        have hm : m < l.length := by omega
        have ha := List.pairwise_iff_getElem.1 hp m (m + 1) hm hlt (by omega)
        have hy := rd39 hm
        have ho : ¬ ordv l[m].f0 l[m].f1 l[m + 1].f0 l[m + 1].f1 ≥ 0 := by
          unfold ordv
          rcases ha with h | ⟨h, h2⟩
          · rw [if_pos h]; decide
          · rw [if_neg (by omega), if_neg (by omega), if_pos h2]; decide
        refine Ev.up (fun k => by
          rw [table_may.l0, if_pos (by omega), if_pos (by omega), if_pos (by omega), hx, if_neg (by omega), if_neg (by omega), ident_CheckId.f, if_neg (by omega), if_neg (by omega), Option.bind_some, if_pos rfl, if_pos (by omega), wrap_dn m (by omega), if_pos (by omega), if_pos (by omega), hy, wrap_up (m + 1) (by omega)]) (Ev.bind ⟨3, fun k hk => ord_f k hk _ _ _ _ _ _ _ _ _ _ _ _⟩ (Ev.no ho hn))
  exact loop l.length 0 (by omega)
section
variable {d : Int} {e : S39} {l : List S39}
theorem find_end (hl : l.length ≤ 2932031007402) (b8 b9 : Bool) (p q : S39) : ∀ (r : List S39) (n : Nat), l.drop n = r → (∀ x ∈ r, x.f0 ≠ d) →
    Ev (fun k => table_Find.l0 k d b8 b9 l (l.length : Int) (n : Int) p.f0 p.f1 p.f2 p.f3 p.f4 p.f5 q.f0 q.f1 q.f2 q.f3 q.f4 q.f5) (if b8 = true then tup p true else tup q b9)
  | [], n, h, _ => by
    have := drop_nil h
    refine Ev.up (G := fun _ => some (if b8 = true then tup p true else tup q b9)) (fun k => ?_) Ev.const
    rw [table_Find.l0, if_neg (by omega)]
    cases b8 <;> rfl
  | x :: xs, n, h, hn => by
    obtain ⟨h1, h2, h3⟩ := at_drop h
    refine Ev.up (fun k => ?_) (find_end hl b8 b9 p q xs (n + 1) h2 fun y hy => hn y (List.mem_cons_of_mem _ hy))
    rw [table_Find.l0, if_pos h1, if_pos (by omega), if_pos h1, h3, if_neg (hn x (by simp)), wrap_up n (by omega)]
theorem find_one (hl : l.length ≤ 2932031007402) (p q : S39) (hd : e.f0 = d) : ∀ (r : List S39) (n : Nat), l.drop n = r → r.Pairwise Asc → (∀ x ∈ r, x.f0 = d → x = e) → e ∈ r →
    Ev (fun k => table_Find.l0 k d false false l (l.length : Int) (n : Int) p.f0 p.f1 p.f2 p.f3 p.f4 p.f5 q.f0 q.f1 q.f2 q.f3 q.f4 q.f5) (tup e true)
  | [], n, _, _, _, hm => by cases hm
  | x :: xs, n, h, hp, hu, hm => by
    obtain ⟨h1, h2, h3⟩ := at_drop h
    obtain ⟨p1, p2⟩ := List.pairwise_cons.1 hp
    by_cases c : x.f0 = d
    · obtain rfl := hu x (by simp) c
      have hn : ∀ y ∈ xs, y.f0 ≠ d := fun y hy e2 => by
        have := p1 y hy
        rw [hu y (List.mem_cons_of_mem _ hy) e2] at this
        unfold Asc at this
        omega
      cases cf : flt 9218868437227405311 x.f2 with
      | true =>
        refine Ev.up (fun k => ?_) (find_end hl false true p x xs (n + 1) h2 hn)
        rw [table_Find.l0, if_pos h1, if_pos (by omega), if_pos h1, h3, if_pos c, inf_f, cf, wrap_up n (by omega)]
        rfl
      | false =>
        refine Ev.up (fun k => ?_) (find_end hl true true x x xs (n + 1) h2 hn)
        rw [table_Find.l0, if_pos h1, if_pos (by omega), if_pos h1, h3, if_pos c, inf_f, cf, wrap_up n (by omega)]
        rfl
    · refine Ev.up (fun k => ?_) (find_one hl p q hd xs (n + 1) h2 p2 (fun y hy => hu y (List.mem_cons_of_mem _ hy)) ?_)
      · rw [table_Find.l0, if_pos h1, if_pos (by omega), if_pos h1, h3, if_neg c, wrap_up n (by omega)]
      · rcases List.mem_cons.1 hm with rfl | hm
        · exact absurd hd c
        · exact hm
end
def num (x : Int) : Bool := decide (1 ≤ x ∧ x ≤ 2147483647)
theorem idp_f (x : Int) : ident_CheckId.f x = some (if num x = true then 0 else 20) := by
  unfold ident_CheckId.f num
  by_cases h : x < 1
  · rw [if_pos h, decide_eq_false (by omega)]; rfl
  · rw [if_neg h]
    by_cases h' : x > 2147483647
    · rw [if_pos h', decide_eq_false (by omega)]; rfl
    · rw [if_neg h', decide_eq_true (by omega)]; rfl
theorem num_f (x : Int) : message_number.f x = some (num x) := by
  unfold message_number.f
  rw [idp_f]
  cases num x <;> rfl
def idxS (d : Int) : List S39 → Nat → Int
  | [], _ => -1
  | x :: xs, n => if x.f1 = 1 ∧ x.f0 = d then n else idxS d xs (n + 1)
theorem idx_f (l : List S39) (hl : l.length ≤ 2932031007402) (p0 p1 p2 p3 p4 p5 p6 p7 : Int) (p8 : ByteArray) (p9 p10 : Int) (p11 : ByteArray) : ∀ (rest : List S39) (n k : Nat), l.drop n = rest → rest.length + 1 ≤ k →
    api_Entry.l0 k l (l.length : Int) n p0 p1 p2 p3 p4 p5 p6 p7 p8 p9 p10 p11 = some (idxS p4 rest n)
  | [], n, k, h, hk => by
    obtain ⟨k, rfl⟩ : ∃ q, k = q + 1 := ⟨k - 1, by omega⟩
    have := drop_nil h
    rw [api_Entry.l0, if_neg (by omega)]
    rfl
  | x :: xs, n, k, h, hk => by
    obtain ⟨k, rfl⟩ : ∃ q, k = q + 1 := ⟨k - 1, by omega⟩
    obtain ⟨h1, h2, h3⟩ := at_drop h
    simp only [List.length_cons] at hk
    rw [api_Entry.l0, if_pos h1, if_pos (by omega), if_pos h1, h3, wrap_up n (by omega), idx_f l hl p0 p1 p2 p3 p4 p5 p6 p7 p8 p9 p10 p11 xs (n + 1) k h2 (by omega)]
    show _ = some (if _ then _ else _)
    unfold forward_road_1.f
    by_cases c1 : x.f1 = 1
    · by_cases c2 : x.f0 = p4 <;> simp [c1, c2]
    · simp [c1]
end Go.Proofs.Ytgmjlhpigfaicaa.Pure
/- What Find and the home's look-up tell of a table in which a number stands at most once. -/
namespace Go.Proofs.Ytgmjlhpigfaicaa.Pure
open Go.RowKit Go.Proofs.YtgmjlhpigfaicaaW.PrintWords Go.Proofs.Ytgmjlhpigfaicaa.XR
set_option linter.unusedSimpArgs false
set_option linter.unusedVariables false
section
variable {d : Int} {e : S39}
theorem idxS_one (l : List S39) : ∀ (r : List S39) (n : Nat), l.drop n = r → (∀ x ∈ r, x.f1 = 1 → x.f0 = d → x = e) → e ∈ r → e.f0 = d → e.f1 = 1 → ∃ j : Nat, idxS d r n = j ∧ (j : Int) < l.length ∧ rd_T39 l (j : Int) = e
  | [], n, _, _, hm, _, _ => by cases hm
  | x :: xs, n, hr, h, hm, hd, hk => by
    obtain ⟨h1, h2, h3⟩ := at_drop hr
    unfold idxS
    by_cases c : x.f1 = 1 ∧ x.f0 = d
    · rw [if_pos c]
      exact ⟨n, rfl, h1, h3.trans (h x (by simp) c.1 c.2)⟩
    · rw [if_neg c]
      refine idxS_one l xs (n + 1) h2 (fun y hy => h y (List.mem_cons_of_mem _ hy)) ?_ hd hk
      rcases List.mem_cons.1 hm with rfl | hm
      · exact absurd ⟨hk, hd⟩ c
      · exact hm
theorem idxS_none : ∀ (r : List S39) (n : Nat), (∀ x ∈ r, ¬ (x.f1 = 1 ∧ x.f0 = d)) → idxS d r n = -1
  | [], n, _ => rfl
  | x :: xs, n, h => by
    unfold idxS
    rw [if_neg (h x (by simp))]
    exact idxS_none xs (n + 1) fun y hy => h y (List.mem_cons_of_mem _ hy)
end
def rank (D : List Nat) (x : Nat) : Nat := D.countP fun y => decide (y < x)
theorem rank_le (D : List Nat) (x : Nat) : rank D x ≤ D.length := List.countP_le_length
theorem rank_mono {a b : Nat} (h : a ≤ b) (D : List Nat) : rank D a ≤ rank D b := List.countP_mono_left fun x _ hx => by
  simp only [decide_eq_true_eq] at *; omega
theorem rank_lt : ∀ (D : List Nat) (v : Nat), v < D.length → ∀ {b : Nat}, ga D v < b → rank D (ga D v) < rank D b
  | [], v, h, _, _ => by simp at h
  | x :: xs, 0, _, b, h => by
    have h : x < b := h
    have e : ga (x :: xs) 0 = x := rfl
    have := rank_mono (Nat.le_of_lt h) xs
    unfold rank at *
    rw [List.countP_cons, List.countP_cons, e, decide_eq_false (Nat.lt_irrefl x), decide_eq_true h]
    simp; omega
  | x :: xs, v + 1, hv, b, h => by
    have e : ga (x :: xs) (v + 1) = ga xs v := rfl
    rw [e] at h ⊢
    have := rank_lt xs v (by simpa using hv) h
    unfold rank at *
    rw [List.countP_cons, List.countP_cons]
    by_cases c : x < ga xs v
    · rw [decide_eq_true c, decide_eq_true (show x < b by omega)]; simp; omega
    · rw [decide_eq_false c]
      simp only [Bool.false_eq_true, if_false]
      omega
end Go.Proofs.Ytgmjlhpigfaicaa.Pure
/- All that is told of a graph: distances, homes, tables, and the routers that are up. -/
namespace Go.Proofs.Ytgmjlhpigfaicaa.Pure
open Go.RowKit Go.Proofs.YtgmjlhpigfaicaaW.PrintWords Go.Proofs.Ytgmjlhpigfaicaa.XR
set_option linter.unusedSimpArgs false
set_option linter.unusedVariables false
def ups (ns : List S108) : Nat → Nat → List Nat
  | _, 0 => []
  | i, d + 1 => if (rd_T108 ns (i : Int)).f1 = true then i :: ups ns (i + 1) d else ups ns (i + 1) d
section
variable {ns : List S108} {ls : List S117} {max : Nat}
theorem ups_yes {i d : Nat} (h : (rd_T108 ns (i : Int)).f1 = true) : ups ns i (d + 1) = i :: ups ns (i + 1) d := if_pos h
theorem ups_no {i d : Nat} (h : (rd_T108 ns (i : Int)).f1 = false) : ups ns i (d + 1) = ups ns (i + 1) d := if_neg (by rw [h]; decide)
theorem ups_len : ∀ (d i : Nat), (ups ns i d).length ≤ d := by
  intro d
  induction d with
  | zero => intro i; simp [ups]
  | succ d ih =>
    intro i
    have := ih (i + 1)
    unfold ups
    split
    · rw [List.length_cons]; omega
    · omega
theorem mem_ups {x : Nat} : ∀ (d i : Nat), x ∈ ups ns i d ↔ i ≤ x ∧ x < i + d ∧ (rd_T108 ns (x : Int)).f1 = true := by
  intro d
  induction d with
  | zero => intro i; simp [ups]; omega
  | succ d ih =>
    intro i
    cases h : (rd_T108 ns (i : Int)).f1 with
    | true =>
      rw [ups_yes h, List.mem_cons, ih]
      constructor
      · rintro (rfl | ⟨h1, h2, h3⟩)
        · exact ⟨Nat.le_refl _, by omega, h⟩
        · exact ⟨by omega, by omega, h3⟩
      · rintro ⟨h1, h2, h3⟩
        rcases Nat.eq_or_lt_of_le h1 with e | e
        · exact .inl e.symm
        · exact .inr ⟨e, by omega, h3⟩
    | false =>
      rw [ups_no h, ih]
      constructor
      · rintro ⟨h1, h2, h3⟩; exact ⟨by omega, by omega, h3⟩
      · rintro ⟨h1, h2, h3⟩
        rcases Nat.eq_or_lt_of_le h1 with e | e
        · subst e; rw [h] at h3; cases h3
        · exact ⟨e, by omega, h3⟩
theorem ups_lt : ∀ (d i : Nat), (ups ns i d).Pairwise (· < ·) := by
  intro d
  induction d with
  | zero => intro i; simp [ups]
  | succ d ih =>
    intro i
    cases h : (rd_T108 ns (i : Int)).f1 with
    | true =>
      rw [ups_yes h]
      exact List.pairwise_cons.2 ⟨fun x hx => ((mem_ups _ _).1 hx).1, ih _⟩
    | false =>
      rw [ups_no h]
      exact ih _
/-- All that is told. -/
structure Wd (ns : List S108) (ls : List S117) (max : Nat) (D : Nat → List Nat) (H : Nat → Int × Nat) (E : Nat → Nat → En) : Prop where
  ok : Ok ns ls
  hC : Ev (fun k => beaconref07_Check.f k ns ls) 0
  hL : beaconref01_Limit.f max = some 0
  hm : IsQ 4742290407621132288 max
  hD : ∀ i, ∀ hi : i < ns.length, Ev (fun k => beaconref08_Dists.f k ns ls max ns[i].f0) (D i, 0) ∧ Ds ns ls max i (D i)
  hH : ∀ i, ∀ hi : i < ns.length, Ev (fun k => beaconref09_home.f k ns ls ns[i].f0 (D i)) (ns[i].f0, (H i).1, (H i).2) ∧ HoP ns (D i) ns.length (H i).1 (H i).2
  hE : ∀ u w, ∀ hu : u < ns.length, ∀ hw : w < ns.length, Ev (fun k => beaconref09_entry.f k ns ls ns[u].f0 ns[w].f0 (D w)) (E u w) ∧ Ent ns ls (D w) u w (E u w) ∧ (Knows ns (D w) u w (H w).1 (H w).2 → (E u w).2.1 ≠ 0) ∧
    ((E u w).2.1 ≠ 0 → ga (D w) u ≠ 9218868437227405312 → Knows ns (D w) u w (H w).1 (H w).2) ∧ ((E u w).2.1 = 1 ↔ (E u w).2.1 ≠ 0 ∧ mkB ns w = true) ∧ (ga (D w) u = 9218868437227405312 → (E u w).2.1 ≠ 0 → (E u w).2.1 = 1)
theorem HoP.le {D : List Nat} {n : Nat} {h : Int} {r : Nat} (p : HoP ns D n h r) : r ≤ 9218868437227405312 := by
  rcases p with ⟨_, h, _⟩ | ⟨_, _, _, _, _, h, _⟩ <;> omega
theorem wd_ex (ok : Ok ns ls) (hC : Ev (fun k => beaconref07_Check.f k ns ls) 0) (hL : beaconref01_Limit.f max = some 0) (hm : IsQ 4742290407621132288 max) : ∃ D H E, Wd ns ls max D H E := by
  have pick : ∀ {β : Type} [Inhabited β] (P : ∀ i : Nat, i < ns.length → β → Prop), (∀ i hi, ∃ b, P i hi b) → ∃ f : Nat → β, ∀ i hi, P i hi (f i) := by
    intro β _ P h
    refine ⟨fun i => if hi : i < ns.length then Classical.choose (h i hi) else default, fun i hi => ?_⟩
    simp only [dif_pos hi]
    exact Classical.choose_spec (h i hi)
  obtain ⟨D, hD⟩ := pick (fun i hi D => Ev (fun k => beaconref08_Dists.f k ns ls max ns[i].f0) (D, 0) ∧ Ds ns ls max i D) fun i hi => Dists_ev ok hC hL hm hi
  obtain ⟨H, hH⟩ := pick (fun i hi (H : Int × Nat) => Ev (fun k => beaconref09_home.f k ns ls ns[i].f0 (D i)) (ns[i].f0, H.1, H.2) ∧ HoP ns (D i) ns.length H.1 H.2) fun i hi => by
    obtain ⟨a, b, h⟩ := home_ev ok (hD i hi).2 ns[i].f0
    exact ⟨(a, b), h⟩
  obtain ⟨E, hE⟩ := pick (fun u hu (E : Nat → En) => ∀ w, ∀ hw : w < ns.length, Ev (fun k => beaconref09_entry.f k ns ls ns[u].f0 ns[w].f0 (D w)) (E w) ∧ Ent ns ls (D w) u w (E w) ∧ (Knows ns (D w) u w (H w).1 (H w).2 → (E w).2.1 ≠ 0) ∧
    ((E w).2.1 ≠ 0 → ga (D w) u ≠ 9218868437227405312 → Knows ns (D w) u w (H w).1 (H w).2) ∧ ((E w).2.1 = 1 ↔ (E w).2.1 ≠ 0 ∧ mkB ns w = true) ∧ (ga (D w) u = 9218868437227405312 → (E w).2.1 ≠ 0 → (E w).2.1 = 1)) fun u hu => by
    obtain ⟨f, hf⟩ := pick (fun w hw (e : En) => Ev (fun k => beaconref09_entry.f k ns ls ns[u].f0 ns[w].f0 (D w)) e ∧ Ent ns ls (D w) u w e ∧ (Knows ns (D w) u w (H w).1 (H w).2 → e.2.1 ≠ 0) ∧
      (e.2.1 ≠ 0 → ga (D w) u ≠ 9218868437227405312 → Knows ns (D w) u w (H w).1 (H w).2) ∧ (e.2.1 = 1 ↔ e.2.1 ≠ 0 ∧ mkB ns w = true) ∧ (ga (D w) u = 9218868437227405312 → e.2.1 ≠ 0 → e.2.1 = 1)) fun w hw => entry_ev ok hC hm hu hw (hD w hw).2 (hH w hw).1 (hH w hw).2.le
    exact ⟨f, hf⟩
  exact ⟨D, H, E, ok, hC, hL, hm, hD, hH, fun u w hu hw => hE u hu w hw⟩
end
section
variable {ns : List S108} {ls : List S117} {max : Nat} {D : Nat → List Nat} {H : Nat → Int × Nat} {E : Nat → Nat → En}
theorem Wd.asked (h : Wd ns ls max D H E) : Ev (fun k => beaconref09_asked.f k ns ls max) 0 := by
  unfold beaconref09_asked.f
  exact h.hC.bind (Ev.yes rfl (Ev.all fun k => by rw [h.hL]; rfl))
def hoS (ns : List S108) (H : Nat → Int × Nat) (i : Nat) : S80 := ⟨(rd_T108 ns (i : Int)).f0, (H i).1, (H i).2⟩
def homesL (ns : List S108) (H : Nat → Int × Nat) : List S80 := (ups ns 0 ns.length).map (hoS ns H)
def tabsL (ns : List S108) (E : Nat → Nat → En) : List (List S39) := (ups ns 0 ns.length).map fun i => tab ns i (E i)
def idsL (ns : List S108) : List Int := (ups ns 0 ns.length).map fun i : Nat => (rd_T108 ns (i : Int)).f0
theorem Wd.homes (h : Wd ns ls max D H E) : Ev (fun k => beaconref09_Homes.f k ns ls max) (homesL ns H, 0) := by
  have okn := h.ok.n
  have loop : ∀ (d i : Nat) (acc : List S80), ns.length - i = d → acc.length ≤ i → Ev (fun k => beaconref09_Homes.l0 k max acc (i : Int) ns ls) (acc ++ (ups ns i d).map (hoS ns H), 0) := by
    intro d
    induction d with
    | zero =>
      intro i acc hd ha
      refine Ev.up (G := fun _ => some (acc ++ [], 0)) (fun k => ?_) Ev.const
      simp only [beaconref09_Homes.l0]
      rw [if_neg (by omega), List.append_nil]
    | succ d ih =>
      intro i acc hd ha
      have hlt : i < ns.length := by omega
      cases hup : (rd_T108 ns (i : Int)).f1 with
      | false =>
        rw [ups_no hup]
        refine Ev.up (fun k => ?_) (ih (i + 1) acc (by omega) (by omega))
        simp only [beaconref09_Homes.l0]
        rw [if_pos (by omega), if_pos (by omega), if_neg (by rw [hup]; decide), wrap_up i (by omega)]
      | true =>
        have h1 := ih (i + 1) (acc ++ [hoS ns H i]) (by omega) (by rw [List.length_append]; simp; omega)
        have eh : hoS ns H i = ⟨ns[i].f0, (H i).1, (H i).2⟩ := by unfold hoS; rw [rd108 hlt]
        have ha' : acc.length < 5864062014805 := by omega
        rw [List.append_assoc, eh] at h1
        rw [ups_yes hup, List.map_cons, eh]
        refine Ev.up (fun k => by
          simp only [beaconref09_Homes.l0]
          rw [if_pos (by omega), if_pos (by omega), if_pos hup, rd108 hlt, wrap_up i (by omega)]) ((h.hD i hlt).1.bind ((h.hH i hlt).1.bind (Ev.yes ha' h1)))
  unfold beaconref09_Homes.f
  exact h.asked.bind (Ev.yes rfl (loop _ 0 [] rfl (by simp)))
def allL (ns : List S108) (D : Nat → List Nat) : List (List Nat) := (List.range ns.length).map D
theorem all_len : (allL ns D).length = ns.length := by unfold allL; rw [List.length_map, List.length_range]
theorem rd_all {w : Nat} (hw : w < ns.length) : rd_L12 (allL ns D) (w : Int) = D w := by
  unfold rd_L12 allL
  rw [Int.toNat_natCast, List.getD_eq_getElem?_getD, List.getElem?_map, List.getElem?_range hw]
  rfl
theorem Wd.dists (h : Wd ns ls max D H E) : Ev (fun k => beaconref09_dists.f k ns ls max) (allL ns D) := by
  have okn := h.ok.n
  have loop : ∀ (d i : Nat), i + d = ns.length → Ev (fun k => beaconref09_dists.l0 k max ((List.range i).map D) (i : Int) ns ls) (allL ns D) := by
    intro d
    induction d with
    | zero =>
      intro i hd
      obtain rfl : i = ns.length := by omega
      refine Ev.up (G := fun _ => some (allL ns D)) (fun k => ?_) Ev.const
      simp only [beaconref09_dists.l0]
      rw [if_neg (by omega)]
      rfl
    | succ d ih =>
      intro i hd
      have hlt : i < ns.length := by omega
      have h1 := ih (i + 1) (by omega)
      rw [List.range_succ, List.map_append] at h1
      have ha' : ((List.range i).map D).length < 5864062014805 := by rw [List.length_map, List.length_range]; omega
      refine Ev.up (fun k => by
        simp only [beaconref09_dists.l0]
        rw [if_pos (by omega), if_pos (by omega), rd108 hlt, wrap_up i (by omega)]) ((h.hD i hlt).1.bind (Ev.yes ha' h1))
  unfold beaconref09_dists.f
  exact (loop ns.length 0 (by omega))
theorem Wd.tables (h : Wd ns ls max D H E) : Ev (fun k => beaconref09_Tables.f k ns ls max) (tabsL ns E, 0) := by
  have okn := h.ok.n
  have tb : ∀ i, ∀ hi : i < ns.length, Ev (fun k => beaconref09_table.f k ns ls ns[i].f0 (allL ns D)) (tab ns i (E i)) := fun i hi => table_ev h.ok hi all_len fun w hw _ _ => by
    rw [rd_all hw]
    exact (h.hE i w hi hw).1
  have loop : ∀ (d i : Nat) (acc : List (List S39)), ns.length - i = d → acc.length ≤ i → Ev (fun k => beaconref09_Tables.l0 k (allL ns D) acc (i : Int) ns ls) (acc ++ (ups ns i d).map (fun i => tab ns i (E i)), 0) := by
    intro d
    induction d with
    | zero =>
      intro i acc hd ha
      refine Ev.up (G := fun _ => some (acc ++ [], 0)) (fun k => ?_) Ev.const
      simp only [beaconref09_Tables.l0]
      rw [if_neg (by omega), List.append_nil]
    | succ d ih =>
      intro i acc hd ha
      have hlt : i < ns.length := by omega
      cases hup : (rd_T108 ns (i : Int)).f1 with
      | false =>
        rw [ups_no hup]
        refine Ev.up (fun k => ?_) (ih (i + 1) acc (by omega) (by omega))
        simp only [beaconref09_Tables.l0]
        rw [if_pos (by omega), if_pos (by omega), if_neg (by rw [hup]; decide), wrap_up i (by omega)]
      | true =>
        have h1 := ih (i + 1) (acc ++ [tab ns i (E i)]) (by omega) (by rw [List.length_append]; simp; omega)
        have ha' : acc.length < 5864062014805 := by omega
        rw [List.append_assoc] at h1
        rw [ups_yes hup, List.map_cons]
        refine Ev.up (fun k => by
          simp only [beaconref09_Tables.l0]
          rw [if_pos (by omega), if_pos (by omega), if_pos hup, rd108 hlt, wrap_up i (by omega)]) ((tb i hlt).bind (Ev.yes ha' h1))
  unfold beaconref09_Tables.f
  exact h.asked.bind (Ev.yes rfl (h.dists.bind (loop _ 0 [] rfl (by simp))))
theorem Wd.of (h : Wd ns ls max D H E) : Ev (fun k => beaconref10_of.f k ns ls max) (idsL ns, tabsL ns E, homesL ns H) := by
  have okn := h.ok.n
  have loop : ∀ (d i : Nat) (acc : List Int), ns.length - i = d → acc.length ≤ i → Ev (fun k => beaconref10_of.l0 k (i : Int) ns ls acc (tabsL ns E) (homesL ns H)) (acc ++ (ups ns i d).map (fun i : Nat => (rd_T108 ns (i : Int)).f0), tabsL ns E, homesL ns H) := by
    intro d
    induction d with
    | zero =>
      intro i acc hd ha
      refine Ev.up (G := fun _ => some (acc ++ [], tabsL ns E, homesL ns H)) (fun k => ?_) Ev.const
      simp only [beaconref10_of.l0]
      rw [if_neg (by omega), List.append_nil]
    | succ d ih =>
      intro i acc hd ha
      have hlt : i < ns.length := by omega
      cases hup : (rd_T108 ns (i : Int)).f1 with
      | false =>
        rw [ups_no hup]
        refine Ev.up (fun k => ?_) (ih (i + 1) acc (by omega) (by omega))
        simp only [beaconref10_of.l0]
        rw [if_pos (by omega), if_pos (by omega), if_neg (by rw [hup]; decide), wrap_up i (by omega)]
      | true =>
        have h1 := ih (i + 1) (acc ++ [(rd_T108 ns (i : Int)).f0]) (by omega) (by rw [List.length_append]; simp; omega)
        have ha' : acc.length < 17592186044416 := by omega
        rw [List.append_assoc] at h1
        rw [ups_yes hup, List.map_cons]
        refine Ev.up (fun k => by
          simp only [beaconref10_of.l0]
          rw [if_pos (by omega), if_pos (by omega), if_pos hup, wrap_up i (by omega)]) (Ev.yes ha' h1)
  unfold beaconref10_of.f
  exact h.homes.bind (h.tables.bind (loop _ 0 [] rfl (by simp)))
end
end Go.Proofs.Ytgmjlhpigfaicaa.Pure
/- A router's table: what stands in it, and where it leads. -/
namespace Go.Proofs.Ytgmjlhpigfaicaa.Pure
open Go.RowKit Go.Proofs.YtgmjlhpigfaicaaW.PrintWords Go.Proofs.Ytgmjlhpigfaicaa.XR
set_option linter.unusedSimpArgs false
set_option linter.unusedVariables false
def Hit (w : Int) (mark : Bool) (x : S39) : Prop := x.f0 = w ∧ (mark = true → x.f1 = 1) ∧ far x = false
section
variable {a w : Int} {mark : Bool} {T : List S39} {ids : List Int} {tabs : List (List S39)} {homes : List S80}
theorem hop_l1 (hT : T.length ≤ 4611686018427387904) {i : Nat} (hi : i ≤ 4611686018427387904) : ∀ (R : List S39) (j : Nat), T.drop j = R →
    (∀ e, e ∈ R → Hit w mark e → (∀ x ∈ R, Hit w mark x → x = e) → Ev (fun k => beaconref10_hop.l1 k a w mark (i : Int) T (j : Int) ids tabs homes) e.f3) ∧
    ((∀ x ∈ R, ¬ Hit w mark x) → ∀ z, Ev (fun k => beaconref10_hop.l0 k a w mark ((i + 1 : Nat) : Int) ids tabs homes) z → Ev (fun k => beaconref10_hop.l1 k a w mark (i : Int) T (j : Int) ids tabs homes) z) := by
  intro R
  induction R with
  | nil =>
    intro j hd
    have := drop_nil hd
    refine ⟨fun e he => (by cases he), fun _ z hz => Ev.up (fun k => ?_) hz⟩
    simp only [beaconref10_hop.l1]
    rw [if_neg (by omega), wrap_up i hi]
  | cons x R ih =>
    intro j hd
    obtain ⟨h1, h2, h3⟩ := at_drop hd
    obtain ⟨ih1, ih2⟩ := ih (j + 1) h2
    have pass : ¬ Hit w mark x → ∀ {z}, Ev (fun k => beaconref10_hop.l1 k a w mark (i : Int) T ((j + 1 : Nat) : Int) ids tabs homes) z → Ev (fun k => beaconref10_hop.l1 k a w mark (i : Int) T (j : Int) ids tabs homes) z := by
      intro hn z hz
      refine Ev.up (fun k => ?_) hz
      simp only [beaconref10_hop.l1]
      rw [if_pos h1, if_pos (by omega), h3, wrap_up j (by omega), inf_f]
      by_cases c1 : x.f0 = w
      · rw [if_pos c1]
        by_cases c3 : far x = true
        · have c3' : flt 9218868437227405311 x.f2 = true := c3
          simp only [c3', Option.bind_some, if_true]
          split
          · split <;> rfl
          · rfl
        · have c3 : far x = false := Bool.eq_false_iff.2 c3
          by_cases c2 : mark = true
          · rw [if_pos c2]
            by_cases c4 : x.f1 = 1
            · exact absurd ⟨c1, fun _ => c4, c3⟩ hn
            · rw [if_neg c4]
          · exact absurd ⟨c1, fun h => absurd h c2, c3⟩ hn
      · rw [if_neg c1]
    refine ⟨fun e he hh hu => ?_, fun hn z hz => pass (hn x (by simp)) (ih2 (fun y hy => hn y (List.mem_cons_of_mem _ hy)) z hz)⟩
    by_cases c : Hit w mark x
    · obtain rfl := hu x (by simp) c
      obtain ⟨c1, c2, c3⟩ := c
      have c3' : flt 9218868437227405311 x.f2 = false := c3
      refine Ev.up (G := fun _ => some x.f3) (fun k => ?_) Ev.const
      simp only [beaconref10_hop.l1]
      rw [if_pos h1, if_pos (by omega), h3, if_pos c1, inf_f, c3']
      simp only [Option.bind_some, Bool.false_eq_true, if_false]
      split
      · rw [if_pos (c2 (by assumption))]
      · rfl
    · refine pass c (ih1 e ?_ hh fun y hy => hu y (List.mem_cons_of_mem _ hy))
      rcases List.mem_cons.1 he with rfl | he
      · exact absurd hh c
      · exact he
theorem rd_n {l : List Int} {n : Nat} (h : n < l.length) : rd l (n : Int) = l[n] := by
  unfold rd
  rw [Int.toNat_natCast, List.getD_eq_getElem?_getD, List.getElem?_eq_getElem h, Option.getD_some]
theorem rdL6 {l : List (List S39)} {n : Nat} (h : n < l.length) : rd_L6 l (n : Int) = l[n] := by
  unfold rd_L6
  rw [Int.toNat_natCast, List.getD_eq_getElem?_getD, List.getElem?_eq_getElem h, Option.getD_some]
theorem hop_l0 (hl : ids.length ≤ 4611686018427387904) (ht : tabs.length = ids.length) (nd : ids.Nodup) {p : Nat} (hp : p < ids.length) (ha : ids[p] = a) (hT : ∀ h : p < tabs.length, tabs[p] = T) (hTl : T.length ≤ 4611686018427387904) :
    (∀ e, e ∈ T → Hit w mark e → (∀ x ∈ T, Hit w mark x → x = e) → Ev (fun k => beaconref10_hop.f k ids tabs homes a w mark) e.f3) ∧
    ((∀ x ∈ T, ¬ Hit w mark x) → Ev (fun k => beaconref10_hop.f k ids tabs homes a w mark) 0) := by
  have inj : ∀ i, ∀ hi : i < ids.length, ids[i] = a → i = p := by
    intro i hi e
    have hq := List.pairwise_iff_getElem.1 nd
    rcases Nat.lt_trichotomy i p with h | h | h
    · exact absurd (e.trans ha.symm) (hq i p hi hp h)
    · exact h
    · exact absurd (ha.trans e.symm) (hq p i hp hi h)
  have behind : ∀ (d i : Nat), ids.length - i = d → p < i → Ev (fun k => beaconref10_hop.l0 k a w mark (i : Int) ids tabs homes) 0 := by
    intro d
    induction d with
    | zero =>
      intro i hd hi
      refine Ev.up (G := fun _ => some 0) (fun k => ?_) Ev.const
      simp only [beaconref10_hop.l0]
      rw [if_neg (by omega)]
    | succ d ih =>
      intro i hd hi
      have hlt : i < ids.length := by omega
      refine Ev.up (fun k => ?_) (ih (i + 1) (by omega) (by omega))
      simp only [beaconref10_hop.l0]
      rw [if_pos (by omega), if_pos (by omega), rd_n hlt, if_neg (fun e => by have := inj i hlt e; omega), wrap_up i (by omega)]
  have ahead : ∀ (d i : Nat) {z : Int}, p - i = d → i ≤ p → Ev (fun k => beaconref10_hop.l1 k a w mark (p : Int) T ((0 : Nat) : Int) ids tabs homes) z → Ev (fun k => beaconref10_hop.l0 k a w mark (i : Int) ids tabs homes) z := by
    intro d
    induction d with
    | zero =>
      intro i z hd hi hz
      obtain rfl : i = p := by omega
      refine Ev.up (fun k => ?_) hz
      simp only [beaconref10_hop.l0]
      rw [if_pos (by omega), if_pos (by omega), rd_n hp, if_pos ha, if_pos (by omega), rdL6 (by omega), hT (by omega)]
      rfl
    | succ d ih =>
      intro i z hd hi hz
      have hlt : i < ids.length := by omega
      refine Ev.up (fun k => ?_) (ih (i + 1) (by omega) (by omega) hz)
      simp only [beaconref10_hop.l0]
      rw [if_pos (by omega), if_pos (by omega), rd_n hlt, if_neg (fun e => by have := inj i hlt e; omega), wrap_up i (by omega)]
  obtain ⟨h1, h2⟩ := hop_l1 (a := a) (w := w) (mark := mark) (ids := ids) (tabs := tabs) (homes := homes) hTl (i := p) (by omega) T 0 rfl
  unfold beaconref10_hop.f
  exact ⟨fun e he hh hu => ahead _ 0 rfl (Nat.zero_le _) (h1 e he hh hu), fun hn => ahead _ 0 rfl (Nat.zero_le _) (h2 hn 0 (behind _ (p + 1) rfl (by omega)))⟩
end
section
variable {ns : List S108} {ls : List S117} {max : Nat} {D : Nat → List Nat} {H : Nat → Int × Nat} {E : Nat → Nat → En} {u w : Nat}
/-- What stands in a table. -/
theorem Wd.mem_tab (h : Wd ns ls max D H E) (hu : u < ns.length) {x : S39} : x ∈ tab ns u (E u) ↔ ∃ w, w < ns.length ∧ w ≠ u ∧ (rd_T108 ns (w : Int)).f1 = true ∧ (E u w).2.1 ≠ 0 ∧ x = mkE (E u w) := by
  unfold tab
  rw [List.mem_append, List.mem_append, tb_mem, tb_mem, tb_mem]
  constructor
  · rintro (⟨w, h1, h2, h3, h4, h5, h6⟩ | ⟨w, h1, h2, h3, h4, h5, h6⟩ | ⟨w, h1, h2, h3, h4, h5, h6⟩) <;> exact ⟨w, by omega, h3, h4, by omega, h6⟩
  · rintro ⟨w, h1, h3, h4, h5, h6⟩
    rcases (h.hE u w hu h1).2.1 with e | ⟨_, _, e1, e2, _⟩
    · rw [e] at h5; exact absurd rfl h5
    · rcases (show (E u w).2.1 = 1 ∨ (E u w).2.1 = 2 ∨ (E u w).2.1 = 3 by omega) with e | e | e
      · exact .inl ⟨w, by omega, by omega, h3, h4, e, h6⟩
      · exact .inr (.inl ⟨w, by omega, by omega, h3, h4, e, h6⟩)
      · exact .inr (.inr ⟨w, by omega, by omega, h3, h4, e, h6⟩)
theorem Wd.ent (h : Wd ns ls max D H E) (hu : u < ns.length) (hw : w < ns.length) (hk : (E u w).2.1 ≠ 0) : (E u w).1 = (rd_T108 ns (w : Int)).f0 ∧ (E u w).2.2.1 = ga (D w) u ∧ 1 ≤ (E u w).2.1 ∧ (E u w).2.1 ≤ 3 ∧
    (ga (D w) u ≠ 9218868437227405312 → Ev (fun k => beaconref09_next.f k ns ls (rd_T108 ns (u : Int)).f0 (D w)) (E u w).2.2.2.1) := by
  rcases (h.hE u w hu hw).2.1 with e | e
  · rw [e] at hk; exact absurd rfl hk
  · exact e
theorem Wd.tab_uniq (h : Wd ns ls max D H E) (hu : u < ns.length) (hw : w < ns.length) {x : S39} (hx : x ∈ tab ns u (E u)) (hd : x.f0 = ns[w].f0) : w ≠ u ∧ (E u w).2.1 ≠ 0 ∧ x = mkE (E u w) := by
  obtain ⟨v, h1, h2, h3, h4, rfl⟩ := (h.mem_tab hu).1 hx
  have e := (h.ent hu h1 h4).1
  have e2 : (E u v).1 = ns[w].f0 := hd
  rw [rd108 h1] at e
  obtain rfl : v = w := rise_inj h.ok.up h1 hw (by rw [← e, e2])
  exact ⟨h2, h4, rfl⟩
theorem tab_len : (tab ns u (E u)).length ≤ 3 * ns.length := by
  have l1 := tb_len (ns := ns) (u := u) (E := E u) 1 ns.length 0
  have l2 := tb_len (ns := ns) (u := u) (E := E u) 2 ns.length 0
  have l3 := tb_len (ns := ns) (u := u) (E := E u) 3 ns.length 0
  unfold tab
  rw [List.length_append, List.length_append]
  omega
theorem Wd.asc (h : Wd ns ls max D H E) (hu : u < ns.length) : (tab ns u (E u)).Pairwise Asc := tab_asc h.ok fun w hw hk => (h.ent hu hw hk).1
theorem Wd.okE (h : Wd ns ls max D H E) (hu : u < ns.length) : ∀ x ∈ tab ns u (E u), okE x := by
  intro x hx
  obtain ⟨w, h1, h2, h3, h4, rfl⟩ := (h.mem_tab hu).1 hx
  obtain ⟨e1, _, e3, e4, _⟩ := h.ent hu h1 h4
  have hid := h.ok.id ns[w] (List.getElem_mem h1)
  rw [rd108 h1] at e1
  exact ⟨e3, e4, by show 1 ≤ (E u w).1; omega, by show (E u w).1 ≤ _; omega⟩
theorem far_e {x : S39} (hx : x.f2 ≤ 9218868437227405312) : far x = decide (x.f2 = 9218868437227405312) := by
  unfold far
  rw [flt_pos (by decide) hx]
  exact decide_eq_decide.2 (by omega)
theorem Wd.dle (h : Wd ns ls max D H E) (hu : u < ns.length) (hw : w < ns.length) : ga (D w) u ≤ 9218868437227405312 := di_le ((h.hD w hw).2.di hu)
end
end Go.Proofs.Ytgmjlhpigfaicaa.Pure
/- Where a packet goes at a router: the document's hop and the program's decide. -/
namespace Go.Proofs.Ytgmjlhpigfaicaa.Pure
open Go.RowKit Go.Proofs.YtgmjlhpigfaicaaW.PrintWords Go.Proofs.Ytgmjlhpigfaicaa.XR
set_option linter.unusedSimpArgs false
set_option linter.unusedVariables false
/-- u is the router that stands at p among those that are up. -/
def At (ns : List S108) (p u : Nat) : Prop := ∃ h : p < (ups ns 0 ns.length).length, (ups ns 0 ns.length)[p] = u
section
variable {ns : List S108} {ls : List S117} {max : Nat} {D : Nat → List Nat} {H : Nat → Int × Nat} {E : Nat → Nat → En} {p u w : Nat}
theorem At.up (h : At ns p u) : u < ns.length ∧ (rd_T108 ns (u : Int)).f1 = true := by
  obtain ⟨hp, rfl⟩ := h
  have := (mem_ups _ _).1 (List.getElem_mem hp)
  exact ⟨by omega, this.2.2⟩
theorem at_ex (hu : u < ns.length) (h : (rd_T108 ns (u : Int)).f1 = true) : ∃ p, At ns p u := by
  obtain ⟨p, hp, e⟩ := List.getElem_of_mem ((mem_ups (ns := ns) (x := u) ns.length 0).2 ⟨Nat.zero_le _, by omega, h⟩)
  exact ⟨p, hp, e⟩
theorem ids_len : (idsL ns).length = (ups ns 0 ns.length).length := by unfold idsL; rw [List.length_map]
theorem At.id (h : At ns p u) : ∃ hp : p < (idsL ns).length, (idsL ns)[p] = (rd_T108 ns (u : Int)).f0 := by
  obtain ⟨hp, rfl⟩ := h
  refine ⟨by rw [ids_len]; exact hp, ?_⟩
  simp [idsL]
theorem ids_nd (ok : Ok ns ls) : (idsL ns).Nodup := by
  unfold idsL List.Nodup
  rw [List.pairwise_map]
  refine (ups_lt (ns := ns) ns.length 0).imp_of_mem fun {a b} ha hb hab e => ?_
  have h1 := ((mem_ups _ _).1 ha).2.1
  have h2 := ((mem_ups _ _).1 hb).2.1
  rw [rd108 (by omega), rd108 (by omega)] at e
  have := rise_inj ok.up (by omega) (by omega) e
  omega
theorem ups_le : (ups ns 0 ns.length).length ≤ ns.length := ups_len _ _
theorem Wd.hop (h : Wd ns ls max D H E) (hat : At ns p u) (hw : w < ns.length) (mark : Bool) :
    (w ≠ u → (rd_T108 ns (w : Int)).f1 = true → (E u w).2.1 ≠ 0 → (mark = true → (E u w).2.1 = 1) → ga (D w) u ≠ 9218868437227405312 → Ev (fun k => beaconref10_hop.f k (idsL ns) (tabsL ns E) (homesL ns H) (rd_T108 ns (u : Int)).f0 (rd_T108 ns (w : Int)).f0 mark) (E u w).2.2.2.1) ∧
    ((w ≠ u → (E u w).2.1 ≠ 0 → (mark = true → (E u w).2.1 = 1) → ga (D w) u = 9218868437227405312) → Ev (fun k => beaconref10_hop.f k (idsL ns) (tabsL ns E) (homesL ns H) (rd_T108 ns (u : Int)).f0 (rd_T108 ns (w : Int)).f0 mark) 0) := by
  have okn := h.ok.n
  obtain ⟨hu, hup⟩ := hat.up
  obtain ⟨hp, hid⟩ := hat.id
  have hl := ids_len (ns := ns)
  have hle := ups_le (ns := ns)
  have htl : (tabsL ns E).length = (idsL ns).length := by unfold tabsL; rw [hl, List.length_map]
  have hT := tab_len (ns := ns) (E := E) (u := u)
  have hg : ∀ hp' : p < (tabsL ns E).length, (tabsL ns E)[p] = tab ns u (E u) := by
    intro hp'
    obtain ⟨hp2, e⟩ := hat
    subst e
    simp [tabsL]
  obtain ⟨h1, h2⟩ := hop_l0 (w := (rd_T108 ns (w : Int)).f0) (mark := mark) (homes := homesL ns H) (by omega) htl (ids_nd h.ok) hp hid hg (by omega)
  have hdl := h.dle hu hw
  refine ⟨fun c1 c2 c3 c4 c5 => h1 (mkE (E u w)) ((h.mem_tab hu).2 ⟨w, hw, c1, c2, c3, rfl⟩) ⟨(h.ent hu hw c3).1, c4, ?_⟩ fun x hx hh => (h.tab_uniq hu hw hx (by rw [hh.1, rd108 hw])).2.2, fun hn => h2 fun x hx hh => ?_⟩
  · have e2 : (mkE (E u w)).f2 = ga (D w) u := (h.ent hu hw c3).2.1
    rw [far_e (by rw [e2]; exact hdl), e2]
    exact decide_eq_false c5
  · obtain ⟨c1, c2, rfl⟩ := h.tab_uniq hu hw hx (by rw [hh.1, rd108 hw])
    have e2 : (mkE (E u w)).f2 = ga (D w) u := (h.ent hu hw c2).2.1
    have h3 := hh.2.2
    rw [far_e (by rw [e2]; exact hdl), e2] at h3
    exact absurd (hn c1 c2 hh.2.1) (of_decide_eq_false h3)
end
/-! ### the program -/
def nob : ByteArray := ⟨#[]⟩
def dr (kd nx s w hm n : Int) : Int × Int × Int × Int × Int × Int × Int × Int × Int × Int × ByteArray × Int × Int × ByteArray := (kd, nx, 1, s, 0, w, hm, n, 0, 0, nob, 0, 0, nob)
section
variable {T : List S39} {id s w hm n : Int}
theorem dec_here : Ev (fun k => forward_decide.f k id T false 1 s 0 id hm n 0 0 nob 0 0 nob) (dr 1 0 s id hm n) := by
  unfold forward_decide.f
  exact Ev.yes rfl Ev.const
theorem dec_road {e : S39} (hw : w ≠ id) (hn : n ≠ 0) (hf : e.f2 ≤ 9218868437227405312) (hr : Ev (fun k => forward_road.f k id T false 1 s 0 w hm n 0 0 nob 0 0 nob) (tup e true)) :
    Ev (fun k => forward_decide.f k id T false 1 s 0 w hm n 0 0 nob 0 0 nob) (if e.f2 = 9218868437227405312 then dr 4 0 s w hm n else dr 2 e.f3 s w hm (wrap64 (n - 1))) := by
  unfold forward_decide.f
  refine Ev.no hw (hr.bind (Ev.yes rfl (Ev.all fun k => ?_)))
  have hf2 := far_e hf
  unfold far at hf2
  show (math_IsInf.f e.f2 1).bind _ = _
  rw [inf_f, hf2, Option.bind_some]
  by_cases c : e.f2 = 9218868437227405312
  · rw [if_pos (by simpa using c), if_pos c]; rfl
  · rw [if_neg (by simpa using c), if_neg c, if_neg hn]; rfl
theorem dec_none {y : S39} (hw : w ≠ id) (hr : Ev (fun k => forward_road.f k id T false 1 s 0 w hm n 0 0 nob 0 0 nob) (tup y false)) :
    Ev (fun k => forward_decide.f k id T false 1 s 0 w hm n 0 0 nob 0 0 nob) (dr 3 0 s w hm n) := by
  unfold forward_decide.f
  exact Ev.no hw (hr.bind (Ev.no (fun h => Bool.noConfusion h) Ev.const))
theorem road_find {e : S39} (hT : T.length ≤ 2932031007402) (hp : T.Pairwise Asc) (hm_ : e ∈ T) (hd : e.f0 = w) (hu : ∀ x ∈ T, x.f0 = w → x = e) : Ev (fun k => forward_road.f k id T false 1 s 0 w hm n 0 0 nob 0 0 nob) (tup e true) := by
  have hf : Ev (fun k => table_Find.f k T false w) (tup e true) := find_one hT z39 z39 hd T 0 rfl hp hu hm_
  unfold forward_road.f
  exact hf.bind (Ev.yes rfl Ev.const)
theorem road_not (hT : T.length ≤ 2932031007402) (hn : ∀ x ∈ T, x.f0 ≠ w) {r} (h : Ev (fun k => forward_road.j0 k (decide (hm = 0 ∨ hm = id)) T false 1 s 0 w hm n 0 0 nob 0 0 nob) r) : Ev (fun k => forward_road.f k id T false 1 s 0 w hm n 0 0 nob 0 0 nob) r := by
  have hf : Ev (fun k => table_Find.f k T false w) (tup z39 false) := find_end hT false false z39 z39 T 0 rfl hn
  unfold forward_road.f
  refine hf.bind (Ev.no (fun h => Bool.noConfusion h) (h.of fun k => ?_))
  by_cases c : hm = 0
  · rw [if_pos c, decide_eq_true (.inl c)]
  · rw [if_neg c]
    congr 1
    rw [show (hm == id) = decide (hm = id) from rfl]
    exact decide_eq_decide.2 ⟨fun h => .inr h, fun h => by rcases h with h | h; exact absurd h c; exact h⟩
theorem idx_ev (hT : T.length ≤ 2932031007402) : Ev (fun k => api_Entry.f k T 1 s 0 w hm n 0 0 nob 0 0 nob) (idxS hm T 0) := ⟨T.length + 1, fun k hk => idx_f T hT 1 s 0 w hm n 0 0 nob 0 0 nob T 0 k rfl hk⟩
theorem road_home {e : S39} (hT : T.length ≤ 2932031007402) (hm0 : hm ≠ 0) (hmi : hm ≠ id) (he : e ∈ T) (hd : e.f0 = hm) (hk : e.f1 = 1) (hu : ∀ x ∈ T, x.f1 = 1 → x.f0 = hm → x = e) :
    Ev (fun k => forward_road.j0 k (decide (hm = 0 ∨ hm = id)) T false 1 s 0 w hm n 0 0 nob 0 0 nob) (tup e true) := by
  obtain ⟨j, h1, h2, h3⟩ := idxS_one T T 0 rfl hu he hd hk
  have hi := idx_ev (s := s) (w := w) (hm := hm) (n := n) hT
  rw [h1] at hi
  have j1 : ¬ (j : Int) < 0 := by omega
  have j2 : 0 ≤ (j : Int) := by omega
  refine Ev.up (fun k => by
    simp only [forward_road.j0]
    rw [if_neg (by simp [hm0, hmi])]) (hi.bind (Ev.no j1 (Ev.yes j2 (Ev.yes h2 (Ev.all fun k => ?_)))))
  rw [h3]
  rfl
theorem road_none (hT : T.length ≤ 2932031007402) (hn : hm = 0 ∨ hm = id ∨ ∀ x ∈ T, ¬ (x.f1 = 1 ∧ x.f0 = hm)) :
    Ev (fun k => forward_road.j0 k (decide (hm = 0 ∨ hm = id)) T false 1 s 0 w hm n 0 0 nob 0 0 nob) (tup ⟨0, 0, 0, 0, 0, 0⟩ false) := by
  by_cases c : hm = 0 ∨ hm = id
  · refine Ev.up (G := fun _ => some (tup ⟨0, 0, 0, 0, 0, 0⟩ false)) (fun k => ?_) Ev.const
    simp only [forward_road.j0]
    rw [if_pos (by simpa using c)]
    rfl
  · have hn : ∀ x ∈ T, ¬ (x.f1 = 1 ∧ x.f0 = hm) := by
      rcases hn with h | h | h
      · exact absurd (.inl h) c
      · exact absurd (.inr h) c
      · exact h
    have hi := idx_ev (s := s) (w := w) (hm := hm) (n := n) hT
    rw [idxS_none T 0 hn] at hi
    exact Ev.up (fun k => by
      simp only [forward_road.j0]
      rw [if_neg (by simpa using c)]) (hi.bind (Ev.yes (show (-1 : Int) < 0 by decide) Ev.const))
end
end Go.Proofs.Ytgmjlhpigfaicaa.Pure
/- Roads: what is next is nearer, and who knows goes on to one who knows; the pieces of the document's road and of the program's walk. -/
namespace Go.Proofs.Ytgmjlhpigfaicaa.Pure
open Go.RowKit Go.Proofs.YtgmjlhpigfaicaaW.PrintWords Go.Proofs.Ytgmjlhpigfaicaa.XR Go.Proofs.Ytgmjlhpigfaicaa.MapW
set_option linter.unusedSimpArgs false
set_option linter.unusedVariables false
theorem rd59 (l : List S59) (n : Nat) (h : n < l.length) : rd_T59 l (n : Int) = l[n] := by
  unfold rd_T59; rw [Int.toNat_natCast, List.getD_eq_getElem?_getD, List.getElem?_eq_getElem h, Option.getD_some]
theorem idxR_at : ∀ (r : List Int) (a : Int), a ∈ r → ∃ (i : Nat) (h : i < r.reverse.length), r.reverse[i] = a ∧ idxR r a = i
  | [], a, h => by cases h
  | x :: r, a, h => by
    unfold idxR
    by_cases c : a = x
    · rw [if_pos c]
      exact ⟨r.length, by simp, by simp [c], rfl⟩
    · rw [if_neg c]
      obtain ⟨i, hi, h1, h2⟩ := idxR_at r a (by rcases List.mem_cons.1 h with h | h; exact absurd h c; exact h)
      refine ⟨i, by simp at hi ⊢; omega, ?_, h2⟩
      simp only [List.reverse_cons]
      rw [List.getElem_append_left hi]
      exact h1
theorem idxI_at (r : List Int) (a : Int) (h : a ∈ r) : ∃ (i : Nat) (h : i < r.length), r[i] = a ∧ idxI r a = i := by
  obtain ⟨i, hi, h1, h2⟩ := idxR_at r.reverse a (by simpa using h)
  refine ⟨i, by simpa using hi, ?_, h2⟩
  simpa using h1
theorem nodup_inj {l : List Int} (nd : l.Nodup) {i j : Nat} (hi : i < l.length) (hj : j < l.length) (h : l[i] = l[j]) : i = j := by
  have hp := List.pairwise_iff_getElem.1 nd
  rcases Nat.lt_trichotomy i j with c | c | c
  · exact absurd h (hp i j hi hj c)
  · exact c
  · exact absurd h.symm (hp j i hj hi c)
theorem lk_f (l : List Int) (a : Int) (h : okKey a = true) : fake_lk.f l a = some (idxI l a, hasI l a) := by
  unfold fake_lk.f; rw [if_pos h]
section
variable {ns : List S108} {ls : List S117} {max : Nat} {D : Nat → List Nat} {H : Nat → Int × Nat} {E : Nat → Nat → En} {p u v w m : Nat}
theorem Wd.po (h : Wd ns ls max D H E) (hw : w < ns.length) (hup : (rd_T108 ns (w : Int)).f1 = true) : Po ns ls max w (D w) := by
  rcases (h.hD w hw).2.2 with ⟨_, e⟩ | ⟨e, _⟩
  · exact e
  · rw [hup] at e; cases e
theorem Wd.next (h : Wd ns ls max D H E) (hu : u < ns.length) (hw : w < ns.length) (hup : (rd_T108 ns (w : Int)).f1 = true) (hne : w ≠ u) (hk : (E u w).2.1 ≠ 0) (hf : ga (D w) u ≠ 9218868437227405312) :
    ∃ v, v < ns.length ∧ (rd_T108 ns (v : Int)).f1 = true ∧ (E u w).2.2.2.1 = (rd_T108 ns (v : Int)).f0 ∧ ga (D w) v < ga (D w) u := by
  obtain ⟨v, hv, e1, e2, e3⟩ := next_down h.ok h.hC (h.po hw hup) (h.hD w hw).2 h.hm hu (fun e => hne e.symm) hf
  have e4 := (h.ent hu hw hk).2.2.2.2 hf
  rw [rd108 hu] at e4
  exact ⟨v, hv, e3, by rw [rd108 hv]; exact e4.one e1, e2⟩
theorem Knows.next {hm : Int} {r : Nat} (hk : Knows ns (D w) u w hm r) (hl : ga (D w) u ≤ 9218868437227405312) (hlt : ga (D w) v < ga (D w) u) : Knows ns (D w) v w hm r := by
  obtain ⟨h1, h2⟩ := hk
  refine ⟨by omega, ?_⟩
  rcases h2 with h2 | h2 | h2
  · exact .inl h2
  · exact .inr (.inl (by omega))
  · exact .inr (.inl (by omega))
theorem Wd.zero (h : Wd ns ls max D H E) (hw : w < ns.length) (hup : (rd_T108 ns (w : Int)).f1 = true) (hm : m < ns.length) (h0 : ga (D w) m = 0) : m = w := by
  have hp := (h.po hw hup).j
  rcases Nat.eq_or_lt_of_le (Nat.le_refl m) with _ | hx
  · rcases Decidable.em (m = w) with e | e
    · exact e
    · rcases hp.wit m hm e with e2 | ⟨x, hx, t, ht, hj, hle⟩
      · rw [h0] at e2; cases e2
      · have := addV_one (h.ok.lk x hx).2.2.2 (hp.di t ht) h.hm
        omega
  · omega
/-- A landmark is its own home. -/
theorem Wd.home_mark (h : Wd ns ls max D H E) (hw : w < ns.length) (hup : (rd_T108 ns (w : Int)).f1 = true) (hmk : mkB ns w = true) : (H w).1 = (rd_T108 ns (w : Int)).f0 := by
  have h0 := (h.po hw hup).j.s0
  rcases (h.hH w hw).2 with ⟨_, _, e⟩ | ⟨m, m1, m2, m3, m4, m5, m6⟩
  · have := e w hw hmk; omega
  · have := m6 w hw hmk
    have e : m = w := h.zero hw hup m1 (by omega)
    rw [m3, e]
/-- A home is nobody, or a landmark that is up. -/
theorem Wd.home_cases (h : Wd ns ls max D H E) (hw : w < ns.length) : (H w).1 = 0 ∨ ∃ m, m < ns.length ∧ mkB ns m = true ∧ (rd_T108 ns (m : Int)).f1 = true ∧ (H w).1 = (rd_T108 ns (m : Int)).f0 := by
  rcases (h.hH w hw).2 with ⟨e, _⟩ | ⟨m, m1, m2, m3, _⟩
  · exact .inl e
  · refine .inr ⟨m, m1, m2, ?_, m3⟩
    unfold mkB at m2
    rw [Bool.and_eq_true] at m2
    exact m2.1
theorem Wd.id (h : Wd ns ls max D H E) (hu : u < ns.length) : 1 ≤ (rd_T108 ns (u : Int)).f0 ∧ (rd_T108 ns (u : Int)).f0 ≤ 2147483647 := by
  rw [rd108 hu]
  exact h.ok.id _ (List.getElem_mem hu)
theorem Wd.id_inj (h : Wd ns ls max D H E) (hu : u < ns.length) (hw : w < ns.length) (e : (rd_T108 ns (u : Int)).f0 = (rd_T108 ns (w : Int)).f0) : u = w := by
  rw [rd108 hu, rd108 hw] at e
  exact rise_inj h.ok.up hu hw e
theorem weight_ev (ok : Ok ns ls) (a b : Int) : ∃ x, Ev (fun k => beaconref10_weight.f k ns ls a b) x ∧ x ≤ 9218868437227405312 := by
  have okl := ok.l
  have loop : ∀ (d i : Nat), ls.length - i = d → ∃ x, Ev (fun k => beaconref10_weight.l0 k a b (i : Int) ns ls) x ∧ x ≤ 9218868437227405312 := by
    intro d
    induction d with
    | zero =>
      intro i hd
      refine ⟨0, Ev.up (G := fun _ => some 0) (fun k => ?_) Ev.const, by decide⟩
      simp only [beaconref10_weight.l0]
      rw [if_neg (by omega)]
    | succ d ih =>
      intro i hd
      have hlt : i < ls.length := by omega
      have hx := rd117 hlt
      have hk := (ok.lk _ (List.getElem_mem hlt)).2.2.2.2.1
      obtain ⟨x, ex⟩ : ∃ x, x = ls[i] := ⟨_, rfl⟩
      rw [← ex] at hx hk
      obtain ⟨y, h1, h2⟩ := ih (i + 1) (by omega)
      by_cases c : (x.f0 = a ∧ x.f1 = b) ∨ (x.f0 = b ∧ x.f1 = a)
      · refine ⟨x.f2, Ev.up (G := fun _ => some x.f2) (fun k => ?_) Ev.const, by omega⟩
        simp only [beaconref10_weight.l0]
        rw [if_pos (by omega), if_pos (by omega), hx]
        by_cases c1 : x.f0 = a
        · rw [if_pos c1]
          by_cases c2 : x.f1 = b
          · rw [if_pos c2]
          · have c3 : x.f0 = b ∧ x.f1 = a := by rcases c with c | c; exact absurd c.2 c2; exact c
            rw [if_neg c2, if_pos c3.1, if_pos c3.2]
        · have c3 : x.f0 = b ∧ x.f1 = a := by rcases c with c | c; exact absurd c.1 c1; exact c
          rw [if_neg c1, if_pos c3.1, if_pos c3.2]
      · refine ⟨y, Ev.up (fun k => ?_) h1, h2⟩
        simp only [beaconref10_weight.l0]
        rw [if_pos (by omega), if_pos (by omega), hx, wrap_up i (by omega)]
        have n1 : ¬ (x.f0 = a ∧ x.f1 = b) := fun h => c (.inl h)
        have n2 : ¬ (x.f0 = b ∧ x.f1 = a) := fun h => c (.inr h)
        have e2 : ∀ X : Option Nat, (if x.f0 = b then (if x.f1 = a then (some x.f2) else X) else X) = X := by
          intro X
          by_cases q1 : x.f0 = b
          · rw [if_pos q1, if_neg fun q2 => n2 ⟨q1, q2⟩]
          · rw [if_neg q1]
        rw [e2]
        by_cases q1 : x.f0 = a
        · rw [if_pos q1, if_neg fun q2 => n1 ⟨q1, q2⟩]
        · rw [if_neg q1]
  obtain ⟨x, h1, h2⟩ := loop _ 0 rfl
  exact ⟨x, h1, h2⟩
end
/-! ### the document's road -/
section
variable {ns : List S108} {ls : List S117} {ids : List Int} {tabs : List (List S39)} {homes : List S80} {w hm x z : Int} {acc : List Int} {r y : Nat}
theorem road_here : Ev (fun k => beaconref10_road.l0 k w hm w ns ls ids tabs homes acc r false) (acc, r, true) := by
  refine Ev.up (G := fun _ => some (acc, r, true)) (fun k => ?_) Ev.const
  simp only [beaconref10_road.l0]
  rw [if_pos trivial]
theorem road_go1 {R} (hx : x ≠ w) (h1 : Ev (fun k => beaconref10_hop.f k ids tabs homes x w false) z) (hz : z ≠ 0) (hW : Ev (fun k => beaconref10_weight.f k ns ls x z) y) (hf : faddOk r y = true) (ha : acc.length < 17592186044416)
    (hR : Ev (fun k => beaconref10_road.l0 k w hm z ns ls ids tabs homes (acc ++ [z]) (fadd r y) false) R) : Ev (fun k => beaconref10_road.l0 k w hm x ns ls ids tabs homes acc r false) R := by
  have j : Ev (fun k => beaconref10_road.j1 k w hm x z false ns ls ids tabs homes acc r false) R := Ev.up (fun k => by
    simp only [beaconref10_road.j1, Bool.false_eq_true, if_false]
    rw [if_neg hz]) (hW.bind (Ev.yes hf (Ev.yes ha hR)))
  exact Ev.up (fun k => by
    simp only [beaconref10_road.l0]
    rw [if_neg hx]) (h1.bind (Ev.no hz j))
theorem road_go2 {R} (hx : x ≠ w) (h1 : Ev (fun k => beaconref10_hop.f k ids tabs homes x w false) 0) (hh : hm ≠ 0) (h2 : Ev (fun k => beaconref10_hop.f k ids tabs homes x hm true) z) (hz : z ≠ 0) (hW : Ev (fun k => beaconref10_weight.f k ns ls x z) y) (hf : faddOk r y = true) (ha : acc.length < 17592186044416)
    (hR : Ev (fun k => beaconref10_road.l0 k w hm z ns ls ids tabs homes (acc ++ [z]) (fadd r y) false) R) : Ev (fun k => beaconref10_road.l0 k w hm x ns ls ids tabs homes acc r false) R := by
  have j : Ev (fun k => beaconref10_road.j1 k w hm x 0 (hm != 0) ns ls ids tabs homes acc r false) R := Ev.up (fun k => by
    simp only [beaconref10_road.j1]
    rw [if_pos (by simpa using hh)]) (h2.bind (Ev.no hz (hW.bind (Ev.yes hf (Ev.yes ha hR)))))
  exact Ev.up (fun k => by
    simp only [beaconref10_road.l0]
    rw [if_neg hx]) (h1.bind (Ev.yes rfl j))
theorem road_stop (hx : x ≠ w) (h1 : Ev (fun k => beaconref10_hop.f k ids tabs homes x w false) 0) (h2 : hm = 0 ∨ Ev (fun k => beaconref10_hop.f k ids tabs homes x hm true) 0) :
    Ev (fun k => beaconref10_road.l0 k w hm x ns ls ids tabs homes acc r false) (acc, r, false) := by
  have j : Ev (fun k => beaconref10_road.j1 k w hm x 0 (hm != 0) ns ls ids tabs homes acc r false) (acc, r, false) := by
    by_cases c : hm = 0
    · refine Ev.up (G := fun _ => some (acc, r, false)) (fun k => ?_) Ev.const
      simp only [beaconref10_road.j1]
      rw [if_neg (by simpa using c), if_pos trivial]
    · have h2 : Ev (fun k => beaconref10_hop.f k ids tabs homes x hm true) 0 := by rcases h2 with h | h; exact absurd h c; exact h
      exact Ev.up (fun k => by
        simp only [beaconref10_road.j1]
        rw [if_pos (by simpa using c)]) (h2.bind (Ev.yes rfl Ev.const))
  exact Ev.up (fun k => by
    simp only [beaconref10_road.l0]
    rw [if_neg hx]) (h1.bind (Ev.yes rfl j))
end
end Go.Proofs.Ytgmjlhpigfaicaa.Pure
/- The program's walk and the document's road, step by step the same. -/
namespace Go.Proofs.Ytgmjlhpigfaicaa.Pure
open Go.RowKit Go.Proofs.YtgmjlhpigfaicaaW.PrintWords Go.Proofs.Ytgmjlhpigfaicaa.XR Go.Proofs.Ytgmjlhpigfaicaa.MapW
set_option linter.unusedSimpArgs false
set_option linter.unusedVariables false
def Ls (ns : List S108) (E : Nat → Nat → En) : List S59 := (ups ns 0 ns.length).map fun i : Nat => ⟨(rd_T108 ns (i : Int)).f0, ⟨tab ns i (E i), false⟩⟩
section
variable {ns : List S108} {ls : List S117} {max : Nat} {D : Nat → List Nat} {H : Nat → Int × Nat} {E : Nat → Nat → En} {p q u v w m : Nat}
theorem At.lst (h : At ns p u) : ∃ hp : p < (Ls ns E).length, (Ls ns E)[p] = ⟨(rd_T108 ns (u : Int)).f0, ⟨tab ns u (E u), false⟩⟩ := by
  obtain ⟨hp, rfl⟩ := h
  refine ⟨by unfold Ls; rw [List.length_map]; exact hp, ?_⟩
  simp [Ls]
theorem Wd.look (h : Wd ns ls max D H E) (ha : At ns p u) : fake_lk.f (idsL ns) (rd_T108 ns (u : Int)).f0 = some ((p : Int), true) := by
  obtain ⟨hp, e⟩ := ha.id
  have hid := h.id ha.up.1
  have hm : (rd_T108 ns (u : Int)).f0 ∈ idsL ns := by rw [← e]; exact List.getElem_mem hp
  obtain ⟨i, hi, h1, h2⟩ := idxI_at _ _ hm
  have : i = p := nodup_inj (ids_nd h.ok) hi hp (by rw [h1, e])
  rw [lk_f _ _ (by simp only [okKey, Bool.and_eq_true, decide_eq_true_eq]; omega), h2, this]
  simp [hasI, hm]
theorem look0 (l : List Int) : ∃ t, fake_lk.f l 0 = some t := ⟨_, lk_f _ _ (by decide)⟩
/-- What Walk tells. -/
def wr (way : List Int) (kd nx s w hm n : Int) : List Int × Int × Int × Int × Int × Int × Int × Int × Int × Int × Int × ByteArray × Int × Int × ByteArray × Int := (way, kd, nx, 1, s, 0, w, hm, n, 0, 0, nob, 0, 0, nob, 0)
theorem walk_on {s w hm n n' z : Int} {came : List Int} {R} (h : Wd ns ls max D H E) (ha : At ns p u) (hb : At ns q v) (hz : z = (rd_T108 ns (v : Int)).f0) (hc : came.length < 17592186044416)
    (hd : Ev (fun k => forward_decide.f k (rd_T108 ns (u : Int)).f0 (tab ns u (E u)) false 1 s 0 w hm n 0 0 nob 0 0 nob) (dr 2 z s w hm n'))
    (hR : Ev (fun k => forward_Walk.l1 k (Ls ns E) (idsL ns) (q : Int) (came ++ [(rd_T108 ns (u : Int)).f0]) 1 s 0 w hm n' 0 0 nob 0 0 nob) R) : Ev (fun k => forward_Walk.l1 k (Ls ns E) (idsL ns) (p : Int) came 1 s 0 w hm n 0 0 nob 0 0 nob) R := by
  obtain ⟨hp, e⟩ := ha.lst (E := E)
  have hl := h.look hb
  rw [← hz] at hl
  refine Ev.up (fun k => by
    simp only [forward_Walk.l1]
    rw [if_pos (by omega), if_pos (by omega), if_pos hc, rd59 _ _ hp, e, Option.bind_some]) (hd.bind (hR.of fun k => ?_))
  show (fake_lk.f (idsL ns) z).bind _ = _
  rw [hl]
  rfl
theorem walk_stop {s w hm n n' kd : Int} {came : List Int} (h : Wd ns ls max D H E) (ha : At ns p u) (hk : kd ≠ 2) (hc : came.length < 17592186044416)
    (hd : Ev (fun k => forward_decide.f k (rd_T108 ns (u : Int)).f0 (tab ns u (E u)) false 1 s 0 w hm n 0 0 nob 0 0 nob) (dr kd 0 s w hm n')) :
    Ev (fun k => forward_Walk.l1 k (Ls ns E) (idsL ns) (p : Int) came 1 s 0 w hm n 0 0 nob 0 0 nob) (wr (came ++ [(rd_T108 ns (u : Int)).f0]) kd 0 s w hm n') := by
  obtain ⟨hp, e⟩ := ha.lst (E := E)
  obtain ⟨t, ht⟩ := look0 (idsL ns)
  refine Ev.up (fun k => by
    simp only [forward_Walk.l1]
    rw [if_pos (by omega), if_pos (by omega), if_pos hc, rd59 _ _ hp, e, Option.bind_some]) (hd.bind (Ev.all fun k => ?_))
  show (fake_lk.f (idsL ns) 0).bind _ = _
  rw [ht, Option.bind_some]
  exact if_neg hk
/-- From u on both go the same way. -/
def Lock (ns : List S108) (ls : List S117) (H : Nat → Int × Nat) (E : Nat → Nat → En) (w : Nat) (s : Int) (p u : Nat) (came : List Int) (r : Nat) (n : Nat) : Prop :=
  ∃ way wt ok kd nx n', Ev (fun k => beaconref10_road.l0 k (rd_T108 ns (w : Int)).f0 (H w).1 (rd_T108 ns (u : Int)).f0 ns ls (idsL ns) (tabsL ns E) (homesL ns H) (came ++ [(rd_T108 ns (u : Int)).f0]) r false) (came ++ [(rd_T108 ns (u : Int)).f0] ++ way, wt, ok) ∧
    Ev (fun k => forward_Walk.l1 k (Ls ns E) (idsL ns) (p : Int) came 1 s 0 (rd_T108 ns (w : Int)).f0 (H w).1 (n : Int) 0 0 nob 0 0 nob) (wr (came ++ [(rd_T108 ns (u : Int)).f0] ++ way) kd nx s (rd_T108 ns (w : Int)).f0 (H w).1 n') ∧ (kd = 1 ↔ ok = true) ∧ way.length ≤ n
variable {s : Int} {came : List Int} {r n : Nat}
theorem lock_here (h : Wd ns ls max D H E) (ha : At ns p w) (hc : came.length < 17592186044416) : Lock ns ls H E w s p w came r n := by
  refine ⟨[], r, true, 1, 0, n, ?_, ?_, by simp, Nat.zero_le _⟩
  · rw [List.append_nil]; exact road_here
  · rw [List.append_nil]; exact walk_stop h ha (by decide) hc dec_here
theorem lock_stop {kd n' : Int} (h : Wd ns ls max D H E) (ha : At ns p u) (hw : w < ns.length) (hne : w ≠ u) (hk : kd ≠ 2) (hk1 : kd ≠ 1) (hc : came.length < 17592186044416)
    (h1 : Ev (fun k => beaconref10_hop.f k (idsL ns) (tabsL ns E) (homesL ns H) (rd_T108 ns (u : Int)).f0 (rd_T108 ns (w : Int)).f0 false) 0)
    (h2 : (H w).1 = 0 ∨ Ev (fun k => beaconref10_hop.f k (idsL ns) (tabsL ns E) (homesL ns H) (rd_T108 ns (u : Int)).f0 (H w).1 true) 0)
    (hd : Ev (fun k => forward_decide.f k (rd_T108 ns (u : Int)).f0 (tab ns u (E u)) false 1 s 0 (rd_T108 ns (w : Int)).f0 (H w).1 n 0 0 nob 0 0 nob) (dr kd 0 s (rd_T108 ns (w : Int)).f0 (H w).1 n')) : Lock ns ls H E w s p u came r n := by
  refine ⟨[], r, false, kd, 0, n', ?_, ?_, by simp [hk1], Nat.zero_le _⟩
  · rw [List.append_nil]; exact road_stop (fun e => hne (h.id_inj ha.up.1 hw e).symm) h1 h2
  · rw [List.append_nil]; exact walk_stop h ha hk hc hd
theorem lock_go {z : Int} (h : Wd ns ls max D H E) (ha : At ns p u) (hb : At ns q v) (hz : z = (rd_T108 ns (v : Int)).f0) (hw : w < ns.length) (hne : w ≠ u) (hc : came.length < 17592186044415) (hr : r ≤ 9218868437227405312)
    (h1 : Ev (fun k => beaconref10_hop.f k (idsL ns) (tabsL ns E) (homesL ns H) (rd_T108 ns (u : Int)).f0 (rd_T108 ns (w : Int)).f0 false) z ∨
      Ev (fun k => beaconref10_hop.f k (idsL ns) (tabsL ns E) (homesL ns H) (rd_T108 ns (u : Int)).f0 (rd_T108 ns (w : Int)).f0 false) 0 ∧ (H w).1 ≠ 0 ∧ Ev (fun k => beaconref10_hop.f k (idsL ns) (tabsL ns E) (homesL ns H) (rd_T108 ns (u : Int)).f0 (H w).1 true) z)
    (hd : Ev (fun k => forward_decide.f k (rd_T108 ns (u : Int)).f0 (tab ns u (E u)) false 1 s 0 (rd_T108 ns (w : Int)).f0 (H w).1 ((n + 1 : Nat) : Int) 0 0 nob 0 0 nob) (dr 2 z s (rd_T108 ns (w : Int)).f0 (H w).1 n))
    (hL : ∀ r', r' ≤ 9218868437227405312 → Lock ns ls H E w s q v (came ++ [(rd_T108 ns (u : Int)).f0]) r' n) : Lock ns ls H E w s p u came r (n + 1) := by
  obtain ⟨y, hy, hyl⟩ := weight_ev h.ok (rd_T108 ns (u : Int)).f0 z
  obtain ⟨f1, f2⟩ := fadd_ok (a := r) (b := y) hr hyl
  obtain ⟨way, wt, ok, kd, nx, n', l1, l2, l3, l4⟩ := hL _ f2
  have hz0 : z ≠ 0 := by have := h.id hb.up.1; omega
  have hxw : (rd_T108 ns (u : Int)).f0 ≠ (rd_T108 ns (w : Int)).f0 := fun e => hne (h.id_inj ha.up.1 hw e).symm
  rw [← hz] at l1 l2
  have ew : came ++ [(rd_T108 ns (u : Int)).f0] ++ (z :: way) = came ++ [(rd_T108 ns (u : Int)).f0] ++ [z] ++ way := by simp
  have hc2 : (came ++ [(rd_T108 ns (u : Int)).f0]).length < 17592186044416 := by rw [List.length_append]; simp; omega
  refine ⟨z :: way, wt, ok, kd, nx, n', ?_, ?_, l3, by rw [List.length_cons]; omega⟩
  · rw [ew]
    rcases h1 with h1 | ⟨h1, h2, h3⟩
    · exact road_go1 hxw h1 hz0 hy f1 hc2 l1
    · exact road_go2 hxw h1 h2 h3 hz0 hy f1 hc2 l1
  · rw [ew]
    exact walk_on h ha hb hz (by omega) hd l2
end
end Go.Proofs.Ytgmjlhpigfaicaa.Pure
/- Road and walk are the same from anywhere. -/
namespace Go.Proofs.Ytgmjlhpigfaicaa.Pure
open Go.RowKit Go.Proofs.YtgmjlhpigfaicaaW.PrintWords Go.Proofs.Ytgmjlhpigfaicaa.XR Go.Proofs.Ytgmjlhpigfaicaa.MapW
set_option linter.unusedSimpArgs false
set_option linter.unusedVariables false
section
variable {ns : List S108} {ls : List S117} {max : Nat} {D : Nat → List Nat} {H : Nat → Int × Nat} {E : Nat → Nat → En} {p q u v w m : Nat} {s : Int}
theorem Wd.tlen (h : Wd ns ls max D H E) : (tab ns u (E u)).length ≤ 2932031007402 := by
  have := tab_len (ns := ns) (E := E) (u := u)
  have := h.ok.n
  omega
theorem Wd.e2 (h : Wd ns ls max D H E) (hu : u < ns.length) (hw : w < ns.length) (hk : (E u w).2.1 ≠ 0) : (mkE (E u w)).f2 = ga (D w) u := (h.ent hu hw hk).2.1
/-- What decide tells where w has an entry. -/
theorem Wd.dec_w (h : Wd ns ls max D H E) (hu : u < ns.length) (hw : w < ns.length) (hup : (rd_T108 ns (w : Int)).f1 = true) (hne : w ≠ u) (hk : (E u w).2.1 ≠ 0) (hm : Int) {n : Nat} (hn : n ≤ 65536) :
    Ev (fun k => forward_decide.f k (rd_T108 ns (u : Int)).f0 (tab ns u (E u)) false 1 s 0 (rd_T108 ns (w : Int)).f0 hm ((n + 1 : Nat) : Int) 0 0 nob 0 0 nob) (if ga (D w) u = 9218868437227405312 then dr 4 0 s (rd_T108 ns (w : Int)).f0 hm ((n + 1 : Nat) : Int) else dr 2 (E u w).2.2.2.1 s (rd_T108 ns (w : Int)).f0 hm (n : Int)) := by
  have e2 := h.e2 hu hw hk
  have hd := dec_road (s := s) (hm := hm) (n := ((n + 1 : Nat) : Int)) (e := mkE (E u w)) (fun e => hne (h.id_inj hw hu e)) (by omega) (by rw [e2]; exact h.dle hu hw)
    (road_find h.tlen (h.asc hu) ((h.mem_tab hu).2 ⟨w, hw, hne, hup, hk, rfl⟩) (h.ent hu hw hk).1 fun x hx hx2 => (h.tab_uniq hu hw hx (by rw [hx2, rd108 hw])).2.2)
  rw [e2] at hd
  by_cases c : ga (D w) u = 9218868437227405312
  · rw [if_pos c] at hd ⊢; exact hd
  · rw [if_neg c] at hd ⊢
    rw [wrap_dn n (by omega)] at hd
    exact hd
/-- What decide tells where w has none, and its home has one. -/
theorem Wd.dec_m (h : Wd ns ls max D H E) (hu : u < ns.length) (hw : w < ns.length) (hne : w ≠ u) (hk : (E u w).2.1 = 0) (hml : m < ns.length) (hup : (rd_T108 ns (m : Int)).f1 = true) (hmk : mkB ns m = true) (hmu : m ≠ u) (hkm : (E u m).2.1 ≠ 0) {n : Nat} (hn : n ≤ 65536) :
    Ev (fun k => forward_decide.f k (rd_T108 ns (u : Int)).f0 (tab ns u (E u)) false 1 s 0 (rd_T108 ns (w : Int)).f0 (rd_T108 ns (m : Int)).f0 ((n + 1 : Nat) : Int) 0 0 nob 0 0 nob) (if ga (D m) u = 9218868437227405312 then dr 4 0 s (rd_T108 ns (w : Int)).f0 (rd_T108 ns (m : Int)).f0 ((n + 1 : Nat) : Int) else dr 2 (E u m).2.2.2.1 s (rd_T108 ns (w : Int)).f0 (rd_T108 ns (m : Int)).f0 (n : Int)) := by
  have e2 := h.e2 hu hml hkm
  have hid := h.id hml
  have hd := dec_road (s := s) (n := ((n + 1 : Nat) : Int)) (e := mkE (E u m)) (fun e => hne (h.id_inj hw hu e)) (by omega) (by rw [e2]; exact h.dle hu hml)
    (road_not (w := (rd_T108 ns (w : Int)).f0) (hm := (rd_T108 ns (m : Int)).f0) h.tlen (fun x hx hx2 => (h.tab_uniq hu hw hx (by rw [hx2, rd108 hw])).2.1 hk) (road_home h.tlen (by omega) (fun e => hmu (h.id_inj hml hu e)) ((h.mem_tab hu).2 ⟨m, hml, hmu, hup, hkm, rfl⟩) (h.ent hu hml hkm).1 (((h.hE u m hu hml).2.2.2.2.1).2 ⟨hkm, hmk⟩)
      fun x hx _ hx2 => (h.tab_uniq hu hml hx (by rw [hx2, rd108 hml])).2.2))
  rw [e2] at hd
  by_cases c : ga (D m) u = 9218868437227405312
  · rw [if_pos c] at hd ⊢; exact hd
  · rw [if_neg c] at hd ⊢
    rw [wrap_dn n (by omega)] at hd
    exact hd
/-- .. and where neither has. -/
theorem Wd.dec_n (h : Wd ns ls max D H E) (hu : u < ns.length) (hw : w < ns.length) (hne : w ≠ u) (hk : (E u w).2.1 = 0) {hm : Int} (hn : hm = 0 ∨ ∃ m, m < ns.length ∧ hm = (rd_T108 ns (m : Int)).f0 ∧ (m ≠ u → (E u m).2.1 = 0)) (n : Int) :
    Ev (fun k => forward_decide.f k (rd_T108 ns (u : Int)).f0 (tab ns u (E u)) false 1 s 0 (rd_T108 ns (w : Int)).f0 hm n 0 0 nob 0 0 nob) (dr 3 0 s (rd_T108 ns (w : Int)).f0 hm n) := by
  refine dec_none (fun e => hne (h.id_inj hw hu e)) (road_not h.tlen (fun x hx hx2 => (h.tab_uniq hu hw hx (by rw [hx2, rd108 hw])).2.1 hk) (road_none h.tlen ?_))
  rcases hn with e | ⟨m, hml, rfl, e⟩
  · exact .inl e
  · rcases Decidable.em (m = u) with c | c
    · subst c; exact .inr (.inl rfl)
    · refine .inr (.inr fun x hx hh => ?_)
      have := h.tab_uniq hu hml hx (by rw [hh.2, rd108 hml])
      exact this.2.1 (e c)
def Kn (ns : List S108) (D : Nat → List Nat) (H : Nat → Int × Nat) (w u : Nat) : Prop := w = u ∨ Knows ns (D w) u w (H w).1 (H w).2
theorem lockA (h : Wd ns ls max D H E) (hw : w < ns.length) (hup : (rd_T108 ns (w : Int)).f1 = true) : ∀ (M u p : Nat) (came : List Int) (r n : Nat), At ns p u → Kn ns D H w u → rank (D w) (ga (D w) u) ≤ M → came.length + M ≤ 100000 → M + 1 ≤ n → n ≤ 65536 → r ≤ 9218868437227405312 → Lock ns ls H E w s p u came r n := by
  intro M
  induction M with
  | zero =>
    intro u p came r n ha hk hr hc hn hn2 hrl
    rcases hk with rfl | hk
    · exact lock_here h ha (by omega)
    · rcases Decidable.em (w = u) with e | e
      · subst e; exact lock_here h ha (by omega)
      · have hkd := (h.hE u w ha.up.1 hw).2.2.1 hk
        obtain ⟨v, v1, v2, v3, v4⟩ := h.next ha.up.1 hw hup e hkd hk.1
        have := rank_lt (D w) v (by rw [(h.hD w hw).2.1]; exact v1) v4
        omega
  | succ M ih =>
    intro u p came r n ha hk hr hc hn hn2 hrl
    rcases Decidable.em (w = u) with e | e
    · subst e; exact lock_here h ha (by omega)
    · have hk : Knows ns (D w) u w (H w).1 (H w).2 := by rcases hk with hk | hk; exact absurd hk e; exact hk
      have hkd := (h.hE u w ha.up.1 hw).2.2.1 hk
      obtain ⟨v, v1, v2, v3, v4⟩ := h.next ha.up.1 hw hup e hkd hk.1
      have hlt := rank_lt (D w) v (by rw [(h.hD w hw).2.1]; exact v1) v4
      obtain ⟨q, hq⟩ := at_ex v1 v2
      obtain ⟨n, rfl⟩ : ∃ n', n = n' + 1 := ⟨n - 1, by omega⟩
      have hd := h.dec_w (s := s) ha.up.1 hw hup e hkd (H w).1 (n := n) (by omega)
      rw [if_neg hk.1] at hd
      refine lock_go h ha hq v3 hw e (by omega) hrl (.inl ((h.hop ha hw false).1 e hup hkd (fun hh => by cases hh) hk.1)) hd fun r' hr' => ih v q _ r' n hq (.inr (hk.next (h.dle ha.up.1 hw) v4)) (by omega) (by rw [List.length_append]; simp; omega) (by omega) (by omega) hr'
/-- Where u does not know w: nothing is told of w there that leads on. -/
theorem Wd.hop_not (h : Wd ns ls max D H E) (ha : At ns p u) (hw : w < ns.length) (hk : ¬ Kn ns D H w u) : Ev (fun k => beaconref10_hop.f k (idsL ns) (tabsL ns E) (homesL ns H) (rd_T108 ns (u : Int)).f0 (rd_T108 ns (w : Int)).f0 false) 0 :=
  (h.hop ha hw false).2 fun e c _ => Classical.byContradiction fun hf => hk (.inr ((h.hE u w ha.up.1 hw).2.2.2.1 c hf))
theorem lockFar (h : Wd ns ls max D H E) (ha : At ns p u) (hw : w < ns.length) (hup : (rd_T108 ns (w : Int)).f1 = true) (hk : ¬ Kn ns D H w u) (hkd : (E u w).2.1 ≠ 0) {came : List Int} {r n : Nat} (hc : came.length ≤ 100000) (hn2 : n ≤ 65536) : Lock ns ls H E w s p u came r (n + 1) := by
  have e : w ≠ u := fun e => hk (.inl e)
  have hu := ha.up.1
  have hf : ga (D w) u = 9218868437227405312 := Classical.byContradiction fun hf => hk (.inr ((h.hE u w hu hw).2.2.2.1 hkd hf))
  have h1 := (h.hE u w hu hw).2.2.2.2.2 hf hkd
  have hmk := (((h.hE u w hu hw).2.2.2.2.1).1 h1).2
  have hd := h.dec_w (s := s) hu hw hup e hkd (H w).1 (n := n) (by omega)
  rw [if_pos hf] at hd
  refine lock_stop h ha hw e (by decide) (by decide) (by omega) (h.hop_not ha hw hk) (.inr ?_) hd
  rw [h.home_mark hw hup hmk]
  exact (h.hop ha hw true).2 fun _ _ _ => hf
theorem lockB (h : Wd ns ls max D H E) (hw : w < ns.length) (hup : (rd_T108 ns (w : Int)).f1 = true) (hml : m < ns.length) (hmk : mkB ns m = true) (hmu : (rd_T108 ns (m : Int)).f1 = true) (hh : (H w).1 = (rd_T108 ns (m : Int)).f0) :
    ∀ (M u p : Nat) (came : List Int) (r n : Nat), At ns p u → rank (D m) (ga (D m) u) < M → came.length + M + 300 ≤ 100000 → M + 300 ≤ n → n ≤ 65536 → r ≤ 9218868437227405312 → Lock ns ls H E w s p u came r n := by
  intro M
  induction M with
  | zero => intro u p came r n _ hr; omega
  | succ M ih =>
    intro u p came r n ha hr hc hn hn2 hrl
    have hu := ha.up.1
    have okn := h.ok.n
    rcases Classical.em (Kn ns D H w u) with hk | hk
    · have := rank_le (D w) (ga (D w) u)
      rw [(h.hD w hw).2.1] at this
      exact lockA h hw hup 256 u p came r n ha hk (by omega) (by omega) (by omega) hn2 hrl
    · obtain ⟨n, rfl⟩ : ∃ n', n = n' + 1 := ⟨n - 1, by omega⟩
      rcases Decidable.em ((E u w).2.1 = 0) with hkd | hkd
      · have e : w ≠ u := fun e => hk (.inl e)
        have hz := h.hop_not ha hw hk
        rcases Decidable.em (m ≠ u ∧ (E u m).2.1 ≠ 0) with ⟨c1, c2⟩ | c
        · have hd := h.dec_m (s := s) hu hw e hkd hml hmu hmk c1 c2 (n := n) (by omega)
          rw [← hh] at hd
          by_cases hf : ga (D m) u = 9218868437227405312
          · rw [if_pos hf] at hd
            refine lock_stop h ha hw e (by decide) (by decide) (by omega) hz (.inr ?_) hd
            rw [hh]
            exact (h.hop ha hml true).2 fun _ _ _ => hf
          · rw [if_neg hf] at hd
            obtain ⟨v, v1, v2, v3, v4⟩ := h.next hu hml hmu c1 c2 hf
            have hlt := rank_lt (D m) v (by rw [(h.hD m hml).2.1]; exact v1) v4
            obtain ⟨q, hq⟩ := at_ex v1 v2
            refine lock_go h ha hq v3 hw e (by omega) hrl (.inr ⟨hz, ?_, ?_⟩) hd fun r' hr' => ih v q _ r' n hq (by omega) (by rw [List.length_append]; simp; omega) (by omega) (by omega) hr'
            · have := h.id hml; omega
            · rw [hh]
              exact (h.hop ha hml true).1 c1 hmu c2 (fun _ => ((h.hE u m hu hml).2.2.2.2.1).2 ⟨c2, hmk⟩) hf
        · have c : m ≠ u → (E u m).2.1 = 0 := fun c1 => Classical.byContradiction fun c2 => c ⟨c1, c2⟩
          have hd := h.dec_n (s := s) hu hw e hkd (hm := (H w).1) (.inr ⟨m, hml, hh, c⟩) ((n + 1 : Nat) : Int)
          refine lock_stop h ha hw e (by decide) (by decide) (by omega) hz (.inr ?_) hd
          rw [hh]
          exact (h.hop ha hml true).2 fun c1 c2 _ => absurd (c c1) c2
      · exact lockFar h ha hw hup hk hkd (by omega) (by omega)
theorem lock_all (h : Wd ns ls max D H E) (ha : At ns p u) (hb : At ns q w) : Lock ns ls H E w s p u [] 0 65536 := by
  obtain ⟨hw, hup⟩ := hb.up
  have hu := ha.up.1
  have okn := h.ok.n
  rcases h.home_cases hw with h0 | ⟨m, m1, m2, m3, m4⟩
  · rcases Classical.em (Kn ns D H w u) with hk | hk
    · have := rank_le (D w) (ga (D w) u)
      rw [(h.hD w hw).2.1] at this
      exact lockA h hw hup 256 u p [] 0 65536 ha hk (by omega) (by simp) (by omega) (by omega) (by omega)
    · rcases Decidable.em ((E u w).2.1 = 0) with hkd | hkd
      · have e : w ≠ u := fun e => hk (.inl e)
        exact lock_stop h ha hw e (by decide) (by decide) (by simp) (h.hop_not ha hw hk) (.inl h0) (h.dec_n (s := s) hu hw e hkd (.inl h0) _)
      · exact lockFar h ha hw hup hk hkd (by simp) (by omega)
  · have := rank_le (D m) (ga (D m) u)
    rw [(h.hD m m1).2.1] at this
    exact lockB h hw hup m1 m2 m3 m4 257 u p [] 0 65536 ha (by omega) (by simp) (by omega) (by omega) (by omega)
end
end Go.Proofs.Ytgmjlhpigfaicaa.Pure
/- The ends: what is asked, a packet that may be, Walk's first loop, Travel, and the law's loops. -/
namespace Go.Proofs.Ytgmjlhpigfaicaa.Pure
open Go.RowKit Go.Proofs.YtgmjlhpigfaicaaW.PrintWords Go.Proofs.Ytgmjlhpigfaicaa.XR Go.Proofs.Ytgmjlhpigfaicaa.MapW
set_option linter.unusedSimpArgs false
set_option linter.unusedVariables false
theorem name_nob : Ev (fun k => ident_CheckName.f k nob) 21 := by
  unfold ident_CheckName.f
  refine Ev.yes (by decide) (Ev.up (G := fun _ => some 21) (fun k => ?_) Ev.const)
  simp only [ident_CheckName.j0]
  rfl
theorem nob_list : nob.toList = [] := by unfold nob ByteArray.toList; unfold ByteArray.toList.loop; rfl
theorem packet_ev {u w hm n : Int} (hu : num u = true) (hw : num w = true) (hh : hm = 0 ∨ num hm = true) (hn : 0 ≤ n ∧ n ≤ 65536) : Ev (fun k => message_packet.f k 1 u 0 w hm n 0 0 nob 0 0 nob) true := by
  have j3 : Ev (fun k => message_packet.j3 k true 1 u 0 w hm n 0 0 nob 0 0 nob) true := by
    refine Ev.up (G := fun _ => some true) (fun k => ?_) Ev.const
    rw [message_packet.j3, if_pos rfl, if_pos rfl, if_pos nob_list, if_pos rfl]
    rfl
  have j2 : Ev (fun k => message_packet.j2 k true 1 u 0 w hm n 0 0 nob 0 0 nob) true := by
    refine Ev.up (fun k => by rw [message_packet.j2]) (name_nob.bind (Ev.no (show ¬ ((21 : Int) = 0) by decide) j3))
  have j1 : Ev (fun k => message_packet.j1 k 1 u 0 w hm n 0 0 nob 0 0 nob) true := by
    refine Ev.up (fun k => ?_) j2
    rw [message_packet.j1, if_pos rfl]
    rfl
  have j0 : Ev (fun k => message_packet.j0 k (decide (n > 65536)) 1 u 0 w hm n 0 0 nob 0 0 nob) true := by
    refine Ev.up (fun k => ?_) j1
    rw [message_packet.j0, decide_eq_false (by omega), if_neg (by decide), if_pos rfl]
  unfold message_packet.f
  refine j0.of fun k => ?_
  simp only [num_f, hu, hw, Option.bind_some, if_true]
  rw [if_neg (show ¬ (n < 0) by omega)]
  rcases hh with h | h
  · rw [if_pos h]
  · rw [h]
    simp
theorem pmay_ev {u w hm n : Int} (hu : num u = true) (hw : num w = true) (hh : hm = 0 ∨ num hm = true) (hn : 0 ≤ n ∧ n ≤ 65536) : Ev (fun k => forward_may.f k 1 u 0 w hm n 0 0 nob 0 0 nob) true := by
  have c : Ev (fun k => message_Check.j0 k 4 (4 == 3) 4 0 0 0 ([] : List S145) 1 u 0 w hm n 0 0 nob 0 0 nob) 0 :=
    Ev.up (G := fun k => (message_packet.f k 1 u 0 w hm n 0 0 nob 0 0 nob).bind fun t156 => if t156 = true then some 0 else none) (fun k => by
      rw [message_Check.j0, if_neg (by decide), if_pos rfl, if_pos rfl, if_pos rfl, if_pos rfl, if_pos (by decide)]) ((packet_ev hu hw hh hn).bind (Ev.yes rfl Ev.const))
  have c2 : Ev (fun k => message_Check.f k 4 0 0 0 ([] : List S145) 1 u 0 w hm n 0 0 nob 0 0 nob) 0 := by
    unfold message_Check.f
    exact Ev.no (by decide) (Ev.no (by decide) c)
  unfold forward_may.f
  exact c2.bind Ev.const
theorem awake_ev : Ev (fun k => beaconlaw19_awake.f k) true := by
  obtain ⟨e, he⟩ : ∃ e : S39, e = ⟨1, 1, 4613937818241073152, 2, 0, 0⟩ := ⟨_, rfl⟩
  have hT : ([e] : List S39).length ≤ 2932031007402 := by simp
  have one : ∀ {x : S39}, x ∈ [e] → x = e := fun h => by simpa using h
  have hd : Ev (fun k => forward_decide.f k 5 [e] false 1 5 0 9 1 4 0 0 nob 0 0 nob) (dr 2 2 5 9 1 3) := by
    have h := dec_road (id := 5) (s := 5) (w := 9) (hm := 1) (n := 4) (T := [e]) (e := e) (by decide) (by decide) (by rw [he]; decide) (road_not hT (fun x hx => by rw [one hx, he]; decide) (road_home hT (by decide) (by decide) (by simp) (by rw [he]) (by rw [he]) (fun x hx _ _ => one hx)))
    rw [if_neg (by rw [he]; decide), he, show wrap64 (4 - 1) = 3 by unfold wrap64; decide] at h
    rw [he]
    exact h
  have hC : Ev (fun k => table_Check.f k [e] false) 0 := by
    have := may_ev hT (fun x hx => by rw [one hx, he]; unfold okE; decide) (by simp)
    unfold table_Check.f
    exact this.bind (Ev.yes rfl Ev.const)
  have hD : Ev (fun k => forward_Decide.f k 5 [e] false 1 5 0 9 1 4 0 0 nob 0 0 nob) (2, 2, 1, 5, 0, 9, 1, 3, 0, 0, nob, 0, 0, nob, 0) := by
    unfold forward_Decide.f
    exact Ev.bind (F := fun _ => ident_CheckId.f 5) (a := 0) (Ev.all fun _ => by rw [idp_f]; rfl) (Ev.yes rfl ((pmay_ev (by decide) (by decide) (.inr (by decide)) (by decide)).bind (Ev.yes rfl (hC.bind (Ev.yes rfl (hd.bind Ev.const))))))
  unfold beaconlaw19_awake.f
  rw [← he]
  exact Ev.bind (F := fun _ => beaconlaw19_data.f 5 9 1 4) (a := (1, 5, 0, 9, 1, 4, 0, 0, nob, 0, 0, nob)) (Ev.all fun _ => rfl) (hD.bind (Ev.yes rfl (Ev.yes rfl (Ev.yes rfl Ev.const))))
section
variable {ns : List S108} {ls : List S117} {max : Nat} {D : Nat → List Nat} {H : Nat → Int × Nat} {E : Nat → Nat → En} {p q u v w m : Nat} {s : Int}
theorem up10_ev (hn : ns.length ≤ 256) (id : Int) : ∃ b, Ev (fun k => beaconref10_up.f k ns ls id) b ∧ (b = true → ∃ i, i < ns.length ∧ id = (rd_T108 ns (i : Int)).f0 ∧ (rd_T108 ns (i : Int)).f1 = true) := by
  have loop : ∀ (d i : Nat), ns.length - i = d → ∃ b, Ev (fun k => beaconref10_up.l0 k id (i : Int) ns ls) b ∧ (b = true → ∃ i, i < ns.length ∧ id = (rd_T108 ns (i : Int)).f0 ∧ (rd_T108 ns (i : Int)).f1 = true) := by
    intro d
    induction d with
    | zero =>
      intro i hd
      refine ⟨false, Ev.up (G := fun _ => some false) (fun k => ?_) Ev.const, fun h => by cases h⟩
      simp only [beaconref10_up.l0]
      rw [if_neg (by omega)]
    | succ d ih =>
      intro i hd
      have hlt : i < ns.length := by omega
      by_cases c : (rd_T108 ns (i : Int)).f0 = id
      · refine ⟨(rd_T108 ns (i : Int)).f1, Ev.up (G := fun _ => some (rd_T108 ns (i : Int)).f1) (fun k => ?_) Ev.const, fun h => ⟨i, hlt, c.symm, h⟩⟩
        simp only [beaconref10_up.l0]
        rw [if_pos (by omega), if_pos (by omega), if_pos c]
      · obtain ⟨b, h1, h2⟩ := ih (i + 1) (by omega)
        refine ⟨b, Ev.up (fun k => ?_) h1, h2⟩
        simp only [beaconref10_up.l0]
        rw [if_pos (by omega), if_pos (by omega), if_neg c, wrap_up i (by omega)]
  unfold beaconref10_up.f
  exact loop _ 0 rfl
theorem rd80 {l : List S80} {n : Nat} (h : n < l.length) : rd_T80 l (n : Int) = l[n] := by
  unfold rd_T80
  rw [Int.toNat_natCast, List.getD_eq_getElem?_getD, List.getElem?_eq_getElem h, Option.getD_some]
theorem homes_len : (homesL ns H).length = (ups ns 0 ns.length).length := by unfold homesL; rw [List.length_map]
theorem homes_at {i : Nat} (hi : i < (homesL ns H).length) : ∃ v, At ns i v ∧ rd_T80 (homesL ns H) (i : Int) = hoS ns H v := by
  have hi2 : i < (ups ns 0 ns.length).length := by rw [← homes_len (H := H)]; exact hi
  refine ⟨(ups ns 0 ns.length)[i], ⟨hi2, rfl⟩, ?_⟩
  rw [rd80 hi]
  simp [homesL]
theorem At.one (h : At ns p u) (h2 : At ns p v) : u = v := by
  obtain ⟨_, rfl⟩ := h
  obtain ⟨_, rfl⟩ := h2
  rfl
theorem At.place (h : At ns p u) (h2 : At ns q u) : p = q := by
  obtain ⟨hp, rfl⟩ := h
  obtain ⟨hq, e⟩ := h2
  have hl := List.pairwise_iff_getElem.1 (ups_lt (ns := ns) ns.length 0)
  rcases Nat.lt_trichotomy p q with c | c | c
  · have := hl p q hp hq c; omega
  · exact c
  · have := hl q p hq hp c; omega
theorem Wd.home (h : Wd ns ls max D H E) (hb : At ns q w) : Ev (fun k => beaconref10_home.f k (idsL ns) (tabsL ns E) (homesL ns H) (rd_T108 ns (w : Int)).f0) (H w).1 := by
  have hq : q < (homesL ns H).length := by rw [homes_len]; exact hb.1
  have okn := h.ok.n
  have hle := ups_le (ns := ns)
  have hl := homes_len (ns := ns) (H := H)
  have loop : ∀ (d i : Nat), q - i = d → i ≤ q → Ev (fun k => beaconref10_home.l0 k (rd_T108 ns (w : Int)).f0 (i : Int) (idsL ns) (tabsL ns E) (homesL ns H)) (H w).1 := by
    intro d
    induction d with
    | zero =>
      intro i hd hi
      obtain rfl : i = q := by omega
      obtain ⟨v, h1, h2⟩ := homes_at hq
      obtain rfl := h1.one hb
      refine Ev.up (G := fun _ => some (H v).1) (fun k => ?_) Ev.const
      simp only [beaconref10_home.l0]
      rw [if_pos (by omega), if_pos (by omega), h2, if_pos (show (hoS ns H v).f0 = (rd_T108 ns (v : Int)).f0 from rfl)]
      rfl
    | succ d ih =>
      intro i hd hi
      obtain ⟨v, h1, h2⟩ := homes_at (H := H) (ns := ns) (i := i) (by omega)
      refine Ev.up (fun k => ?_) (ih (i + 1) (by omega) (by omega))
      simp only [beaconref10_home.l0]
      rw [if_pos (by omega), if_pos (by omega), h2, if_neg (fun e => by
        obtain rfl := h.id_inj h1.up.1 hb.up.1 e
        have := h1.place hb
        omega), wrap_up i (by omega)]
  unfold beaconref10_home.f
  exact loop _ 0 rfl (Nat.zero_le _)
end
end Go.Proofs.Ytgmjlhpigfaicaa.Pure
/- ForwardRoads: the law, over the definitions. -/
namespace Go.Proofs.Ytgmjlhpigfaicaa.Pure
open Go.RowKit Go.Proofs.YtgmjlhpigfaicaaW.PrintWords Go.Proofs.Ytgmjlhpigfaicaa.XR Go.Proofs.Ytgmjlhpigfaicaa.MapW
set_option linter.unusedSimpArgs false
set_option linter.unusedVariables false
section
variable {ns : List S108} {ls : List S117} {max : Nat} {D : Nat → List Nat} {H : Nat → Int × Nat} {E : Nat → Nat → En} {p q u v w m : Nat} {s : Int}
theorem Wd.num (h : Wd ns ls max D H E) (hu : u < ns.length) : num (rd_T108 ns (u : Int)).f0 = true := decide_eq_true (h.id hu)
theorem ls_len : (Ls ns E).length = (ups ns 0 ns.length).length := by unfold Ls; rw [List.length_map]
theorem Wd.check (h : Wd ns ls max D H E) (hu : u < ns.length) : Ev (fun k => table_Check.f k (tab ns u (E u)) false) 0 := by
  have hm := may_ev h.tlen (h.okE hu) (h.asc hu)
  unfold table_Check.f
  exact hm.bind (Ev.yes rfl Ev.const)
theorem Wd.walk (h : Wd ns ls max D H E) (ha : At ns p u) (hb : At ns q w) {R} (hR : Ev (fun k => forward_Walk.l1 k (Ls ns E) (idsL ns) (p : Int) [] 1 (rd_T108 ns (u : Int)).f0 0 (rd_T108 ns (w : Int)).f0 (H w).1 65536 0 0 nob 0 0 nob) R) :
    Ev (fun k => forward_Walk.f k (Ls ns E) 1 (rd_T108 ns (u : Int)).f0 0 (rd_T108 ns (w : Int)).f0 (H w).1 65536 0 0 nob 0 0 nob) R := by
  have okn := h.ok.n
  have hle := ups_le (ns := ns)
  have hl := ls_len (ns := ns) (E := E)
  have hil := ids_len (ns := ns)
  have hh : (H w).1 = 0 ∨ Pure.num (H w).1 = true := by
    rcases h.home_cases hb.up.1 with e | ⟨m, m1, _, _, m4⟩
    · exact .inl e
    · rw [m4]; exact .inr (h.num m1)
  have loop : ∀ (d i : Nat), i + d = (Ls ns E).length → Ev (fun k => forward_Walk.l0 k (Ls ns E) ((idsL ns).take i) (Ls ns E) ((Ls ns E).length : Int) (i : Int) 1 (rd_T108 ns (u : Int)).f0 0 (rd_T108 ns (w : Int)).f0 (H w).1 65536 0 0 nob 0 0 nob) R := by
    intro d
    induction d with
    | zero =>
      intro i hd
      rw [List.take_of_length_le (by omega)]
      refine Ev.up (fun k => by
        simp only [forward_Walk.l0]
        rw [if_neg (by omega)]) ((pmay_ev (h.num ha.up.1) (h.num hb.up.1) hh (by decide)).bind (Ev.yes rfl (hR.of fun k => ?_)))
      rw [h.look ha]
      rfl
    | succ d ih =>
      intro i hd
      have hi : i < (ups ns 0 ns.length).length := by omega
      obtain ⟨v, hv⟩ : ∃ v, At ns i v := ⟨_, hi, rfl⟩
      obtain ⟨hp, e⟩ := hv.lst (E := E)
      obtain ⟨hp2, e2⟩ := hv.id
      have h1 := ih (i + 1) (by omega)
      rw [List.take_succ_eq_append_getElem hp2, e2] at h1
      have hid := h.id hv.up.1
      have hnum := h.num hv.up.1
      have hnot : hasI ((idsL ns).take i) (rd_T108 ns (v : Int)).f0 = false := by
        refine decide_eq_false fun hm => ?_
        obtain ⟨j, hj, e3⟩ := List.getElem_of_mem hm
        rw [List.length_take] at hj
        rw [List.getElem_take, ← e2] at e3
        have := nodup_inj (ids_nd h.ok) (by omega) hp2 e3
        omega
      have ha' : ((idsL ns).take i).length < 17592186044416 := by rw [List.length_take]; omega
      refine Ev.up (fun k => by
        simp only [forward_Walk.l0]
        rw [if_pos (by omega), if_pos (by omega), if_pos (by omega), rd59 _ _ hp, e, lk_f _ _ (by simp only [okKey, Bool.and_eq_true, decide_eq_true_eq]; omega), Option.bind_some]
        simp only [hnot, Bool.false_eq_true, if_false]
        rw [idp_f, hnum, if_pos rfl, Option.bind_some, if_pos rfl, wrap_up i (by omega)]) ((h.check hv.up.1).bind (Ev.yes rfl (Ev.yes ha' h1)))
  unfold forward_Walk.f
  exact loop (Ls ns E).length 0 (by omega)
/-- The law's first loop: the routers and their tables, and w's home. -/
theorem Wd.law_l0 (h : Wd ns ls max D H E) (hb : At ns q w) (a : Int) (road : List Int) (wt : Nat) (ok : Bool) {R}
    (hR : Ev (fun k => beaconlaw19_ForwardRoads.l0 k a (rd_T108 ns (w : Int)).f0 (homesL ns H) (tabsL ns E) (Ls ns E) (H w).1 ((homesL ns H).length : Int) ns ls road wt ok) R) :
    Ev (fun k => beaconlaw19_ForwardRoads.l0 k a (rd_T108 ns (w : Int)).f0 (homesL ns H) (tabsL ns E) [] 0 0 ns ls road wt ok) R := by
  have okn := h.ok.n
  have hle := ups_le (ns := ns)
  have hl := ls_len (ns := ns) (E := E)
  have hhl := homes_len (ns := ns) (H := H)
  have htl : (tabsL ns E).length = (ups ns 0 ns.length).length := by unfold tabsL; rw [List.length_map]
  have hq := hb.1
  have loop : ∀ (d i : Nat), i + d = (homesL ns H).length → Ev (fun k => beaconlaw19_ForwardRoads.l0 k a (rd_T108 ns (w : Int)).f0 (homesL ns H) (tabsL ns E) ((Ls ns E).take i) (if q < i then (H w).1 else 0) (i : Int) ns ls road wt ok) R := by
    intro d
    induction d with
    | zero =>
      intro i hd
      obtain rfl : i = (homesL ns H).length := by omega
      rw [List.take_of_length_le (by omega), if_pos (by omega)]
      exact hR
    | succ d ih =>
      intro i hd
      have h1 := ih (i + 1) (by omega)
      obtain ⟨v, hv, e⟩ := homes_at (ns := ns) (H := H) (i := i) (by omega)
      obtain ⟨hp, e2⟩ := hv.lst (E := E)
      rw [List.take_succ_eq_append_getElem hp, e2] at h1
      have ht : rd_L6 (tabsL ns E) (i : Int) = tab ns v (E v) := by
        rw [rdL6 (by omega)]
        obtain ⟨_, e3⟩ := hv
        subst e3
        simp [tabsL]
      have ha' : ((Ls ns E).take i).length < 3518437208883 := by rw [List.length_take]; omega
      refine Ev.up (fun k => ?_) h1
      simp only [beaconlaw19_ForwardRoads.l0]
      rw [if_pos (by omega), if_pos (by omega), if_pos (by omega), if_pos ha', e, ht, Option.bind_some, wrap_up i (by omega)]
      show (if (rd_T108 ns (v : Int)).f0 = (rd_T108 ns (w : Int)).f0 then _ else _) = _
      by_cases c : v = w
      · subst c
        have := hv.place hb
        rw [if_pos rfl, if_pos (show q < i + 1 by omega)]
        rfl
      · rw [if_neg fun e => c (h.id_inj hv.up.1 hb.up.1 e)]
        have : i ≠ q := fun e => c (by subst e; exact hv.one hb)
        by_cases c2 : q < i
        · rw [if_pos c2, if_pos (show q < i + 1 by omega)]
          rfl
        · rw [if_neg c2, if_neg (show ¬ q < i + 1 by omega)]
          rfl
  exact loop (homesL ns H).length 0 (by omega)
theorem law_l1 (hC : Ev (fun k => beaconref07_Check.f k ns ls) 0) (hA : Ev (fun k => beaconlaw19_awake.f k) true) (way : List Int) (hw : way.length ≤ 4611686018427387904) (wt : Nat) (ok : Bool) :
    Ev (fun k => beaconlaw19_ForwardRoads.j1 k way false ns ls way wt ok) true := by
  have loop : ∀ (d i : Nat), i + d = way.length → Ev (fun k => beaconlaw19_ForwardRoads.l1 k way (i : Int) ns ls way wt ok) true := by
    intro d
    induction d with
    | zero =>
      intro i hd
      exact Ev.up (fun k => by
        simp only [beaconlaw19_ForwardRoads.l1]
        rw [if_neg (by omega)]) (hC.bind (Ev.yes rfl (hA.bind Ev.const)))
    | succ d ih =>
      intro i hd
      refine Ev.up (fun k => ?_) (ih (i + 1) (by omega))
      simp only [beaconlaw19_ForwardRoads.l1]
      rw [if_pos (by omega), if_pos (by omega), if_pos (by omega), if_pos trivial, wrap_up i (by omega)]
  refine Ev.up (fun k => ?_) (loop way.length 0 (by omega))
  simp only [beaconlaw19_ForwardRoads.j1]
  rfl
end
theorem roads_ev (ns : List S108) (ls : List S117) (max : Nat) (a b : Int) (hw : ∀ x ∈ ls, x.f2 < 18446744073709551616) (hmx : max < 18446744073709551616) (hA : Ev (fun k => beaconlaw19_awake.f k) true) :
    Ev (fun k => beaconlaw19_ForwardRoads.f k ns ls max a b) true := by
  -- where nothing is told
  have no : ∀ {e : Int}, e ≠ 0 → Ev (fun k => beaconref10_asked.f k ns ls max a b) e → Ev (fun k => beaconlaw19_ForwardRoads.f k ns ls max a b) true := by
    intro e he h
    have ht : Ev (fun k => beaconref10_Travel.f k ns ls max a b) ([], 0, false, e) := by
      unfold beaconref10_Travel.f
      exact h.bind (Ev.no he Ev.const)
    unfold beaconlaw19_ForwardRoads.f
    exact ht.bind (Ev.no he (hA.bind Ev.const))
  obtain ⟨e, hC, hok⟩ := check_ev ns ls hw
  by_cases c1 : e = 0
  · subst c1
    have ok := hok rfl
    obtain ⟨c, hL, hq⟩ := limit_f hmx
    by_cases c2 : c = 0
    · subst c2
      have hm := hq.1 rfl
      have ck : Ev (fun k => beaconref10_checked.f k ns ls max) 0 := by
        unfold beaconref10_checked.f
        exact hC.bind (Ev.yes rfl (Ev.all fun k => by rw [hL]; rfl))
      obtain ⟨x, hx, hx2⟩ := up10_ev (ls := ls) ok.n a
      obtain ⟨y, hy, hy2⟩ := up10_ev (ls := ls) ok.n b
      cases x with
      | false => exact no (e := 4) (by decide) (by unfold beaconref10_asked.f; exact ck.bind (Ev.yes rfl (hx.bind (Ev.no (by decide) Ev.const))))
      | true =>
        cases y with
        | false => exact no (e := 4) (by decide) (by unfold beaconref10_asked.f; exact ck.bind (Ev.yes rfl (hx.bind (Ev.yes rfl (hy.bind (Ev.no (by decide) Ev.const))))))
        | true =>
          have asq : Ev (fun k => beaconref10_asked.f k ns ls max a b) 0 := by
            unfold beaconref10_asked.f
            exact ck.bind (Ev.yes rfl (hx.bind (Ev.yes rfl (hy.bind (Ev.yes rfl Ev.const)))))
          obtain ⟨u, u1, u2, u3⟩ := hx2 rfl
          obtain ⟨w, w1, w2, w3⟩ := hy2 rfl
          subst u2; subst w2
          obtain ⟨D, H, E, h⟩ := wd_ex ok hC hL hm
          obtain ⟨p, hp⟩ := at_ex u1 u3
          obtain ⟨q, hq⟩ := at_ex w1 w3
          obtain ⟨way, wt, okb, kd, nx, n', l1, l2, l3, l4⟩ := lock_all (s := (rd_T108 ns (u : Int)).f0) h hp hq
          have hT : Ev (fun k => beaconref10_Travel.f k ns ls max (rd_T108 ns (u : Int)).f0 (rd_T108 ns (w : Int)).f0) ([] ++ [(rd_T108 ns (u : Int)).f0] ++ way, wt, okb, 0) := by
            have hr : Ev (fun k => beaconref10_road.f k ns ls (idsL ns) (tabsL ns E) (homesL ns H) (rd_T108 ns (u : Int)).f0 (rd_T108 ns (w : Int)).f0) ([] ++ [(rd_T108 ns (u : Int)).f0] ++ way, wt, okb) := by
              unfold beaconref10_road.f
              exact (h.home hq).bind l1
            unfold beaconref10_Travel.f
            exact asq.bind (Ev.yes rfl (h.of.bind (hr.bind Ev.const)))
          have hW := h.walk hp hq l2
          have last : ([] ++ [(rd_T108 ns (u : Int)).f0] ++ way).length ≤ 4611686018427387904 → Ev (fun k => beaconlaw19_ForwardRoads.l0 k (rd_T108 ns (u : Int)).f0 (rd_T108 ns (w : Int)).f0 (homesL ns H) (tabsL ns E) (Ls ns E) (H w).1 ((homesL ns H).length : Int) ns ls ([] ++ [(rd_T108 ns (u : Int)).f0] ++ way) wt okb) true := by
            intro hlen
            have hj := law_l1 h.hC hA _ hlen wt okb
            refine Ev.up (fun k => by
              simp only [beaconlaw19_ForwardRoads.l0]
              rw [if_neg (by omega)]) (Ev.bind (F := fun _ => beaconlaw19_data.f (rd_T108 ns (u : Int)).f0 (rd_T108 ns (w : Int)).f0 (H w).1 65536) (a := (1, (rd_T108 ns (u : Int)).f0, 0, (rd_T108 ns (w : Int)).f0, (H w).1, 65536, 0, 0, nob, 0, 0, nob)) (Ev.all fun _ => rfl) (hW.bind (Ev.yes rfl (Ev.yes rfl (hj.of fun k => ?_)))))
            have e : ((kd == 1) != okb) = false := by
              cases okb with
              | true => rw [show kd = 1 from l3.2 rfl]; rfl
              | false =>
                have : kd ≠ 1 := fun e => by have := l3.1 e; cases this
                simp [this]
            show beaconlaw19_ForwardRoads.j1 k _ ((kd == 1) != okb) ns ls _ wt okb = _
            rw [e]
            rfl
          have hlen : ([] ++ [(rd_T108 ns (u : Int)).f0] ++ way).length ≤ 4611686018427387904 := by
            simp only [List.nil_append, List.length_append, List.length_cons, List.length_nil]; omega
          unfold beaconlaw19_ForwardRoads.f
          exact hT.bind (Ev.yes rfl (h.homes.bind (h.tables.bind (h.law_l0 hq _ _ _ _ (last hlen)))))
    · refine no c2 ?_
      have ck : Ev (fun k => beaconref10_checked.f k ns ls max) c := by
        unfold beaconref10_checked.f
        exact hC.bind (Ev.yes rfl (Ev.all fun k => by rw [hL]; rfl))
      unfold beaconref10_asked.f
      exact ck.bind (Ev.no c2 Ev.const)
  · refine no c1 ?_
    have ck : Ev (fun k => beaconref10_checked.f k ns ls max) e := by
      unfold beaconref10_checked.f
      exact hC.bind (Ev.no c1 Ev.const)
    unfold beaconref10_asked.f
    exact ck.bind (Ev.no c1 Ev.const)
end Go.Proofs.Ytgmjlhpigfaicaa.Pure
/- ForwardRoads: over the specified tables the specified road. -/
namespace Go.Proofs.Ytgmjlhpigfaicaa.Pure
open Go.RowKit Go.Proofs.YtgmjlhpigfaicaaW.PrintWords Go.Proofs.Ytgmjlhpigfaicaa.XR Go.Proofs.Ytgmjlhpigfaicaa.MapW
theorem ForwardRoads : Go.Proofs.Ytgmjlhpigfaicaa.XR.ForwardRoads.Pure := by
  intro g max p hg hm _
  obtain ⟨n, hn⟩ := roads_ev g.f0 g.f1 max p.f0 p.f1 (fun x hx => (hg.2.2 x hx).2.2.1) hm awake_ev
  exact ⟨n, hn n (Nat.le_refl _)⟩
end Go.Proofs.Ytgmjlhpigfaicaa.Pure
/- The law ForwardRoads answers true at every input that its row speaks of, and leaves its arguments as they were. No further condition. (Written by xprint.py, a program of this session.) -/
namespace Go.Proofs.Ytgmjlhpigfaicaa.forwardRoads
open Go.ChangeShapes Go.WideShapes Go.ChangeAt Go.RowKit Go.Proofs.YtgmjlhpigfaicaaW.PrintWords Go.Proofs.Ytgmjlhpigfaicaa.XR Go.Proofs.Ytgmjlhpigfaicaa.XR.ForwardRoads
open Go.ChangeMaps (open_string shut_string)
set_option linter.unusedVariables false
theorem own : ownKnob Try.prog.godebug = none := by kernel_rfl
theorem laidOut : laidOutB Try.prog = true := by kernel_rfl
set_option maxRecDepth 100000 in
theorem lifted (os : Os) (started : os.Started) (H : Type) (enc : TypeId × Value → H) :
    ReturnsInHanded {} Try.checked os 11 .any (Rows.forwardRoadsSpec.pre6 enc Try.prog Try.f11 Rows.forwardRoadsRow.domain false) (Rows.forwardRoadsSpec.post enc Try.prog Try.f11 false true false false) := by
  refine returnsInHanded_of_change_sized (C := Try.checked) own started (by kernel_rfl) Try.func11
    (ChangeSpec.witness6 (enc := enc) (C := Try.checked) false ⟨#[], #[.agg #[.slice none 0 0, .slice none 0 0], .float .f64 0, .agg #[.int .i64 0, .int .i64 0]], []⟩ 8 (by kernel_rfl) (by kernel_rfl) (by kernel_rfl) (by kernel_rfl)) ?_
  intro W base args ds gs before hval0 hW hcnd hsz0 _
  have hsz : (DataW.weightsEach Try.prog (Try.f11.params.toList ++ Rows.forwardRoadsSpec.plain.varTypes Try.prog) (ds ++ gs)).all (· ≤ reachBytes) = true := hsz0
  have hval : ∀ (j : Nat) t v, Try.f11.params[j]? = some t → args[j]? = some v → Value.okWide Try.prog W .any base t v := hval0
  have hW' := hW
  obtain ⟨p, q, hA0, hV, rfl, hfz, hnd⟩ := hW
  have hA : DataW.TrodAll enc Try.prog W 0 (fun _ => true) true Try.f11.params.toList args.toList ds p := hA0
  rw [Try.params11] at hA hval hsz
  obtain ⟨v0, vs0, d0, ds0, p0, q0, hargs, rfl, rfl, h0, r0⟩ := trodAll_cons hA
  obtain ⟨v1, vs1, d1, ds1, p1, q1, rfl, rfl, rfl, h1, r1⟩ := trodAll_cons r0
  obtain ⟨v2, vs2, d2, ds2, p2, q2, rfl, rfl, rfl, h2, r2⟩ := trodAll_cons r1
  obtain ⟨rfl, rfl, rfl⟩ := trodAll_nil r2
  obtain rfl : args = #[v0, v1, v2] := by cases args; simp_all
  obtain ⟨rfl, rfl⟩ := trodVars_none hV
  have kk0 := h0
  have lt0 : ∀ x ∈ p0, x.block < W.heap.size := by obtain ⟨m, hm⟩ := kk0; exact DataW.trod_lt m _ _ _ hm
  obtain ⟨a0, hK0, hG0⟩ : ∃ a, (k67).K W a v0.cells.toList ∧ (G67 a) := by
    obtain ⟨m, hm⟩ := kk0
    exact (opens67).opn enc W 0 true m _ _ hm (fun n hn => by have := List.all_eq_true.1 hsz _ (DataW.weights_mem_each (j := 0) (t := 67) rfl rfl n hn); exact (of_decide_eq_true this : n ≤ reachBytes))
  obtain ⟨cs0, rfl, hcs0⟩ := open_cells Try.underlying67 (hval 0 67 v0 rfl rfl)
  rw [hcs0] at hK0
  obtain ⟨A0_0, c0_0, A0_1, c0_1, rfl, l0_0, g0_0, l0_1, g0_1⟩ := k67_open hK0
  have kk1 := h1
  have lt1 : ∀ x ∈ p1, x.block < W.heap.size := by obtain ⟨m, hm⟩ := kk1; exact DataW.trod_lt m _ _ _ hm
  obtain ⟨a1, hK1, hG1⟩ : ∃ a, (Kd.float64).K W a v1.cells.toList ∧ (a < 18446744073709551616) := by
    obtain ⟨m, hm⟩ := kk1
    exact ((Opens.float Try.underlying37 (by kernel_rfl))).opn enc W 0 true m _ _ hm (fun n hn => by have := List.all_eq_true.1 hsz _ (DataW.weights_mem_each (j := 1) (t := 37) rfl rfl n hn); exact (of_decide_eq_true this : n ≤ reachBytes))
  obtain ⟨b1, rfl⟩ := okWide_float Try.underlying37 (hval 1 37 v1 rfl rfl)
  obtain rfl : a1 = b1 := by have he : [(.float .f64 b1 : Value)] = [.float .f64 a1] := hK1; simpa using he.symm
  have kk2 := h2
  have lt2 : ∀ x ∈ p2, x.block < W.heap.size := by obtain ⟨m, hm⟩ := kk2; exact DataW.trod_lt m _ _ _ hm
  obtain ⟨a2, hK2, hG2⟩ : ∃ a, (k69).K W a v2.cells.toList ∧ (G69 a) := by
    obtain ⟨m, hm⟩ := kk2
    exact (opens69).opn enc W 0 true m _ _ hm (fun n hn => by have := List.all_eq_true.1 hsz _ (DataW.weights_mem_each (j := 2) (t := 69) rfl rfl n hn); exact (of_decide_eq_true this : n ≤ reachBytes))
  obtain ⟨cs2, rfl, hcs2⟩ := open_cells Try.underlying69 (hval 2 69 v2 rfl rfl)
  rw [hcs2] at hK2
  obtain rfl := k69_open hK2
  clear hA0 hval0 hsz0 hsz
  obtain ⟨k, hP⟩ := Pure.ForwardRoads a0 a1 a2 hG0 hG1 hG2
  refine (Go.Proofs.Ytgmjlhpigfaicaa.XR.beaconlaw19_ForwardRoads.calls k _ _ (a0.f0) _ _ (a0.f1) a1 (a2.f0) (a2.f1) true W g0_0 l0_0 g0_1 l0_1 hP rfl).mono fun e W' hE => ?_
  obtain ⟨he, hd⟩ := hE
  have bel : Below W.heap.size W W' := hd
  subst he
  exact ⟨_, rfl, _, _, _, [], _, [], hW', trodAll_mk1 (shut_bool Try.underlying4 _), (trodAll_cons_mk (Below.trod laidOut (by kernel_rfl) (of_decide_eq_true (by kernel_rfl)) kk0 bel lt0) (trodAll_cons_mk (Below.trod laidOut (by kernel_rfl) (of_decide_eq_true (by kernel_rfl)) kk1 bel lt1) (trodAll_cons_mk (Below.trod laidOut (by kernel_rfl) (of_decide_eq_true (by kernel_rfl)) kk2 bel lt2) trodAll_mk0))), rfl, bel.frame _, fun h => by cases h⟩
theorem over : Rows.forwardRoadsRow.holds Try.pinned (OpenSpec.ofChange Rows.forwardRoadsSpec) :=
  OpenClaim.holds_of_wide 11 Try.f11 rfl rfl rfl rfl rfl rfl rfl ⟨rfl, rfl, rfl, rfl, rfl⟩ rfl rfl rfl rfl rfl (by kernel_rfl) Try.func11 (by kernel_rfl)
    (of_decide_eq_true (by kernel_rfl)) (by unfold Func.isWrapper; first | (rw [if_pos (by decide +kernel)]; kernel_rfl) | (rw [if_neg (by decide +kernel)]; exact ⟨rfl, rfl⟩))
    (fun os started H enc _ => lifted os started H enc)
theorem proved : Rows.ForwardRoadsSaid := over
end Go.Proofs.Ytgmjlhpigfaicaa.forwardRoads
namespace Go.Proofs.Ytgmjlhpigfaicaa
/-- The row, under a short name, for the claim. -/
theorem forwardRoads_holds : Rows.ForwardRoadsSaid := forwardRoads.proved
end Go.Proofs.Ytgmjlhpigfaicaa
