/- The remainder of a whole number by two, as math.Mod takes it: powers of two are taken off from above. -/
import Derived.Test.YtajejidnidomgaaXRx
import Derived.Test.YtajejidnidomgaaRK
namespace Go.Proofs.Ytajejidnidomgaa.RA
open Go.RowKit Go.Proofs.YtajejidnidomgaaW.PrintWords Go.Proofs.Ytajejidnidomgaa.XR

theorem wrapu (n : Int) : IntKind.u64.wrap n = n % 18446744073709551616 := by simp [IntKind.wrap, IntKind.bits, IntKind.signed]
theorem and_top {r : Nat} (hr : r < 2 ^ 63) : r &&& 2 ^ 63 = 0 := by
  refine Nat.eq_of_testBit_eq fun i => ?_
  rw [Nat.testBit_and, Nat.testBit_two_pow, Nat.zero_testBit]
  by_cases h : 63 = i
  · subst h
    rw [Nat.testBit_lt_two_pow hr]; rfl
  · simp [h]
theorem frac_bits {r : Nat} (hr : r < 9218868437227405312) : Go.bits .andNot .u64 (fbits r) 9218868437227405312 = ((r % 4503599627370496 : Nat) : Int) := by
  unfold fbits Go.bits
  have h1 : ~~~(BitVec.ofInt IntKind.u64.bits 9218868437227405312) = BitVec.ofNat IntKind.u64.bits 9227875636482146303 := by decide
  simp only [h1, BitVec.toNat_and, BitVec.toNat_ofNat, BitVec.ofInt_natCast]
  have h2 : (2 : Nat) ^ IntKind.u64.bits = 18446744073709551616 := by decide
  rw [h2, Nat.mod_eq_of_lt (by omega)]
  have h3 : 9227875636482146303 % 18446744073709551616 = 2 ^ 63 ||| (2 ^ 52 - 1) := by decide
  rw [h3, Nat.and_or_distrib_left, Nat.and_two_pow_sub_one_eq_mod, and_top (Nat.lt_of_lt_of_le hr (by decide)), Nat.zero_or, wrapu]
  have h4 : (2 : Nat) ^ 52 = 4503599627370496 := by decide
  rw [h4]
  omega
theorem half_bits {m : Nat} (hm : m < 4503599627370496) : ffrom (Go.bits .or .u64 (m : Int) 4602678819172646912) = 4602678819172646912 + m := by
  unfold ffrom Go.bits
  have h1 : BitVec.ofInt IntKind.u64.bits 4602678819172646912 = BitVec.ofNat IntKind.u64.bits 4602678819172646912 := by decide
  simp only [h1, BitVec.toNat_or, BitVec.toNat_ofNat, BitVec.ofInt_natCast]
  have h2 : (2 : Nat) ^ IntKind.u64.bits = 18446744073709551616 := by decide
  rw [h2, Nat.mod_eq_of_lt (a := m) (by omega)]
  have h3 : 4602678819172646912 % 18446744073709551616 = 2 ^ 52 * 1022 := by decide
  have h4 : m < 2 ^ 52 := Nat.lt_of_lt_of_le hm (by decide)
  rw [h3, Nat.or_comm, ← Nat.two_pow_add_eq_or_of_lt h4, wrapu]
  have h5 : (2 : Nat) ^ 52 * 1022 = 4602678819172646912 := by decide
  rw [h5]
  omega
theorem exp_bits {q : Nat} (hq : q < 2048) : Go.bits .and .u64 (q : Int) 2047 = q := by
  unfold Go.bits
  have h1 : BitVec.ofInt IntKind.u64.bits 2047 = BitVec.ofNat IntKind.u64.bits 2047 := by decide
  simp only [h1, BitVec.toNat_and, BitVec.toNat_ofNat, BitVec.ofInt_natCast]
  have h2 : (2 : Nat) ^ IntKind.u64.bits = 18446744073709551616 := by decide
  rw [h2, Nat.mod_eq_of_lt (a := q) (by omega)]
  have h3 : 2047 % 18446744073709551616 = 2 ^ 11 - 1 := by decide
  rw [h3, Nat.and_two_pow_sub_one_eq_mod, wrapu]
  have h4 : (2 : Nat) ^ 11 = 2048 := by decide
  rw [h4]
  omega
theorem frexp_f {k r : Nat} (h1 : 4503599627370496 ≤ r) (h2 : r < 9218868437227405312) : math_Frexp.f (k + 1) r = some (4602678819172646912 + r % 4503599627370496, ((r / 4503599627370496 : Nat) : Int) - 1022) := by
  unfold math_Frexp.f math_frexp.f
  rw [feq_pos (by omega) (by omega), if_neg (by simp; omega), isInf_f (by omega), Option.bind_some, if_neg (by simp; omega), isNaN_f (by omega), Option.bind_some]
  have d1 : decide (9218868437227405312 < r % 9223372036854775808) = false := by simp; omega
  rw [d1, math_frexp.j0, if_neg (by decide)]
  unfold math_normalize.f
  rw [abs_f (by omega), Option.bind_some, flt_pos (by omega) (by omega), if_neg (by simp; omega), Option.bind_some]
  simp only
  rw [frac_bits h2, half_bits (by omega)]
  have h3 : fbits r / 4503599627370496 = ((r / 4503599627370496 : Nat) : Int) := by unfold fbits; omega
  rw [h3, exp_bits (by omega), Option.bind_some]
  congr 2
  unfold wrap64
  omega
theorem ldexp_all : ∀ E : Fin 24, math_Ldexp.f 4611686018427387904 (E.val : Int) = some ((E.val + 1024) * 4503599627370496) := by decide +kernel
theorem ldexp_f {E : Int} (h0 : 0 ≤ E) (h1 : E < 24) : math_Ldexp.f 4611686018427387904 E = some ((E.toNat + 1024) * 4503599627370496) := by
  have := ldexp_all ⟨E.toNat, by omega⟩
  simp only at this
  rw [show ((E.toNat : Nat) : Int) = E from by omega] at this
  exact this
theorem va_two : va 4611686018427387904 = 2 * U 1074 := by
  have := read_pow_val (c := 4611686018427387904) (s := 1) (by omega)
  rw [U1] at this
  omega
/-- A whole number's float, taken apart. -/
theorem nat_parts {j : Nat} (h1 : 2 ≤ j) (h2 : j < 8388608) : ∃ s : Nat, 1 ≤ s ∧ s ≤ 22 ∧ 2 ^ s ≤ j ∧ fofint (j : Int) / 4503599627370496 = 1023 + s ∧ va ((1023 + s) * 4503599627370496) = 2 ^ s * U 1074 := by
  have h2l : 2 ^ j.log2 ≤ j := Nat.log2_self_le (by omega)
  have h2u : j < 2 ^ (j.log2 + 1) := Nat.lt_log2_self
  have hs1 : 1 ≤ j.log2 := by
    rcases Nat.eq_zero_or_pos j.log2 with h | h
    · rw [h] at h2u; omega
    · exact h
  have hs2 : j.log2 ≤ 22 := by
    rcases Nat.lt_or_ge 22 j.log2 with h | h
    · have : 2 ^ 23 ≤ 2 ^ j.log2 := Nat.pow_le_pow_right (by decide) h
      have h3 : (2 : Nat) ^ 23 = 8388608 := by decide
      omega
    · exact h
  generalize j.log2 = s at *
  have hv : ∀ s, va ((1023 + s) * 4503599627370496) = 2 ^ s * U 1074 := fun s => by
    have := read_pow_val (c := (1023 + s) * 4503599627370496) (s := s) (by omega)
    rw [this, U_pow, Nat.mul_comm]
  obtain ⟨f1, f2⟩ := fofint_val (n := j) (by omega)
  have g1 : (1023 + s) * 4503599627370496 ≤ fofint (j : Int) := le_of_va (by rw [hv, f1]; exact Nat.mul_le_mul_right _ h2l)
  have g2 : fofint (j : Int) < (1023 + (s + 1)) * 4503599627370496 := lt_of_va (by rw [hv, f1]; exact Nat.mul_lt_mul_of_pos_right h2u (U_pos _))
  exact ⟨s, hs1, hs2, h2l, by omega, hv s⟩
theorem fofint_lt {j : Nat} (h : j < 2) : fofint (j : Int) < 4611686018427387904 := by
  obtain ⟨f1, f2⟩ := fofint_val (n := j) (by omega)
  exact lt_of_va (by rw [va_two, f1]; exact Nat.mul_lt_mul_of_pos_right h (U_pos _))
theorem fofint_ge {j : Nat} (h : 2 ≤ j) (h2 : j < 8388608) : 4611686018427387904 ≤ fofint (j : Int) := by
  obtain ⟨f1, f2⟩ := fofint_val (n := j) (by omega)
  exact le_of_va (by rw [va_two, f1]; exact Nat.mul_le_mul_right _ h)
theorem mod_l {x : Nat} (hx : x ≤ 9218868437227405312) : ∀ (b j k : Nat), j ≤ b → j < 8388608 → b + 2 ≤ k → math_mod.l0 k x 4611686018427387904 4602678819172646912 2 (fofint (j : Int)) = some (fofint ((j % 2 : Nat) : Int)) := by
  intro b
  induction b with
  | zero =>
    intro j k hj _ hk
    obtain ⟨k, rfl⟩ : ∃ q, k = q + 1 := ⟨k - 1, by omega⟩
    have h0 : j = 0 := by omega
    subst h0
    have := fofint_lt (j := 0) (by omega)
    rw [math_mod.l0, fle_pos (by omega) (by omega), if_neg (by simp; omega), flt_pos hx (by omega), if_neg (by simp)]
  | succ b ih =>
    intro j k hj hj2 hk
    obtain ⟨k, rfl⟩ : ∃ q, k = q + 1 + 1 := ⟨k - 2, by omega⟩
    by_cases h : j < 2
    · have := fofint_lt h
      rw [math_mod.l0, fle_pos (by omega) (by omega), if_neg (by simp; omega), flt_pos hx (by omega), if_neg (by simp), Nat.mod_eq_of_lt h]
    · have hge := fofint_ge (j := j) (by omega) hj2
      obtain ⟨f1, f2⟩ := fofint_val (n := j) (by omega)
      obtain ⟨s, s1, s2, s3, s4, s5⟩ := nat_parts (j := j) (by omega) hj2
      rw [math_mod.l0, fle_pos (by omega) (by omega), if_pos (by simpa using hge), frexp_f (by omega) f2, Option.bind_some, s4]
      simp only
      rw [flt_pos (by omega) (by omega), if_neg (by simp)]
      have hE : wrap64 (((1023 + s : Nat) : Int) - 1022 - 2) = (s : Int) - 1 := by unfold wrap64; omega
      rw [hE, ldexp_f (by omega) (by omega), Option.bind_some]
      have hT : (((s : Int) - 1).toNat + 1024) * 4503599627370496 = (1023 + s) * 4503599627370496 := by
        have : ((s : Int) - 1).toNat + 1024 = 1023 + s := by omega
        rw [this]
      rw [hT]
      have hle : (1023 + s) * 4503599627370496 ≤ fofint (j : Int) := by omega
      obtain ⟨d, d1, _, d2, _, _, _, _, d3, d4⟩ := fsub_spec f2 (b := (1023 + s) * 4503599627370496) (by omega) hle
      obtain ⟨e1, e2⟩ := fofint_val (n := j - 2 ^ s) (Nat.lt_of_le_of_lt (Nat.sub_le _ _) (by omega))
      have hd : fsub (fofint (j : Int)) ((1023 + s) * 4503599627370496) = fofint ((j - 2 ^ s : Nat) : Int) := by
        have hv : va (fofint (j : Int)) - va ((1023 + s) * 4503599627370496) = va (fofint ((j - 2 ^ s : Nat) : Int)) := by rw [f1, s5, e1, Nat.sub_mul]
        have p1 := d3 (fofint ((j - 2 ^ s : Nat) : Int)) (by rw [hv]; exact Nat.le_refl _)
        have p2 := d4 (fofint ((j - 2 ^ s : Nat) : Int)) (by omega) (by rw [hv]; exact Nat.le_refl _)
        rw [d2]; omega
      rw [d1, if_pos rfl, hd]
      obtain ⟨c, hc⟩ : ∃ c, 2 ^ s = 2 * c := ⟨2 ^ (s - 1), by rw [← Nat.pow_succ', Nat.succ_eq_add_one, Nat.sub_add_cancel s1]⟩
      have hc0 : 0 < 2 ^ s := Nat.two_pow_pos s
      generalize 2 ^ s = g at *
      rw [ih (j - g) (k + 1) (by omega) (by omega) (by omega)]
      congr 3
      omega
theorem mod_f {j k : Nat} (hj : j < 8388608) (hk : 8388620 ≤ k) : math_Mod.f k (fofint (j : Int)) 4611686018427387904 = some (fofint ((j % 2 : Nat) : Int)) := by
  obtain ⟨k, rfl⟩ : ∃ q, k = q + 1 + 1 + 1 := ⟨k - 3, by omega⟩
  obtain ⟨f1, f2⟩ := fofint_val (n := j) (by omega)
  unfold math_Mod.f math_mod.f
  rw [feq_pos (by omega) (by omega), if_neg (by decide), isInf_f (by omega), Option.bind_some, if_neg (by simp; omega), isNaN_f (by omega), Option.bind_some, if_neg (by simp; omega), isNaN_f (by omega), Option.bind_some]
  have d1 : decide (9218868437227405312 < 4611686018427387904 % 9223372036854775808) = false := by decide
  rw [d1, math_mod.j0, if_neg (by decide), abs_f (by omega), Option.bind_some]
  have h2 : 4611686018427387904 % 9223372036854775808 = 4611686018427387904 := by decide
  rw [h2, frexp_f (by omega) (by omega), Option.bind_some, flt_pos (by omega) (by omega), if_neg (by simp)]
  have h3 : 4602678819172646912 + 4611686018427387904 % 4503599627370496 = 4602678819172646912 := by decide
  have h4 : (((4611686018427387904 / 4503599627370496 : Nat)) : Int) - 1022 = 2 := by decide
  simp only
  rw [h3, h4, math_mod.j1, mod_l (by omega) j j (k + 1) (Nat.le_refl _) hj (by omega)]
  rfl
end Go.Proofs.Ytajejidnidomgaa.RA
