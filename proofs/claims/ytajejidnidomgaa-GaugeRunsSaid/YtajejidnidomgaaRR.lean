/- Round: the reference's, by floor and remainder, gives what the program's, by rounding to even, gives. -/
import Derived.Test.YtajejidnidomgaaRM
namespace Go.Proofs.Ytajejidnidomgaa.RA
open Go.RowKit Go.Proofs.YtajejidnidomgaaW.PrintWords Go.Proofs.Ytajejidnidomgaa.XR

theorem va_inj {a b : Nat} (h : va a = va b) : a = b := by
  have p1 := le_of_va (r := a) (s := b) (by rw [h]; exact Nat.le_refl _)
  have p2 := le_of_va (r := b) (s := a) (by rw [h]; exact Nat.le_refl _)
  omega
theorem sub_exact {a b k t : Nat} (ha : a < 9218868437227405312) (hb : b ≤ a) (hk : va a = va b + k * U t) (hk2 : k < 9007199254740992) (ht : 52 ≤ t) : fsubOk a b = true ∧ va (fsub a b) = k * U t ∧ fsub a b < 9218868437227405312 := by
  obtain ⟨d, d1, _, d2, _, _, _, d5, d3, d4⟩ := fsub_spec ha (b := b) (by omega) hb
  obtain ⟨r, hr⟩ := rep k t hk2 ht
  have hv : va a - va b = va r := by rw [hr]; omega
  have p1 := d3 r (by rw [hv]; exact Nat.le_refl _)
  have hra : r ≤ a := le_of_va (by rw [hr]; omega)
  have p2 := d4 r (by omega) (by rw [hv]; exact Nat.le_refl _)
  have hd : fsub a b = r := by omega
  rw [hd]
  exact ⟨d1, hr, by omega⟩
theorem flt_va {a b : Nat} (ha : a < 9218868437227405312) (hb : b < 9218868437227405312) : (flt a b = true) ↔ va a < va b := by
  rw [flt_pos (by omega) (by omega), decide_eq_true_iff]
  exact ⟨va_lt, lt_of_va⟩
theorem feq_va {a b : Nat} (ha : a < 9218868437227405312) (hb : b < 9218868437227405312) : (feq a b = true) ↔ va a = va b := by
  rw [feq_pos (by omega) (by omega), decide_eq_true_iff]
  exact ⟨fun h => by rw [h], va_inj⟩
/-- The reference's middle case. -/
theorem ref_mid {x : Nat} (h1 : 4607182418800017408 ≤ x) (h2 : x ≤ 4697254411347427328) : ∃ n L H : Nat, 4 ≤ n ∧ n ≤ 4194304 ∧ fround .down (x + 2 * 4503599627370496) = fofint (n : Int) ∧
    n * U 1074 ≤ va (x + 2 * 4503599627370496) ∧ va (x + 2 * 4503599627370496) < (n + 1) * U 1074 ∧
    fdivOk (fofint (n : Int)) 4616189618054758400 = true ∧ fdiv (fofint (n : Int)) 4616189618054758400 = L ∧ L + 2 * 4503599627370496 = fofint (n : Int) ∧ L ≤ x ∧
    faddOk L 4598175219545276416 = true ∧ fadd L 4598175219545276416 = H ∧ H + 2 * 4503599627370496 = fofint ((n + 1 : Nat) : Int) ∧
    fsubOk x L = true ∧ fsubOk H x = true ∧ (flt (fsub H x) (fsub x L) = true ↔ (2 * n + 1) * U 1074 < 2 * va (x + 2 * 4503599627370496)) ∧
    (feq (fsub x L) (fsub H x) = true ↔ 2 * va (x + 2 * 4503599627370496) = (2 * n + 1) * U 1074) ∧ fmulOk L 4616189618054758400 = true ∧ fmul L 4616189618054758400 = fofint (n : Int) := by
  obtain ⟨_, ⟨n, _, hn, c1, c2⟩, _⟩ := fround_spec (x := x + 2 * 4503599627370496) (by omega)
  have hU := U_pos 1074
  have hb := va_22 (a := x) h1 h2
  have hl : 4 * U 1074 ≤ va (x + 2 * 4503599627370496) := by
    rw [← va_four]; exact va_le (by omega)
  have e1 : 4 ≤ n := by
    have h3 : 4 * U 1074 < (n + 1) * U 1074 := by omega
    have := Nat.lt_of_mul_lt_mul_right h3
    omega
  have e2 : n ≤ 4194304 := Nat.le_of_mul_le_mul_right (Nat.le_trans c1 hb) hU
  obtain ⟨f1, f2⟩ := fofint_val (n := n) (by omega)
  obtain ⟨g1, g2⟩ := fofint_val (n := n + 1) (by omega)
  have l1 : 4616189618054758400 ≤ fofint (n : Int) := le_of_va (by rw [va_four, f1]; exact Nat.mul_le_mul_right _ e1)
  have l2 : 4616189618054758400 ≤ fofint ((n + 1 : Nat) : Int) := le_of_va (by rw [va_four, g1]; exact Nat.mul_le_mul_right _ (by omega))
  obtain ⟨d1, d2⟩ := fdiv_two (a := fofint (n : Int)) (c := 4616189618054758400) (s := 2) read_four (by omega) (by omega) f2
  obtain ⟨L, hL⟩ : ∃ L, L + 2 * 4503599627370496 = fofint (n : Int) := ⟨fofint (n : Int) - 2 * 4503599627370496, by omega⟩
  obtain ⟨H, hH⟩ : ∃ H, H + 2 * 4503599627370496 = fofint ((n + 1 : Nat) : Int) := ⟨fofint ((n + 1 : Nat) : Int) - 2 * 4503599627370496, by omega⟩
  have dL : fdiv (fofint (n : Int)) 4616189618054758400 = L := by omega
  have u2 : U 1074 = 4 * U 1072 := by have := U_add 2 1072; rw [U2] at this; exact this
  have vL : va L = n * U 1072 := by
    have := va_up (a := L) 2 (by omega)
    rw [hL, f1, U2, u2] at this
    have h4 : n * (4 * U 1072) = 4 * (n * U 1072) := by ac_rfl
    omega
  have vH : va H = (n + 1) * U 1072 := by
    have := va_up (a := H) 2 (by omega)
    rw [hH, g1, U2, u2] at this
    have h4 : (n + 1) * (4 * U 1072) = 4 * ((n + 1) * U 1072) := by ac_rfl
    omega
  have vx := va_up (a := x) 2 (by omega)
  rw [U2] at vx
  have hLx : L ≤ x := le_of_va (by
    rw [vL]
    rw [u2] at c1
    have h4 : n * (4 * U 1072) = 4 * (n * U 1072) := by ac_rfl
    omega)
  have hxH : x ≤ H := le_of_va (by
    rw [vH]
    rw [u2] at c2
    have h4 : (n + 1) * (4 * U 1072) = 4 * ((n + 1) * U 1072) := by ac_rfl
    omega)
  have hHf : H < 9218868437227405312 := by omega
  have a1 := (fadd_ok (a := L) (b := 4598175219545276416) (by omega) (by omega)).1
  have a2 : fadd L 4598175219545276416 = H := by
    have hv : va L + va 4598175219545276416 = va H := by rw [vL, vH, k14, Nat.add_mul, Nat.one_mul]
    have p1 := fadd_le (a := L) (b := 4598175219545276416) (r := H) (by omega) (by omega) (by rw [hv]; exact Nat.le_refl _)
    have p2 := le_fadd (a := L) (b := 4598175219545276416) (r := H) (by omega) (by omega) (by omega) (by rw [hv]; exact Nat.le_refl _)
    omega
  obtain ⟨q, m, hm, x1, x2⟩ := va_split x (by omega)
  rw [U_pow] at x2
  have hq1 : 1022 ≤ q := by omega
  have hq2 : q ≤ 1042 := by omega
  have uq : U 1072 = U (1072 - q) * U q := by rw [← U_add]; congr 1; omega
  have u50 : U (1072 - q) ≤ U 50 := U_le (by omega)
  rw [U50] at u50
  have w1 : n * U (1072 - q) ≤ 4503599627370496 + m := by
    have := va_le hLx
    rw [vL, x2, uq, ← Nat.mul_assoc] at this
    exact Nat.le_of_mul_le_mul_right this (U_pos _)
  have w2 : 4503599627370496 + m ≤ (n + 1) * U (1072 - q) := by
    have := va_le hxH
    rw [vH, x2, uq, ← Nat.mul_assoc] at this
    exact Nat.le_of_mul_le_mul_right this (U_pos _)
  rw [Nat.add_mul, Nat.one_mul] at w2
  obtain ⟨s1, s2, s3⟩ := sub_exact (a := x) (b := L) (k := 4503599627370496 + m - n * U (1072 - q)) (t := q) (by omega) hLx (by
    rw [vL, uq, ← Nat.mul_assoc, ← Nat.add_mul, x2]
    congr 1
    omega) (by omega) (by omega)
  obtain ⟨t1, t2, t3⟩ := sub_exact (a := H) (b := x) (k := (n + 1) * U (1072 - q) - (4503599627370496 + m)) (t := q) (by omega) hxH (by
    rw [vH, uq, ← Nat.mul_assoc, x2, ← Nat.add_mul]
    congr 1
    rw [Nat.add_mul, Nat.one_mul]
    omega) (by rw [Nat.add_mul, Nat.one_mul]; omega) (by omega)
  have y1 : va (fsub x L) + n * U 1072 = va x := by
    rw [s2, uq, ← Nat.mul_assoc, ← Nat.add_mul, x2]
    congr 1
    omega
  have y2 : va (fsub H x) + va x = (n + 1) * U 1072 := by
    rw [t2, uq, ← Nat.mul_assoc, x2, ← Nat.add_mul]
    congr 1
    rw [Nat.add_mul, Nat.one_mul]
    omega
  have z1 : (2 * n + 1) * U 1074 = 8 * (n * U 1072) + 4 * U 1072 := by
    rw [u2, Nat.add_mul, Nat.one_mul]
    have : 2 * n * (4 * U 1072) = 8 * (n * U 1072) := by
      have e8 : 2 * n * (4 * U 1072) = (2 * 4) * (n * U 1072) := by ac_rfl
      exact e8
    omega
  rw [Nat.add_mul, Nat.one_mul] at y2
  obtain ⟨m1, m2⟩ := fmul_two (a := L) (c := 4616189618054758400) (s := 2) (by omega) (by omega) (by omega) (by omega) (by omega)
  refine ⟨n, L, H, e1, e2, hn, c1, c2, d1, dL, hL, hLx, a1, a2, hH, s1, t1, ?_, ?_, m1, by rw [m2]; exact hL⟩
  · rw [flt_va t3 s3, z1, vx]; omega
  · rw [feq_va s3 t3, z1, vx]; omega
theorem rd_ref {x n e : Nat} (c1 : n * U 1074 ≤ x) (c2 : x < (n + 1) * U 1074) (d1 : 2 * e * U 1074 ≤ 2 * x + U 1074) (d2 : 2 * x ≤ (2 * e + 1) * U 1074) (d3 : 2 * x = (2 * e + 1) * U 1074 → e % 2 = 0) (d4 : 2 * e * U 1074 = 2 * x + U 1074 → e % 2 = 0) :
    ((2 * n + 1) * U 1074 < 2 * x → e = n + 1) ∧ (2 * x < (2 * n + 1) * U 1074 → e = n) ∧ (2 * x = (2 * n + 1) * U 1074 → n % 2 = 1 → e = n + 1) ∧ (2 * x = (2 * n + 1) * U 1074 → n % 2 = 0 → e = n) := by
  have hz := U_pos 1074
  generalize U 1074 = z at *
  have x1 : (2 * e + 1) * z = 2 * (e * z) + z := by rw [Nat.add_mul, Nat.one_mul, Nat.mul_assoc]
  have x2 : 2 * e * z = 2 * (e * z) := Nat.mul_assoc _ _ _
  have x3 : (2 * n + 1) * z = 2 * (n * z) + z := by rw [Nat.add_mul, Nat.one_mul, Nat.mul_assoc]
  have x4 : (n + 1) * z = n * z + z := by rw [Nat.add_mul, Nat.one_mul]
  rw [x1] at d2 d3
  rw [x2] at d1 d4
  rw [x4] at c2
  rw [x3]
  have k1 : n ≤ e := by
    rcases Nat.lt_or_ge e n with h | h
    · have := Nat.mul_le_mul_right z (show e + 1 ≤ n from h)
      rw [Nat.add_mul, Nat.one_mul] at this
      omega
    · exact h
  have k2 : e ≤ n + 1 := by
    rcases Nat.lt_or_ge (n + 1) e with h | h
    · have := Nat.mul_le_mul_right z (show n + 1 + 1 ≤ e from h)
      rw [Nat.add_mul, Nat.one_mul, x4] at this
      omega
    · exact h
  rcases Nat.lt_or_eq_of_le k1 with h | h
  · have he : e = n + 1 := by omega
    subst he
    rw [x4] at *
    refine ⟨fun _ => rfl, fun hh => by omega, fun _ _ => rfl, fun hh h2 => ?_⟩
    have := d4 (by omega)
    omega
  · subst h
    refine ⟨fun hh => by omega, fun _ => rfl, fun hh h2 => ?_, fun _ _ => rfl⟩
    have := d3 (by omega)
    omega
theorem rround_f {k x : Nat} (hx : x ≤ 9218868437227405312) (hk : 8388620 ≤ k) : beaconref01_Round.f k x = some (Rd x, 0) := by
  unfold beaconref01_Round.f
  have d0 : decide (9218868437227405312 < x % 9223372036854775808) = false := by simp; omega
  rw [rnan_f (by omega), Option.bind_some, d0, if_neg (by decide), flt_pos hx (by omega), flt_pos (by omega) hx]
  by_cases h1 : x < 4607182418800017408
  · rw [if_pos (by simpa using h1)]
    unfold Rd
    rw [if_pos (by omega)]
  · rw [if_neg (by simpa using h1)]
    by_cases h2 : 4697254411347427328 < x
    · rw [if_pos (by simpa using h2)]
      unfold Rd
      rw [if_neg (by omega), if_pos (by omega)]
    · rw [if_neg (by simpa using h2)]
      obtain ⟨q1, q2, q3, _, _⟩ := quarters (a := x) (by omega) (by omega)
      obtain ⟨n, L, H, n1, n2, r1, c1, c2, r2, r3, r4, r5, r6, r7, r8, r9, r10, r11, r12, r13, r14⟩ := ref_mid (x := x) (by omega) (by omega)
      unfold math_Floor.f
      rw [q1, q2, q3, r1, if_pos rfl, if_pos rfl, Option.bind_some, r2, if_pos rfl, r3, r6, if_pos rfl, r9, if_pos rfl, r7, r10, if_pos rfl, r13, if_pos rfl, r14, mod_f (by omega) hk, Option.bind_some]
      have one : (4607182418800017408 : Nat) = fofint ((1 : Nat) : Int) := by
        refine va_inj ?_
        have := read_pow_val (c := 4607182418800017408) (s := 0) (by omega)
        rw [this, (fofint_val (n := 1) (by omega)).1, U0]; omega
      have hmod : (feq (fofint ((n % 2 : Nat) : Int)) 4607182418800017408 = true) ↔ n % 2 = 1 := by
        obtain ⟨f1, f2⟩ := fofint_val (n := n % 2) (by omega)
        obtain ⟨g1, g2⟩ := fofint_val (n := 1) (by omega)
        rw [feq_va f2 (by omega), one, f1, g1]
        refine ⟨fun h => Nat.eq_of_mul_eq_mul_right (U_pos _) h, fun h => by rw [h]⟩
      have key : ∀ R e : Nat, R + 2 * 4503599627370496 = fofint (e : Int) → 2 * e * U 1074 ≤ 2 * va (x + 2 * 4503599627370496) + U 1074 → 2 * va (x + 2 * 4503599627370496) ≤ (2 * e + 1) * U 1074 → (2 * va (x + 2 * 4503599627370496) = (2 * e + 1) * U 1074 → e % 2 = 0) → (2 * e * U 1074 = 2 * va (x + 2 * 4503599627370496) + U 1074 → e % 2 = 0) →
          (if flt (fsub H x) (fsub x L) = true then some (H, (0 : Int)) else if feq (fsub x L) (fsub H x) = true then (if feq (fofint ((n % 2 : Nat) : Int)) 4607182418800017408 = true then some (H, 0) else some (L, 0)) else some (L, 0)) = some (R, 0) := by
        intro R e hR d1 d2 d3 d4
        obtain ⟨g1, g2, g3, g4⟩ := rd_ref c1 c2 d1 d2 d3 d4
        have up : e = n + 1 → R = H := fun h => by subst h; omega
        have dn : e = n → R = L := fun h => by subst h; omega
        by_cases b1 : flt (fsub H x) (fsub x L) = true
        · rw [if_pos b1, up (g1 (r11.1 b1))]
        · rw [if_neg b1]
          by_cases b2 : feq (fsub x L) (fsub H x) = true
          · rw [if_pos b2]
            by_cases b3 : feq (fofint ((n % 2 : Nat) : Int)) 4607182418800017408 = true
            · rw [if_pos b3, up (g3 (r12.1 b2) (hmod.1 b3))]
            · rw [if_neg b3]
              have : n % 2 = 0 := by
                have : ¬ n % 2 = 1 := fun h => b3 (hmod.2 h)
                omega
              rw [dn (g4 (r12.1 b2) this)]
          · rw [if_neg b2]
            have b1' : ¬ (2 * n + 1) * U 1074 < 2 * va (x + 2 * 4503599627370496) := fun h => b1 (r11.2 h)
            have b2' : ¬ 2 * va (x + 2 * 4503599627370496) = (2 * n + 1) * U 1074 := fun h => b2 (r12.2 h)
            rw [dn (g2 (by omega))]
      by_cases e1 : x = 4607182418800017408
      · subst e1
        have hv : va (4607182418800017408 + 2 * 4503599627370496) = 4 * U 1074 := by
          have e5 : (4607182418800017408 + 2 * 4503599627370496 : Nat) = 4616189618054758400 := by decide
          rw [e5, va_four]
        have hR : Rd 4607182418800017408 = 4607182418800017408 := by unfold Rd; rw [if_pos (by omega)]
        rw [hR]
        refine key _ 4 ?_ ?_ ?_ (fun _ => by decide) (fun _ => by decide)
        · refine va_inj ?_
          rw [hv, (fofint_val (n := 4) (by omega)).1]
        · rw [hv]; generalize U 1074 = z; omega
        · rw [hv]; generalize U 1074 = z; omega
      · by_cases e2 : x = 4697254411347427328
        · subst e2
          have hv : va (4697254411347427328 + 2 * 4503599627370496) = 4194304 * U 1074 := by
            rw [va_up 2 (by omega), va_20, U2]
            generalize U 1074 = z
            omega
          have hR : Rd 4697254411347427328 = 4697254411347427328 := by unfold Rd; rw [if_neg (by omega), if_pos (by omega)]
          rw [hR]
          refine key _ 4194304 ?_ ?_ ?_ (fun _ => by decide) (fun _ => by decide)
          · refine va_inj ?_
            rw [hv, (fofint_val (n := 4194304) (by omega)).1]
          · rw [hv]; generalize U 1074 = z; omega
          · rw [hv]; generalize U 1074 = z; omega
        · obtain ⟨_, _, _, e, he, _, _, _, w1, _, w2, w3, w4, w5⟩ := rd_mid (x := x) (by omega) (by omega)
          have hR : Rd x = fdiv (fofint (e : Int)) 4616189618054758400 := by unfold Rd; rw [if_neg (by omega), if_neg (by omega), he]
          rw [hR]
          exact key _ e w1 w2 w3 w4 w5
theorem rcost_f {k : Nat} {n : Int} {m v : Nat} (h : May n m v) (hn : n ≠ 0) (hk : 8388620 ≤ k) : beaconref05_Cost.f k n m v = some (Rd (fadd m (fmul v 4616189618054758400)), 0) := by
  obtain ⟨a1, a3, a4, _⟩ := cost_f h hn
  have hm := h.2.1
  have hv := h.2.2.1
  obtain ⟨k, rfl⟩ : ∃ q, k = q + 1 := ⟨k - 1, by omega⟩
  have hc := fmul_comm v 4616189618054758400
  unfold beaconref05_Cost.f
  rw [rcheck_f (by omega) (by omega), Option.bind_some, if_pos h, if_pos rfl, if_neg hn, ← hc.2, ← hc.1, a1, if_pos rfl, a3, if_pos rfl, rround_f a4 hk]
  rfl
end Go.Proofs.Ytajejidnidomgaa.RA
