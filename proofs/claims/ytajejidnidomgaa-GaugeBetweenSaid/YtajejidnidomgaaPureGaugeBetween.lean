/- GaugeBetween: behind any whole samples below 2^20 the mean lies between the least and the greatest, a thousandth of the greatest aside; for every list of uint32. -/
import Derived.Test.YtajejidnidomgaaSGaugeBetween
import Derived.Test.YtajejidnidomgaaGA
namespace Go.Proofs.Ytajejidnidomgaa.Pure
open Go.RowKit Go.Proofs.YtajejidnidomgaaW.PrintWords Go.Proofs.Ytajejidnidomgaa.XG Go.Proofs.Ytajejidnidomgaa.GA

theorem c78 : va 4606056518893174784 = 7 * U 1071 := by
  have := va_U (q := 1021) (m := 3377699720527872) (by decide)
  have h : U 1071 = U 50 * U 1021 := U_add 50 1021
  rw [U50] at h
  rw [show (4606056518893174784 : Nat) = (1021 + 1) * 4503599627370496 + 3377699720527872 from by decide, this, h]
  omega
theorem c18 : va 4593671619917905920 = U 1071 := by
  have := va_U (q := 1019) (m := 0) (by decide)
  have h : U 1071 = U 52 * U 1019 := U_add 52 1019
  rw [U52] at h
  rw [show (4593671619917905920 : Nat) = (1019 + 1) * 4503599627370496 + 0 from by decide, this, h]
theorem c34 : va 4604930618986332160 = 3 * U 1072 := by
  have := va_U (q := 1021) (m := 2251799813685248) (by decide)
  have h : U 1072 = U 50 * U 1 * U 1021 := by rw [← U_add, ← U_add]
  rw [U50, U1] at h
  rw [show (4604930618986332160 : Nat) = (1021 + 1) * 4503599627370496 + 2251799813685248 from by decide, this, h]
  omega
theorem c14 : va 4598175219545276416 = U 1072 := by
  have := va_U (q := 1020) (m := 0) (by decide)
  have h : U 1072 = U 52 * U 1020 := U_add 52 1020
  rw [U52] at h
  rw [show (4598175219545276416 : Nat) = (1020 + 1) * 4503599627370496 + 0 from by decide, this, h]
/-- A whole number as a float. -/
def W (n : Nat) : Nat := fofint (n : Int)
theorem W_val {n : Nat} (hn : n ≤ 1048576) : va (W n) = n * U 1074 := (fofint_val (by omega)).1
theorem W_fin {n : Nat} (hn : n ≤ 1048576) : W n < 9218868437227405312 := (fofint_val (by omega)).2
theorem W_le {a b : Nat} (hb : b ≤ 1048576) (h : a ≤ b) : W a ≤ W b := le_of_va (by rw [W_val hb, W_val (by omega)]; exact Nat.mul_le_mul_right _ h)
theorem W_lt {a b : Nat} (hb : b ≤ 1048576) (h : a < b) : W a < W b := lt_of_va (by rw [W_val hb, W_val (by omega)]; exact Nat.mul_lt_mul_of_pos_right h (U_pos _))
theorem W_flt {a b : Nat} (ha : a ≤ 1048576) (hb : b ≤ 1048576) : flt (W a) (W b) = decide (a < b) := by
  rw [flt_pos (Nat.le_of_lt (W_fin ha)) (Nat.le_of_lt (W_fin hb))]
  refine decide_eq_decide.2 ⟨fun h => ?_, W_lt hb⟩
  rcases Nat.lt_or_ge a b with h1 | h1
  · exact h1
  · have := W_le ha h1; omega
theorem u1074 : U 1074 = 8 * U 1071 := by have := U_add 3 1071; rw [U3] at this; exact this
theorem u1074' : U 1074 = 4 * U 1072 := by have := U_add 2 1072; rw [U2] at this; exact this
theorem mix_up {m s b p : Nat} {x y : Nat} (hm : m < 9218868437227405312) (hs : s < 9218868437227405312) (hb : b ≤ 1048576) (h1 : m ≤ W b) (h2 : s ≤ W b) (hx : x < 9218868437227405312) (hy : y < 9218868437227405312)
    {α β e : Nat} (hα : α ≤ 7) (hβ : β ≤ 7) (he : e ≤ 1072) (he2 : 52 ≤ e) (vx : va x = α * U e) (vy : va y = β * U e) (hu : U 1074 = (α + β) * U e) (hp : p = fadd (fmul m x) (fmul s y)) : p ≤ W b := by
  have hb' := W_val hb
  have v1 := va_le h1
  have v2 := va_le h2
  rw [hb'] at v1 v2
  obtain ⟨p1, q1⟩ := rep (α * b) e (by have : α * b ≤ 7 * 1048576 := Nat.mul_le_mul hα hb
                                       omega) he2
  obtain ⟨p2, q2⟩ := rep (β * b) e (by have : β * b ≤ 7 * 1048576 := Nat.mul_le_mul hβ hb
                                       omega) he2
  have f1 := va_fin q1 (by have : α * b ≤ 7 * 1048576 := Nat.mul_le_mul hα hb
                           omega) (by omega)
  have f2 := va_fin q2 (by have : β * b ≤ 7 * 1048576 := Nat.mul_le_mul hβ hb
                           omega) (by omega)
  have g1 : fmul m x ≤ p1 := fmul_le hm hx (by
    rw [vx, q1]
    calc va m * (α * U e) ≤ b * U 1074 * (α * U e) := Nat.mul_le_mul_right _ v1
      _ = α * b * U e * U 1074 := by ac_rfl)
  have g2 : fmul s y ≤ p2 := fmul_le hs hy (by
    rw [vy, q2]
    calc va s * (β * U e) ≤ b * U 1074 * (β * U e) := Nat.mul_le_mul_right _ v2
      _ = β * b * U e * U 1074 := by ac_rfl)
  rw [hp]
  refine fadd_le (by omega) (by omega) ?_
  have w1 := va_le g1
  have w2 := va_le g2
  rw [q1] at w1
  rw [q2] at w2
  rw [hb', hu]
  have : b * ((α + β) * U e) = α * b * U e + β * b * U e := by rw [Nat.add_mul, Nat.mul_add]; congr 1 <;> ac_rfl
  omega
theorem mix_dn {m s b p : Nat} {x y : Nat} (hm : m < 9218868437227405312) (hs : s < 9218868437227405312) (hb : b ≤ 1048576) (h1 : W b ≤ m) (h2 : W b ≤ s) (hx : x < 9218868437227405312) (hy : y < 9218868437227405312)
    (k1 : fmul m x < 9218868437227405312) (k2 : fmul s y < 9218868437227405312)
    {α β e : Nat} (hα : α ≤ 7) (hβ : β ≤ 7) (he : e ≤ 1072) (he2 : 52 ≤ e) (vx : va x = α * U e) (vy : va y = β * U e) (hu : U 1074 = (α + β) * U e) (hp : p = fadd (fmul m x) (fmul s y)) : W b ≤ p := by
  have hb' := W_val hb
  have v1 := va_le h1
  have v2 := va_le h2
  rw [hb'] at v1 v2
  obtain ⟨p1, q1⟩ := rep (α * b) e (by have : α * b ≤ 7 * 1048576 := Nat.mul_le_mul hα hb
                                       omega) he2
  obtain ⟨p2, q2⟩ := rep (β * b) e (by have : β * b ≤ 7 * 1048576 := Nat.mul_le_mul hβ hb
                                       omega) he2
  have f1 := va_fin q1 (by have : α * b ≤ 7 * 1048576 := Nat.mul_le_mul hα hb
                           omega) (by omega)
  have f2 := va_fin q2 (by have : β * b ≤ 7 * 1048576 := Nat.mul_le_mul hβ hb
                           omega) (by omega)
  have g1 : p1 ≤ fmul m x := le_fmul hm hx (by omega) (by
    rw [vx, q1]
    calc α * b * U e * U 1074 = b * U 1074 * (α * U e) := by ac_rfl
      _ ≤ va m * (α * U e) := Nat.mul_le_mul_right _ v1)
  have g2 : p2 ≤ fmul s y := le_fmul hs hy (by omega) (by
    rw [vy, q2]
    calc β * b * U e * U 1074 = b * U 1074 * (β * U e) := by ac_rfl
      _ ≤ va s * (β * U e) := Nat.mul_le_mul_right _ v2)
  rw [hp]
  refine le_fadd k1 k2 (Nat.le_of_lt (W_fin hb)) ?_
  have w1 := va_le g1
  have w2 := va_le g2
  rw [q1] at w1
  rw [q2] at w2
  rw [hb', hu]
  have : b * ((α + β) * U e) = α * b * U e + β * b * U e := by rw [Nat.add_mul, Nat.mul_add]; congr 1 <;> ac_rfl
  omega
theorem fmul_below {m x : Nat} (hm : m < 9218868437227405312) (hx : x < 9218868437227405312) (h : va x ≤ U 1074) : fmul m x < 9218868437227405312 :=
  Nat.lt_of_le_of_lt (fmul_le hm hx (Nat.mul_le_mul_left _ h)) hm

/-- What holds at every round's head. -/
structure Inv (a b : Nat) (n : Int) (m v : Nat) : Prop where
  ab : a ≤ b
  b20 : b < 1048576
  n1 : 1 ≤ n
  n2 : n ≤ 9223372036854775807
  lo : W a ≤ m
  hi : m ≤ W b
  var : v ≤ W 1048576
theorem Inv.fin {a b : Nat} {n : Int} {m v : Nat} (h : Inv a b n m v) : m < 9218868437227405312 ∧ v < 9218868437227405312 :=
  ⟨Nat.lt_of_le_of_lt h.hi (W_fin (by have := h.b20; omega)), Nat.lt_of_le_of_lt h.var (W_fin (Nat.le_refl _))⟩
theorem feed_step {a b c : Nat} {n : Int} {m v : Nat} (h : Inv a b n m v) (hc : c < 1048576) :
    ∃ n' m' v', gauge_Feed.f n m v (W c) = some (n', m', v', 0) ∧ Inv (min a c) (max b c) n' m' v' := by
  obtain ⟨hm, hv⟩ := h.fin
  have hw := W_fin (n := c) (by omega)
  have h1 := h.n1
  have h2 := h.n2
  have hmod : W c % 9223372036854775808 = W c := by omega
  refine ⟨_, _, _, by rw [feed_f h.n2 (by omega) (by omega) (by omega), if_pos (by unfold May; omega), if_pos (by unfold MayS; omega), hmod], ?_⟩
  unfold Fed
  rw [if_neg (by omega)]
  have hb := h.b20
  have hab := h.ab
  have hmax : max b c < 1048576 := by omega
  have hmin : min a c < 1048576 := by omega
  have e78 : va 4606056518893174784 ≤ U 1074 := by rw [c78, u1074]; omega
  have e18 : va 4593671619917905920 ≤ U 1074 := by rw [c18, u1074]; omega
  have hM : W (max b c) ≤ W 1048576 := W_le (Nat.le_refl _) (by omega)
  have hmb : m ≤ W (max b c) := Nat.le_trans h.hi (W_le (by omega) (by omega))
  have hcb : W c ≤ W (max b c) := W_le (by omega) (by omega)
  have hap : apart m (W c) ≤ W (max b c) := by
    unfold apart
    split
    · rename_i h3
      obtain ⟨d, _, _, h4, _, _, _, h5, _⟩ := fsub_spec hm hw h3
      omega
    · rename_i h3
      obtain ⟨d, _, _, h4, _, _, _, h5, _⟩ := fsub_spec hw hm (by omega)
      omega
  refine ⟨by omega, hmax, ?_, ?_, ?_, ?_, ?_⟩
  · show 1 ≤ (if n < 9223372036854775807 then n + 1 else n)
    split <;> omega
  · show (if n < 9223372036854775807 then n + 1 else n) ≤ 9223372036854775807
    split <;> omega
  · exact mix_dn hm hw (by omega) (Nat.le_trans (W_le (by omega) (by omega)) h.lo) (W_le (by omega) (by omega)) (by omega) (by omega) (fmul_below hm (by omega) e78) (fmul_below hw (by omega) e18) (α := 7) (β := 1) (e := 1071) (by omega) (by omega) (by omega) (by omega) c78 (by rw [c18, Nat.one_mul]) (by rw [u1074]) rfl
  · exact mix_up hm hw (by omega) hmb hcb (by omega) (by omega) (α := 7) (β := 1) (e := 1071) (by omega) (by omega) (by omega) (by omega) c78 (by rw [c18, Nat.one_mul]) (by rw [u1074]) rfl
  · exact mix_up hv (apart_le hm hw) (Nat.le_refl _) h.var (Nat.le_trans hap hM) (by omega) (by omega) (α := 3) (β := 1) (e := 1072) (by omega) (by omega) (by omega) (by omega) c34 (by rw [c14, Nat.one_mul]) (by rw [u1074']) rfl
theorem last_ok {a b : Nat} {n : Int} {m v : Nat} (h : Inv a b n m v) (l : List Int) (i : Int) (k : Nat) : beaconlaw05_GaugeBetween.j1 (k + 1) l (W a) (W b) 0 i false n m v = some true := by
  obtain ⟨hm, _⟩ := h.fin
  have hb := h.b20
  have hab := h.ab
  have fb := W_fin (n := b) (by omega)
  have fa := W_fin (n := a) (by omega)
  obtain ⟨d1, d2⟩ := fdiv_thousand fb (by rw [W_val (by omega)]; exact Nat.mul_le_mul_right _ (by omega))
  simp only [beaconlaw05_GaugeBetween.j1]
  rw [if_neg (by decide), if_pos trivial, if_pos d1]
  generalize fdiv (W b) 4652007308841189376 = t at *
  have hsub : fsubOk (W a) t = true ∧ fle (fsub (W a) t) m = true := by
    rcases Nat.le_total t (W a) with h1 | h1
    · obtain ⟨d, h2, _, h3, _, _, _, h4, _⟩ := fsub_spec fa d2 h1
      refine ⟨h2, ?_⟩
      have := h.lo
      rw [fle_pos (by omega) (by omega)]
      exact decide_eq_true (by omega)
    · obtain ⟨d, _, h2, h3, h5, h6, _, h4, _⟩ := fsub_spec d2 fa h1
      refine ⟨h2, ?_⟩
      rcases Nat.lt_or_eq_of_le h1 with h7 | h7
      · have h8 := h5 h7
        rw [fle_key (by omega) (by omega) (by unfold isN; omega) (by unfold isN; omega)]
        refine decide_eq_true ?_
        unfold key
        rw [if_neg (by omega), if_pos (by omega)]
        omega
      · have h8 := h6 h7
        have h9 : fsub (W a) t = 0 := by rw [h7] at h3 ⊢; omega
        rw [h9, fle_pos (by omega) (by omega)]
        exact decide_eq_true (Nat.zero_le _)
  rw [if_pos hsub.1, if_pos hsub.2]
  obtain ⟨a1, a2⟩ := fadd_ok (Nat.le_of_lt fb) (Nat.le_of_lt d2)
  have hup : W b ≤ fadd (W b) t := le_fadd fb d2 (Nat.le_of_lt fb) (by omega)
  rw [if_pos a1, fle_pos (by omega) a2, if_pos (decide_eq_true (Nat.le_trans h.hi hup)), awake_f, Option.bind_some]
theorem rounds (l : List Int) (hl : l.length * 4 ≤ 140737488351232) (hr : ∀ x ∈ l, 0 ≤ x ∧ x ≤ 4294967295) (d : Nat) : ∀ (k : Nat) (i : Int) (a b : Nat) (n : Int) (m v : Nat), 0 ≤ i → i + d = l.length → 2 * d + 2 ≤ k → Inv a b n m v →
    beaconlaw05_GaugeBetween.l0 k l (W a) (W b) 0 i n m v = some true := by
  induction d with
  | zero =>
    intro k i a b n m v h0 hd hk hI
    obtain ⟨k, rfl⟩ : ∃ q, k = q + 1 + 1 := ⟨k - 2, by omega⟩
    simp only [beaconlaw05_GaugeBetween.l0]
    rw [if_neg (by omega)]
    exact last_ok hI l i k
  | succ d ih =>
    intro k i a b n m v h0 hd hk hI
    obtain ⟨k, rfl⟩ : ∃ q, k = q + 1 + 1 := ⟨k - 2, by omega⟩
    simp only [beaconlaw05_GaugeBetween.l0]
    rw [if_pos (by omega)]
    simp only [beaconlaw05_GaugeBetween.j1]
    rw [if_pos (by decide), if_pos h0, if_pos (by omega)]
    have hc0 : 0 ≤ rd l i ∧ rd l i ≤ 4294967295 := by
      have hi : i.toNat < l.length := by omega
      have : rd l i = l[i.toNat] := by unfold rd; rw [List.getD_eq_getElem?_getD, List.getElem?_eq_getElem hi]; rfl
      rw [this]
      exact hr _ (List.getElem_mem hi)
    obtain ⟨c, hc, hc2⟩ : ∃ c : Nat, (Int.tmod (rd l i) 1048576) = (c : Int) ∧ c < 1048576 := by
      refine ⟨(Int.tmod (rd l i) 1048576).toNat, ?_, ?_⟩ <;> rw [Int.tmod_eq_emod_of_nonneg hc0.1] <;> omega
    rw [hc]
    have hw : wrap64 (i + 1) = i + 1 := by unfold wrap64; omega
    have hb := hI.b20
    have hab := hI.ab
    show (if flt (W c) (W a) = true then (if flt (W b) (W c) = true then ((gauge_Feed.f n m v (W c)).bind fun bt162 => (beaconlaw05_GaugeBetween.l0 k l (W c) (W c) bt162.2.2.2 (wrap64 (i + 1)) bt162.1 bt162.2.1 bt162.2.2.1)) else ((gauge_Feed.f n m v (W c)).bind fun bt166 => (beaconlaw05_GaugeBetween.l0 k l (W c) (W b) bt166.2.2.2 (wrap64 (i + 1)) bt166.1 bt166.2.1 bt166.2.2.1))) else (if flt (W b) (W c) = true then ((gauge_Feed.f n m v (W c)).bind fun bt170 => (beaconlaw05_GaugeBetween.l0 k l (W a) (W c) bt170.2.2.2 (wrap64 (i + 1)) bt170.1 bt170.2.1 bt170.2.2.1)) else ((gauge_Feed.f n m v (W c)).bind fun bt174 => (beaconlaw05_GaugeBetween.l0 k l (W a) (W b) bt174.2.2.2 (wrap64 (i + 1)) bt174.1 bt174.2.1 bt174.2.2.1)))) = some true
    obtain ⟨n', m', v', hf, hI'⟩ := feed_step hI hc2
    rw [W_flt (by omega) (by omega), W_flt (by omega) (by omega), hf, hw]
    simp only [Option.bind_some]
    by_cases h1 : c < a
    · rw [if_pos (decide_eq_true h1)]
      by_cases h2 : b < c
      · omega
      · rw [if_neg (by simpa using h2)]
        have e1 : min a c = c := by omega
        have e2 : max b c = b := by omega
        rw [e1, e2] at hI'
        exact ih k (i + 1) c b n' m' v' (by omega) (by omega) (by omega) hI'
    · rw [if_neg (by simpa using h1)]
      by_cases h2 : b < c
      · rw [if_pos (decide_eq_true h2)]
        have e1 : min a c = a := by omega
        have e2 : max b c = c := by omega
        rw [e1, e2] at hI'
        exact ih k (i + 1) a c n' m' v' (by omega) (by omega) (by omega) hI'
      · rw [if_neg (by simpa using h2)]
        have e1 : min a c = a := by omega
        have e2 : max b c = b := by omega
        rw [e1, e2] at hI'
        exact ih k (i + 1) a b n' m' v' (by omega) (by omega) (by omega) hI'
theorem GaugeBetween : Go.Proofs.Ytajejidnidomgaa.XG.GaugeBetween.Pure := by
  rintro a0 l ⟨h0, h1⟩ ⟨hl, hr⟩
  refine ⟨2 * l.length + 2, ?_⟩
  unfold beaconlaw05_GaugeBetween.f
  obtain ⟨c, hc, hc2⟩ : ∃ c : Nat, (Int.tmod a0 1048576) = (c : Int) ∧ c < 1048576 := by
    refine ⟨(Int.tmod a0 1048576).toNat, ?_, ?_⟩ <;> rw [Int.tmod_eq_emod_of_nonneg h0] <;> omega
  rw [hc]
  show ((gauge_Feed.f 0 0 0 (W c)).bind fun bt155 => (beaconlaw05_GaugeBetween.l0 (2 * l.length + 2) l (W c) (W c) bt155.2.2.2 0 bt155.1 bt155.2.1 bt155.2.2.1)) = some true
  have hw := W_fin (n := c) (by omega)
  have hmod : W c % 9223372036854775808 = W c := by omega
  rw [feed_f (by omega) (by omega) (by omega) (by omega), if_pos (by unfold May; omega), if_pos (by unfold MayS; omega), hmod, Option.bind_some]
  unfold Fed
  rw [if_pos rfl]
  have hd := (fdiv_ok2 hw).2
  exact rounds l hl hr l.length _ 0 c c 1 (W c) _ (by omega) (by omega) (by omega) ⟨Nat.le_refl _, hc2, by omega, by omega, Nat.le_refl _, Nat.le_refl _, Nat.le_trans hd (W_le (Nat.le_refl _) (by omega))⟩
end Go.Proofs.Ytajejidnidomgaa.Pure
