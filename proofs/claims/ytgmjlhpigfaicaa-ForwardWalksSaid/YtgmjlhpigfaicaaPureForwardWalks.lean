/- ForwardWalks: any packet's way over any tables is the reference's. -/
import Derived.Test.YtgmjlhpigfaicaaSForwardWalks
import Derived.Test.YtgmjlhpigfaicaaFW
namespace Go.Proofs.Ytgmjlhpigfaicaa.Pure
open Go.RowKit Go.Proofs.YtgmjlhpigfaicaaW.PrintWords Go.Proofs.Ytgmjlhpigfaicaa.XF Go.Proofs.Ytgmjlhpigfaicaa.MapW
set_option linter.unusedSimpArgs false
set_option linter.unusedVariables false
theorem same_self2 (q0 q1 q2 q3 q4 q5 q6 q7 q8 q9 : Int) (q10 : ByteArray) (q11 q12 : Int) (q13 : ByteArray) : beaconlaw19_same.f q0 q1 q2 q3 q4 q5 q6 q7 q8 q9 q10 q11 q12 q13 q0 q1 q2 q3 q4 q5 q6 q7 q8 q9 q10 q11 q12 q13 = some true := by
  simp [beaconlaw19_same.f, beaconref06_SamePacket.f]
section
variable (p0 p1 p2 p3 p4 p5 p6 p7 : Int) (p8 : ByteArray) (p9 p10 : Int) (p11 : ByteArray)
theorem copyW (l : List S59) (hl : l.length ≤ 3518437208832) (htab : ∀ x ∈ l, x.f1.f0.length ≤ 2932031007401) : ∀ (rest : List S59) (n k : Nat) (acc : List S59), l.drop n = rest → acc.length = n → 3000000000000 ≤ k →
    beaconlaw19_ForwardWalks.l0 (rest.length + k) l acc n p0 p1 p2 p3 p4 p5 p6 p7 p8 p9 p10 p11 = beaconlaw19_ForwardWalks.l0 k l (acc ++ rest) (l.length : Nat) p0 p1 p2 p3 p4 p5 p6 p7 p8 p9 p10 p11
  | [], n, k, acc, h, ha, hk => by
    have h0 := drop_nil h
    rw [List.length_nil, Nat.zero_add, List.append_nil]
    obtain ⟨k, rfl⟩ : ∃ q, k = q + 1 := ⟨k - 1, by omega⟩
    rw [beaconlaw19_ForwardWalks.l0, if_neg (by omega), beaconlaw19_ForwardWalks.l0, if_neg (by omega)]
  | x :: xs, n, k, acc, h, ha, hk => by
    obtain ⟨h1, h2, h3⟩ := at59 h
    have hxm : x ∈ l := by
      have : x ∈ l.drop n := by rw [h]; simp
      exact List.mem_of_mem_drop this
    rw [show (x :: xs).length + k = (xs.length + k) + 1 by simp only [List.length_cons]; omega, beaconlaw19_ForwardWalks.l0, if_pos h1, if_pos (by omega), h3,
      ownR x.f1.f0 x.f1.f1 (by have := htab x hxm; omega) _ (by have := htab x hxm; omega), Option.bind_some, if_pos (by omega), wrap_up n (by omega)]
    refine (copyW l hl htab xs (n + 1) k (acc ++ [⟨x.f0, ⟨x.f1.f0, x.f1.f1⟩⟩]) h2 (by simp [ha]) hk).trans ?_
    simp
theorem eqW (e : Int) (way : List Int) (hw : way.length ≤ 4611686018427387904) (s0 s1 s2 s3 s4 s5 s6 s7 s8 s9 : Int) (s10 : ByteArray) (s11 s12 : Int) (s13 : ByteArray) (k : Nat) : ∀ (d n : Nat), n + d = way.length →
    beaconlaw19_ForwardWalks.l1 (d + (k + 1)) way e way n p0 p1 p2 p3 p4 p5 p6 p7 p8 p9 p10 p11 s0 s1 s2 s3 s4 s5 s6 s7 s8 s9 s10 s11 s12 s13 = beaconlaw19_ForwardWalks.l1 (k + 1) way e way (way.length : Nat) p0 p1 p2 p3 p4 p5 p6 p7 p8 p9 p10 p11 s0 s1 s2 s3 s4 s5 s6 s7 s8 s9 s10 s11 s12 s13
  | 0, n, h => by
    rw [Nat.zero_add, show n = way.length by omega]
  | d + 1, n, h => by
    rw [show d + 1 + (k + 1) = (d + (k + 1)) + 1 by omega, beaconlaw19_ForwardWalks.l1, if_pos (by omega), if_pos (by omega), if_pos (by omega), if_pos rfl, wrap_up n (by omega)]
    exact eqW e way hw s0 s1 s2 s3 s4 s5 s6 s7 s8 s9 s10 s11 s12 s13 k d (n + 1) (by omega)
end
theorem wayEnd (way : List Int) (hw : way ≠ []) (h : way.length ≤ 4611686018427387904) : wrap64 ((way.length : Int) - 1) = ((way.length - 1 : Nat) : Int) ∧ rd way ((way.length - 1 : Nat) : Int) = way.getLast hw := by
  have h0 : 0 < way.length := List.length_pos_iff.2 hw
  refine ⟨by unfold wrap64; omega, ?_⟩
  unfold rd
  rw [Int.toNat_natCast, List.getD_eq_getElem?_getD, List.getElem?_eq_getElem (by omega), Option.getD_some, List.getLast_eq_getElem]
theorem ForwardWalks : Go.Proofs.Ytgmjlhpigfaicaa.XF.ForwardWalks.Pure := by
  intro l p hl0 hp
  have hl : l.length ≤ 3518437208783 := by have := hl0.1; omega
  have hs : p.f8.size ≤ 140737488351232 := hp.2.2.2.2.2.2.2.2.1
  have htab : ∀ x ∈ l, x.f1.f0.length ≤ 2932031007401 := fun x hx => by
    have h : x.f1.f0.length * 48 ≤ 140737488351232 := (hl0.2 x hx).2.1.1
    omega
  have htab2 : ∀ x ∈ l, x.f1.f0.length ≤ 2932031007401 ∧ ∀ e ∈ x.f1.f0, okKey e.f3 = true := fun x hx => ⟨htab x hx, fun e he => by
    have h := ((hl0.2 x hx).2.1.2 e he).2.2.2.1
    simp only [okKey, Bool.and_eq_true, decide_eq_true_eq]
    exact h⟩
  have hkeys : ∀ x ∈ l, okKey x.f0 = true := fun x hx => by
    have h := (hl0.2 x hx).1
    simp only [okKey, Bool.and_eq_true, decide_eq_true_eq]
    exact h
  refine ⟨l.length + (50000000000000 + 1), ?_⟩
  show beaconlaw19_ForwardWalks.l0 (l.length + (50000000000000 + 1)) l [] ((0 : Nat) : Int) p.f0 p.f1 p.f2 p.f3 p.f4 p.f5 p.f6 p.f7 p.f8 p.f9 p.f10 p.f11 = some true
  generalize hK : (50000000000000 : Nat) = K
  rw [copyW p.f0 p.f1 p.f2 p.f3 p.f4 p.f5 p.f6 p.f7 p.f8 p.f9 p.f10 p.f11 l (by omega) htab l 0 (K + 1) [] rfl rfl (by omega), List.nil_append]
  obtain ⟨R, r1, r2, r3⟩ := first_both p.f0 p.f1 p.f2 p.f3 p.f4 p.f5 p.f6 p.f7 p.f8 p.f9 p.f10 p.f11 hs l (by omega) htab2 hkeys l 0 K rfl (by omega) (by simp [ids]) (by omega)
  have f1 : forward_Walk.f K l p.f0 p.f1 p.f2 p.f3 p.f4 p.f5 p.f6 p.f7 p.f8 p.f9 p.f10 p.f11 = some R := r1
  have f2 : beaconref19_Walk.f K l p.f0 p.f1 p.f2 p.f3 p.f4 p.f5 p.f6 p.f7 p.f8 p.f9 p.f10 p.f11 = some R := r2
  clear r1 r2
  rw [beaconlaw19_ForwardWalks.l0, if_neg (by omega), f1, f2, Option.bind_some, Option.bind_some]
  clear f1 f2
  obtain ⟨way, s0, s1, s2, s3, s4, s5, s6, s7, s8, s9, s10, s11, s12, s13, e⟩ := R
  dsimp only
  rw [if_pos rfl, same_self2, Option.bind_some, if_pos rfl, bne_self_eq_false]
  have hwl : way.length ≤ 100000 := by
    rcases r3 with ⟨e', h1, h2⟩ | ⟨w', kd, nx, h, hw, h1, h2, h3, h4⟩
    · simp only [errR, Prod.mk.injEq] at h1; rw [h1.1]; simp
    · simp only [res, Prod.mk.injEq] at h1; rw [h1.1]; omega
  obtain ⟨K', hK'⟩ : ∃ q, K = (way.length + ((40 + q) + 1)) + 1 := ⟨K - way.length - 42, by omega⟩
  rw [hK', beaconlaw19_ForwardWalks.j1, if_neg (by decide)]
  show beaconlaw19_ForwardWalks.l1 (way.length + (40 + K' + 1)) way e way ((0 : Nat) : Int) _ _ _ _ _ _ _ _ _ _ _ _ _ _ _ _ _ _ _ _ _ _ _ _ _ _ = _
  rw [eqW _ _ _ _ _ _ _ _ _ _ _ _ e way (by omega) s0 s1 s2 s3 s4 s5 s6 s7 s8 s9 s10 s11 s12 s13 (40 + K') way.length 0 (by omega)]
  rw [beaconlaw19_ForwardWalks.l1, if_neg (by omega)]
  rcases r3 with ⟨e', h1, h2⟩ | ⟨w', kd, nx, h, hw, h1, h2, h3, h4⟩
  · simp only [errR, Prod.mk.injEq] at h1
    rw [if_neg (by rw [h1.2.2.2.2.2.2.2.2.2.2.2.2.2.2.2]; exact h2), awake_f]
    rfl
  · simp only [res, Prod.mk.injEq] at h1
    obtain ⟨rfl, rfl, rfl, rfl, rfl, rfl, rfl, rfl, rfl, rfl, rfl, rfl, rfl, rfl, rfl, rfl⟩ := h1
    obtain ⟨w1, w2⟩ := wayEnd way hw (by omega)
    have hpos : 0 < way.length := List.length_pos_iff.2 hw
    rw [if_pos rfl, w1, if_neg (by omega)]
    have hsame : beaconref06_SamePacket.f p.f0 p.f1 p.f2 p.f3 p.f4 p.f5 p.f6 p.f7 p.f8 p.f9 p.f10 p.f11 p.f0 p.f1 p.f2 p.f3 p.f4 p.f5 p.f6 p.f7 p.f8 p.f9 p.f10 p.f11 = some true := by simp [beaconref06_SamePacket.f]
    rw [hsame, Option.bind_some, if_pos rfl, awake_f]
    by_cases c : s0 = 1
    · rw [if_pos c, if_pos (by omega), if_pos (by omega), w2, if_pos (h4 c).symm]
      rfl
    · rw [if_neg c]
      rfl
end Go.Proofs.Ytgmjlhpigfaicaa.Pure
