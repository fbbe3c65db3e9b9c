/- SessionMeets: behind anything, three greetings bring both ends Up; for every pair of nonces and every list of steps. -/
import Derived.Test.YtjodekffbobmlaaSSessionMeets
namespace Go.Proofs.Ytjodekffbobmlaa.Pure
open Go.RowKit Go.Proofs.YtjodekffbobmlaaW.PrintWords Go.Proofs.Ytjodekffbobmlaa.XM

theorem odd_bit (x : Int) : Go.bits .and .i64 x 1 = 0 ∨ Go.bits .and .i64 x 1 = 1 := by
  unfold Go.bits
  simp only [BitVec.toNat_and]
  have h1 : (BitVec.ofInt IntKind.i64.bits 1).toNat = 1 := by decide
  rw [h1]
  have h2 : (BitVec.ofInt IntKind.i64.bits x).toNat &&& 1 ≤ 1 := Nat.and_le_right
  rcases Nat.lt_or_eq_of_le h2 with h | h
  · have h3 : (BitVec.ofInt IntKind.i64.bits x).toNat &&& 1 = 0 := by omega
    rw [h3]; left; decide
  · rw [h]; right; decide
theorem hear_f (k : Nat) (m p : Int) (u : Bool) (s n e : Int) (h1 : 1 ≤ n) (h2 : p ≤ n) : ∃ u' s' f g, session_Hear.f (k + 1) m p u s n e = some (m, n, u', s', f, g) ∧ (e = m → u' = true) := by
  unfold session_Hear.f
  simp only [session_Hear.j0, session_heard.f, Option.bind_some]
  rw [if_neg (by omega)]
  have h3 : decide (n < p) = false := by simp; omega
  rw [h3, if_neg (by decide)]
  by_cases h4 : n > p
  · rw [if_pos h4]
    by_cases h5 : e = m
    · rw [if_pos h5]; exact ⟨_, _, _, _, rfl, fun _ => rfl⟩
    · rw [if_neg h5]; exact ⟨_, _, _, _, rfl, fun h => absurd h h5⟩
  · rw [if_neg h4]
    have : p = n := by omega
    subst this
    by_cases h5 : e = m
    · rw [if_pos h5]; exact ⟨_, _, _, _, rfl, fun _ => rfl⟩
    · rw [if_neg h5]; exact ⟨_, _, _, _, rfl, fun h => absurd h h5⟩
theorem down_f (m p : Int) (u : Bool) (s : Int) (h : 1 ≤ m) (h2 : m ≤ 18446744073709551615) : ∃ m', session_Down.f m p u s = some (m', 0, false, 0) ∧ m ≤ m' ∧ m' ≤ 18446744073709551615 := by
  unfold session_Down.f
  split
  · have : IntKind.u64.wrap (m + 1) = m + 1 := by
      have h5 : ∀ n : Int, IntKind.u64.wrap n = n % 18446744073709551616 := fun n => by simp [IntKind.wrap, IntKind.bits, IntKind.signed]
      rw [h5]; omega
    rw [this]
    exact ⟨_, rfl, by omega, by omega⟩
  · exact ⟨_, rfl, by omega, by omega⟩
theorem tick_f (m p : Int) (u : Bool) (s t : Int) (h : 1 ≤ m) (h2 : m ≤ 18446744073709551615) : ∃ m' p' u' s' d, session_Tick.f m p u s t = some (m', p', u', s', d) ∧ m ≤ m' ∧ m' ≤ 18446744073709551615 ∧ (p' = p ∨ p' = 0) := by
  unfold session_Tick.f
  obtain ⟨m1, e1, a1, b1⟩ := down_f m p u (wrap64 (s + 1)) h h2
  obtain ⟨m2, e2, a2, b2⟩ := down_f m p u s h h2
  rw [e1, e2]
  simp only [Option.bind_some]
  split
  · exact ⟨_, _, _, _, _, rfl, by omega, by omega, .inl rfl⟩
  · split
    · split
      · exact ⟨_, _, _, _, _, rfl, a1, b1, .inr rfl⟩
      · exact ⟨_, _, _, _, _, rfl, by omega, by omega, .inl rfl⟩
    · split
      · exact ⟨_, _, _, _, _, rfl, a2, b2, .inr rfl⟩
      · exact ⟨_, _, _, _, _, rfl, by omega, by omega, .inl rfl⟩
theorem awake_f (k : Nat) : beaconlaw12_awake.f (k + 1) = some true := by
  unfold beaconlaw12_awake.f session_New.f session_Hear.f session_Hear.j0 session_heard.f
  simp
/-- No end knows a nonce above the other one's. -/
structure Inv (m0 p0 m1 p1 : Int) : Prop where
  a0 : 1 ≤ m0
  a1 : 1 ≤ m1
  b0 : m0 ≤ 18446744073709551615
  b1 : m1 ≤ 18446744073709551615
  c0 : p0 ≤ m1
  c1 : p1 ≤ m0
theorem meets (k : Nat) (m0 p0 : Int) (u0 : Bool) (s0 m1 p1 : Int) (u1 : Bool) (s1 : Int) (h : Inv m0 p0 m1 p1) : beaconlaw12_SessionMeets.l2 (k + 5) 0 m0 p0 u0 s0 m1 p1 u1 s1 = some true := by
  simp only [beaconlaw12_SessionMeets.l2]
  rw [if_pos (by decide), if_pos (by decide)]
  obtain ⟨u0', s0', f0, g0, e0, _⟩ := hear_f (k + 3) m0 p0 u0 s0 m1 p1 h.a1 h.c0
  simp only [session_Hello.f, Option.bind_some]
  rw [e0]
  simp only [Option.bind_some]
  have w1 : wrap64 (0 + 1) = 1 := by unfold wrap64; omega
  rw [w1, if_pos (by decide), if_neg (by decide), if_pos (by decide)]
  obtain ⟨u1', s1', f1, g1, e1, q1⟩ := hear_f (k + 2) m1 p1 u1 s1 m0 m1 h.a0 h.c1
  rw [e1]
  simp only [Option.bind_some]
  have w2 : wrap64 (1 + 1) = 2 := by unfold wrap64; omega
  rw [w2, if_pos (by decide), if_pos (by decide)]
  obtain ⟨u2', s2', f2, g2, e2, q2⟩ := hear_f (k + 1) m0 m1 u0' s0' m1 m0 h.a1 (by omega)
  rw [e2]
  simp only [Option.bind_some]
  have w3 : wrap64 (2 + 1) = 3 := by unfold wrap64; omega
  rw [w3, if_neg (by decide), if_pos (q2 rfl), if_pos (q1 rfl), if_pos trivial, if_pos trivial, awake_f]
  rfl
theorem steps (l : List S33) (hl : l.length * 32 ≤ 140737488351232) (d : Nat) : ∀ (k : Nat) (i m0 p0 : Int) (u0 : Bool) (s0 m1 p1 : Int) (u1 : Bool) (s1 : Int), 0 ≤ i → i + d = l.length → 2 * d + 6 ≤ k → Inv m0 p0 m1 p1 →
    beaconlaw12_SessionMeets.l1 k l i m0 p0 u0 s0 m1 p1 u1 s1 = some true := by
  induction d with
  | zero =>
    intro k i m0 p0 u0 s0 m1 p1 u1 s1 h0 hd hk h
    obtain ⟨k, rfl⟩ : ∃ q, k = q + 5 + 1 := ⟨k - 6, by omega⟩
    simp only [beaconlaw12_SessionMeets.l1]
    rw [if_neg (by omega)]
    exact meets k _ _ _ _ _ _ _ _ h
  | succ d ih =>
    intro k i m0 p0 u0 s0 m1 p1 u1 s1 h0 hd hk h
    obtain ⟨k, rfl⟩ : ∃ q, k = q + 1 + 1 + 1 := ⟨k - 3, by omega⟩
    have hw : wrap64 (i + 1) = i + 1 := by unfold wrap64; omega
    have step : ∀ b, (b = true ∨ b = false) → beaconlaw12_SessionMeets.j2 (k + 1 + 1) l i (Go.bits .and .i64 ((rd_T33 l i).f0) 1) ((rd_T33 l i).f1) b m0 p0 u0 s0 m1 p1 u1 s1 = some true := by
      intro b _
      simp only [beaconlaw12_SessionMeets.j2, session_Hello.f, Option.bind_some]
      rw [hw]
      have hlt : i < (l.length : Int) := by omega
      rcases odd_bit (rd_T33 l i).f0 with hb | hb
      · rw [hb]
        simp only [if_true, if_pos h0, if_pos hlt]
        cases b
        · rw [if_neg (by decide)]
          split
          · obtain ⟨m', p', u', s', d', e, c1, c2, c3⟩ := tick_f m0 p0 u0 s0 (rd_T33 l i).f3 h.a0 h.b0
            rw [e]
            simp only [Option.bind_some]
            have := h.a1; have := h.c0; have := h.c1; have := h.a0
            exact ih _ _ _ _ _ _ _ _ _ _ (by omega) (by omega) (by omega) ⟨by omega, h.a1, c2, h.b1, by omega, by omega⟩
          · split
            · obtain ⟨m', e, c1, c2⟩ := down_f m0 p0 u0 s0 h.a0 h.b0
              rw [e]
              simp only [Option.bind_some]
              have := h.a1; have := h.c0; have := h.c1; have := h.a0
              exact ih _ _ _ _ _ _ _ _ _ _ (by omega) (by omega) (by omega) ⟨by omega, h.a1, c2, h.b1, by omega, by omega⟩
            · exact ih _ _ _ _ _ _ _ _ _ _ (by omega) (by omega) (by omega) h
        · rw [if_pos rfl]
          obtain ⟨u', s', f', g', e, _⟩ := hear_f k m0 p0 u0 s0 m1 p1 h.a1 h.c0
          rw [e]
          simp only [Option.bind_some]
          exact ih _ _ _ _ _ _ _ _ _ _ (by omega) (by omega) (by omega) ⟨h.a0, h.a1, h.b0, h.b1, Int.le_refl _, h.c1⟩
      · rw [hb]
        have h10 : ¬ ((1 : Int) = 0) := by decide
        simp only [if_true, if_neg h10, if_pos h0, if_pos hlt]
        cases b
        · rw [if_neg (by decide)]
          split
          · obtain ⟨m', p', u', s', d', e, c1, c2, c3⟩ := tick_f m1 p1 u1 s1 (rd_T33 l i).f3 h.a1 h.b1
            rw [e]
            simp only [Option.bind_some]
            have := h.a1; have := h.c0; have := h.c1; have := h.a0
            exact ih _ _ _ _ _ _ _ _ _ _ (by omega) (by omega) (by omega) ⟨h.a0, by omega, h.b0, c2, by omega, by omega⟩
          · split
            · obtain ⟨m', e, c1, c2⟩ := down_f m1 p1 u1 s1 h.a1 h.b1
              rw [e]
              simp only [Option.bind_some]
              have := h.a1; have := h.c0; have := h.c1; have := h.a0
              exact ih _ _ _ _ _ _ _ _ _ _ (by omega) (by omega) (by omega) ⟨h.a0, by omega, h.b0, c2, by omega, by omega⟩
            · exact ih _ _ _ _ _ _ _ _ _ _ (by omega) (by omega) (by omega) h
        · rw [if_pos rfl]
          obtain ⟨u', s', f', g', e, _⟩ := hear_f k m1 p1 u1 s1 m0 p0 h.a0 h.c1
          rw [e]
          simp only [Option.bind_some]
          exact ih _ _ _ _ _ _ _ _ _ _ (by omega) (by omega) (by omega) ⟨h.a0, h.a1, h.b0, h.b1, h.c0, Int.le_refl _⟩
    have step' : ∀ b, beaconlaw12_SessionMeets.j2 (k + 1 + 1) l i (Go.bits .and .i64 ((rd_T33 l i).f0) 1) ((rd_T33 l i).f1) b m0 p0 u0 s0 m1 p1 u1 s1 = some true := fun b => step b (by cases b <;> simp)
    rw [beaconlaw12_SessionMeets.l1]
    rw [if_pos (by omega), if_pos h0]
    split
    · exact step' _
    · split
      · exact step' _
      · exact step' _
theorem new_f (m : Int) : session_New.f m = some (if m = 0 then (0, 0, false, 0, 1) else (m, 0, false, 0, 0)) := by
  unfold session_New.f
  split <;> rfl
theorem SessionMeets : Go.Proofs.Ytjodekffbobmlaa.XM.SessionMeets.Pure := by
  rintro ⟨n0, n1⟩ l ⟨⟨g0, h0⟩, g1, h1⟩ ⟨hl, _⟩
  simp only at g0 g1 h0 h1
  obtain ⟨K, hK⟩ : ∃ K, K = 2 * l.length + 6 := ⟨_, rfl⟩
  refine ⟨K + 1 + 1 + 1, ?_⟩
  unfold beaconlaw12_SessionMeets.f
  rw [beaconlaw12_SessionMeets.l0, if_pos (by decide), if_pos rfl, new_f, Option.bind_some]
  by_cases c0 : n0 = 0
  · rw [if_pos c0]
    simp only
    rw [if_neg (by decide), if_pos c0, awake_f]
    rfl
  · rw [if_neg c0]
    simp only
    rw [if_pos trivial, beaconlaw12_SessionMeets.l0, if_pos (by decide), if_neg (by decide), if_pos rfl, new_f, Option.bind_some]
    by_cases c1 : n1 = 0
    · rw [if_pos c1]
      simp only
      rw [if_neg (by decide), if_pos c1, awake_f]
      rfl
    · rw [if_neg c1]
      simp only
      rw [if_pos trivial, beaconlaw12_SessionMeets.l0, if_neg (by decide)]
      exact steps l hl l.length _ 0 _ _ _ _ _ _ _ _ (by omega) (by omega) (by omega) ⟨by omega, by omega, h0, h1, by omega, by omega⟩
end Go.Proofs.Ytjodekffbobmlaa.Pure
