/- SessionAgrees: whatever is lost, doubled, held back and told in any order, and whatever time passes, what an end accepts was sent when the other one had the session of two that this one has now; nonces do not fall; who is Up was heard. -/
import Derived.Test.YtjodekffbobmlaaSSessionAgrees
namespace Go.Proofs.Ytjodekffbobmlaa.Pure
open Go.RowKit Go.Proofs.YtjodekffbobmlaaW.PrintWords Go.Proofs.Ytjodekffbobmlaa.XA

theorem odd_bitA (x : Int) : Go.bits .and .i64 x 1 = 0 ∨ Go.bits .and .i64 x 1 = 1 := by
  unfold Go.bits
  simp only [BitVec.toNat_and]
  have h1 : (BitVec.ofInt IntKind.i64.bits 1).toNat = 1 := by decide
  rw [h1]
  have h2 : (BitVec.ofInt IntKind.i64.bits x).toNat &&& 1 ≤ 1 := Nat.and_le_right
  rcases Nat.lt_or_eq_of_le h2 with h | h
  · have h3 : (BitVec.ofInt IntKind.i64.bits x).toNat &&& 1 = 0 := by omega
    rw [h3]; left; decide
  · rw [h]; right; decide
theorem awakeA_small : beaconlaw12_awake.f 40 = some true := by decide +kernel
theorem awakeA (n : Nat) : beaconlaw12_awake.f (40 + n) = some true := by
  induction n with
  | zero => exact awakeA_small
  | succ n ih => exact beaconlaw12_awake.mono _ _ ih
theorem wrap_upA (n : Nat) (h : n ≤ 4611686018427387904) : wrap64 ((n : Int) + 1) = ((n + 1 : Nat) : Int) := by unfold wrap64; omega
theorem drop_consA {α : Type} {l : List α} {n : Nat} {x : α} {xs : List α} (h : l.drop n = x :: xs) : n < l.length ∧ l.drop (n + 1) = xs ∧ ∀ d, l.getD n d = x := by
  have h1 : n < l.length := by
    rcases Nat.lt_or_ge n l.length with h1 | h1
    · exact h1
    · rw [List.drop_eq_nil_of_le h1] at h
      cases h
  rw [List.drop_eq_getElem_cons h1] at h
  injection h with h2 h3
  exact ⟨h1, h3, fun d => by rw [List.getD_eq_getElem?_getD, List.getElem?_eq_getElem h1, Option.getD_some, h2]⟩
theorem drop_nilA {α : Type} {l : List α} {n : Nat} (h : l.drop n = []) : l.length ≤ n := by
  rcases Nat.lt_or_ge n l.length with h1 | h1
  · rw [List.drop_eq_getElem_cons h1] at h
    cases h
  · exact h1
/-- A greeting of the other end's is on its way that tells this end's session of two. -/
def Heard (way : List S50) (k p m : Int) : Prop := ∃ j : Nat, j < way.length ∧ (rd_T50 way j).f0 ≠ k ∧ (rd_T50 way j).f1 = p ∧ (rd_T50 way j).f2 = m
theorem rd_append (way : List S50) (x : S50) (j : Nat) (h : j < way.length) : rd_T50 (way ++ [x]) (j : Int) = rd_T50 way (j : Int) := by
  unfold rd_T50
  rw [Int.toNat_natCast, List.getD_eq_getElem?_getD, List.getD_eq_getElem?_getD, List.getElem?_append_left h]
theorem Heard.more {way : List S50} {k p m : Int} (h : Heard way k p m) (x : S50) : Heard (way ++ [x]) k p m := by
  obtain ⟨j, h1, h2⟩ := h
  refine ⟨j, by rw [List.length_append]; omega, ?_⟩
  rw [rd_append way x j h1]
  exact h2
theorem heard_l (way : List S50) (hw : way.length ≤ 5864062014805) (k m p : Int) (u : Bool) (s : Int) (j : Nat) (h1 : j < way.length) (h2 : (rd_T50 way j).f0 ≠ k) (h3 : (rd_T50 way j).f1 = p) (h4 : (rd_T50 way j).f2 = m) :
    ∀ (d i q : Nat), i + d = j → 2 * d + 2 ≤ q → beaconlaw12_heard.l0 q way k i m p u s = some true
  | 0, i, q, hi, hq => by
    obtain ⟨q, rfl⟩ : ∃ z, q = z + 2 := ⟨q - 2, by omega⟩
    obtain rfl : i = j := by omega
    rw [beaconlaw12_heard.l0, if_pos (by omega), if_pos (by omega), if_neg h2, if_pos h3, beaconlaw12_heard.j1, if_pos (by rw [h4]; exact beq_self_eq_true m)]
  | d + 1, i, q, hi, hq => by
    obtain ⟨q, rfl⟩ : ∃ z, q = z + 2 := ⟨q - 2, by omega⟩
    have ih := heard_l way hw k m p u s j h1 h2 h3 h4 d (i + 1) q (by omega) (by omega)
    have e : ∀ b, beaconlaw12_heard.j1 (q + 1) way k i b m p u s = some true := by
      intro b
      rw [beaconlaw12_heard.j1]
      cases b with
      | true => rw [if_pos rfl]
      | false => rw [if_neg (by decide), wrap_upA i (by omega), ih]
    rw [beaconlaw12_heard.l0, if_pos (by omega), if_pos (by omega)]
    simp only [e]
    split
    · rfl
    · split
      · rfl
      · rfl
theorem heard_ok {way : List S50} {k p m : Int} (h : Heard way k p m) (hw : way.length ≤ 5864062014805) (u : Bool) (s : Int) (q : Nat) (hq : 2 * way.length + 2 ≤ q) : beaconlaw12_heard.f q way k m p u s = some true := by
  obtain ⟨j, h1, h2, h3, h4⟩ := h
  exact heard_l way hw k m p u s j h1 h2 h3 h4 j 0 q (by omega) (by omega)

/-! ### the calls -/
theorem hear_s (q : Nat) (hq : 2 ≤ q) (m p : Int) (u : Bool) (s n e : Int) : ∃ m' p' u' s' a b, session_Hear.f q m p u s n e = some (m', p', u', s', a, b) ∧ m' = m ∧ p ≤ p' ∧ (u' = true → (u = true ∧ p' = p) ∨ (p' = n ∧ e = m)) := by
  obtain ⟨q, rfl⟩ : ∃ z, q = z + 2 := ⟨q - 2, by omega⟩
  unfold session_Hear.f
  by_cases h0 : n = 0
  · rw [if_pos h0, session_Hear.j0, if_pos rfl]
    exact ⟨_, _, _, _, _, _, rfl, rfl, Int.le_refl _, fun h => Or.inl ⟨h, rfl⟩⟩
  · rw [if_neg h0, session_Hear.j0]
    by_cases h1 : n < p
    · rw [decide_eq_true h1, if_pos rfl]
      exact ⟨_, _, _, _, _, _, rfl, rfl, Int.le_refl _, fun h => Or.inl ⟨h, rfl⟩⟩
    · rw [decide_eq_false h1, if_neg (by decide)]
      by_cases h2 : n > p
      · rw [if_pos h2, session_Hear.j1]
        by_cases h3 : e = m
        · rw [if_pos h3]
          exact ⟨_, _, _, _, _, _, rfl, rfl, Int.le_of_lt h2, fun _ => Or.inr ⟨rfl, h3⟩⟩
        · rw [if_neg h3]
          exact ⟨_, _, _, _, _, _, rfl, rfl, Int.le_of_lt h2, fun h => by cases h⟩
      · rw [if_neg h2, session_Hear.j1]
        by_cases h3 : e = m
        · rw [if_pos h3]
          exact ⟨_, _, _, _, _, _, rfl, rfl, Int.le_refl _, fun _ => Or.inr ⟨(by show p = n; omega), h3⟩⟩
        · rw [if_neg h3]
          exact ⟨_, _, _, _, _, _, rfl, rfl, Int.le_refl _, fun h => Or.inl ⟨h, rfl⟩⟩
theorem accept_s (q : Nat) (hq : 2 ≤ q) (m p : Int) (u : Bool) (s n e : Int) : ∃ u' s' a b, session_Accept.f q m p u s n e = some (m, p, u', s', a, b) ∧ (a = true → n = p ∧ e = m) ∧ (u' = true → u = true ∨ (n = p ∧ e = m)) := by
  obtain ⟨q, rfl⟩ : ∃ z, q = z + 2 := ⟨q - 2, by omega⟩
  unfold session_Accept.f
  by_cases h0 : n = 0
  · rw [if_pos h0, session_Accept.j0, if_pos rfl]
    exact ⟨_, _, _, _, rfl, fun h => by (cases h), fun h => Or.inl h⟩
  · rw [if_neg h0]
    by_cases h1 : n = p
    · rw [if_pos h1, session_Accept.j0]
      by_cases h2 : e = m
      · rw [if_neg (by simp [h2])]
        exact ⟨_, _, _, _, rfl, fun _ => ⟨h1, h2⟩, fun _ => Or.inr ⟨h1, h2⟩⟩
      · rw [if_pos (by simp [h2])]
        exact ⟨_, _, _, _, rfl, fun h => by (cases h), fun h => Or.inl h⟩
    · rw [if_neg h1, session_Accept.j0, if_pos rfl]
      exact ⟨_, _, _, _, rfl, fun h => by (cases h), fun h => Or.inl h⟩
theorem down_s (m p : Int) (u : Bool) (s : Int) (hm : 0 ≤ m) : ∃ m', session_Down.f m p u s = some (m', 0, false, 0) ∧ m ≤ m' := by
  unfold session_Down.f
  by_cases h : m < 18446744073709551615
  · rw [if_pos h]
    have e : IntKind.u64.wrap (m + 1) = m + 1 := by
      show (m + 1) % 18446744073709551616 = _
      omega
    exact ⟨_, rfl, by rw [e]; omega⟩
  · rw [if_neg h]
    exact ⟨_, rfl, Int.le_refl _⟩
theorem tick_s (q : Nat) (hq : 1 ≤ q) (m p : Int) (u : Bool) (s life : Int) (hm : 0 ≤ m) : ∃ m' p' u' s' a, session_Tick.f q m p u s life = some (m', p', u', s', a) ∧ m ≤ m' ∧ ((m' = m ∧ p' = p ∧ u' = u) ∨ (p' = 0 ∧ u' = false)) := by
  obtain ⟨q, rfl⟩ : ∃ z, q = z + 1 := ⟨q - 1, by omega⟩
  have hj : ∀ t, ∃ m' p' u' s' a, session_Tick.j0 (q + 1) life m p u t = some (m', p', u', s', a) ∧ m ≤ m' ∧ ((m' = m ∧ p' = p ∧ u' = u) ∨ (p' = 0 ∧ u' = false)) := by
    intro t
    rw [session_Tick.j0]
    by_cases h : t ≥ life
    · obtain ⟨m', h1, h2⟩ := down_s m p u t hm
      rw [if_pos h, h1]
      exact ⟨_, _, _, _, _, rfl, h2, Or.inr ⟨rfl, rfl⟩⟩
    · rw [if_neg h]
      exact ⟨_, _, _, _, _, rfl, Int.le_refl _, Or.inl ⟨rfl, rfl, rfl⟩⟩
  unfold session_Tick.f
  by_cases h : p = 0
  · rw [if_pos h]
    exact ⟨_, _, _, _, _, rfl, Int.le_refl _, Or.inl ⟨rfl, rfl, rfl⟩⟩
  · rw [if_neg h]
    by_cases h' : s < 9223372036854775807
    · rw [if_pos h']; exact hj _
    · rw [if_neg h']; exact hj _

/-! ### one step -/
def Good (way : List S50) (m0 p0 : Int) (u0 : Bool) (m1 p1 : Int) (u1 : Bool) : Prop := 0 ≤ m0 ∧ 0 ≤ m1 ∧ (u0 = true → Heard way 0 p0 m0) ∧ (u1 = true → Heard way 1 p1 m1)
def Next (K : Nat) (l : List S33) (n : Nat) : Prop := ∀ (k : Nat) (way : List S50) (m0 p0 : Int) (u0 : Bool) (s0 m1 p1 : Int) (u1 : Bool) (s1 : Int), K ≤ k → way.length ≤ n + 1 → Good way m0 p0 u0 m1 p1 u1 → beaconlaw12_SessionAgrees.l1 k l way ((n + 1 : Nat) : Int) m0 p0 u0 s0 m1 p1 u1 s1 = some true

/-! ### the end 0 -/
theorem j6_ok (K : Nat) (l : List S33) (n : Nat) (hn : n ≤ 4398046511104) (IH : Next K l n) (way : List S50) (hw : way.length ≤ n + 1) (m p : Int) (u : Bool) (s mo po : Int) (uo : Bool) (so m0 p0 : Int) (u0 : Bool) (s0 : Int)
    (hg : Good way m p u mo po uo) (h1 : m0 ≤ m) (h2 : p0 ≤ p ∨ p = 0) (k : Nat) (hk : K + 2 * way.length + 10 ≤ k) :
    beaconlaw12_SessionAgrees.j6 k l way n 0 m p u s mo po uo so m0 p0 u0 s0 = some true := by
  obtain ⟨k, rfl⟩ : ∃ z, k = z + 2 := ⟨k - 2, by omega⟩
  have e7 : beaconlaw12_SessionAgrees.j7 (k + 1) l way n false m p u s mo po uo so = some true := by
    rw [beaconlaw12_SessionAgrees.j7, if_neg (by decide), wrap_upA n (by omega)]
    exact IH k way m p u s mo po uo so (by omega) hw hg
  rw [beaconlaw12_SessionAgrees.j6, if_pos rfl, if_neg (by omega)]
  have e8 : (if u = true then ((beaconlaw12_heard.f (k + 1) way 0 m p u s).bind fun t => (beaconlaw12_SessionAgrees.j7 (k + 1) l way n (!t) m p u s mo po uo so)) else (beaconlaw12_SessionAgrees.j7 (k + 1) l way n false m p u s mo po uo so)) = some true := by
    cases u with
    | false => rw [if_neg (by decide)]; exact e7
    | true =>
      rw [if_pos rfl, heard_ok (hg.2.2.1 rfl) (by omega) true s (k + 1) (by omega), Option.bind_some]
      exact e7
  by_cases h3 : p < p0
  · rw [if_pos h3, if_pos (by omega)]
    exact e8
  · rw [if_neg h3]
    exact e8
theorem j3_ok (K : Nat) (l : List S33) (n : Nat) (hn : n ≤ 4398046511104) (IH : Next K l n) (way : List S50) (hw : way.length ≤ n) (m p : Int) (u : Bool) (s mo po : Int) (uo : Bool) (so : Int) (b : Bool) (y0 y1 : Int) (i : Nat) (hi : i < way.length) (y3 : Int)
    (hb : b = false → (rd_T50 way i).f0 ≠ 0) (hg : Good way m p u mo po uo) (k : Nat) (hk : K + 2 * way.length + 20 ≤ k) :
    beaconlaw12_SessionAgrees.j3 k l way n 0 b m p u s mo po uo so y0 y1 i y3 m p u s = some true := by
  obtain ⟨k, rfl⟩ : ∃ z, k = z + 3 := ⟨k - 3, by omega⟩
  rw [beaconlaw12_SessionAgrees.j3]
  cases b with
  | true =>
    rw [if_pos rfl, wrap_upA n (by omega)]
    exact IH _ way m p u s mo po uo so (by omega) (by omega) hg
  | false =>
    have hr := hb rfl
    rw [if_neg (by decide), if_pos (by omega), if_pos (by omega)]
    by_cases c1 : y1 = 1
    · obtain ⟨m', p', u', s', a, b', e1, e2, e3, e4⟩ := hear_s (k + 2) (by omega) m p u s (rd_T50 way i).f1 (rd_T50 way i).f2
      rw [if_pos c1, if_pos rfl, e1, Option.bind_some]
      subst e2
      refine j6_ok K l n hn IH way (by omega) m' p' u' s' mo po uo so m' p u s ⟨hg.1, hg.2.1, fun h => ?_, hg.2.2.2⟩ (Int.le_refl _) (Or.inl e3) (k + 2) (by omega)
      rcases e4 h with ⟨h5, h6⟩ | ⟨h5, h6⟩
      · rw [h6]; exact hg.2.2.1 h5
      · exact ⟨i, hi, hr, h5.symm, h6⟩
    · obtain ⟨u', s', a, b', e1, e2, e3⟩ := accept_s (k + 2) (by omega) m p u s (rd_T50 way i).f1 (rd_T50 way i).f2
      have hA : beaconlaw12_SessionAgrees.j4 (k + 2) l way n 0 false m p u' s' mo po uo so m p u s = some true := by
        rw [beaconlaw12_SessionAgrees.j4, if_neg (by decide)]
        refine j6_ok K l n hn IH way (by omega) m p u' s' mo po uo so m p u s ⟨hg.1, hg.2.1, fun h => ?_, hg.2.2.2⟩ (Int.le_refl _) (Or.inl (Int.le_refl _)) (k + 1) (by omega)
        rcases e3 h with h5 | ⟨h5, h6⟩
        · exact hg.2.2.1 h5
        · exact ⟨i, hi, hr, h5, h6⟩
      rw [if_neg c1, if_pos rfl, e1, Option.bind_some]
      cases a with
      | false =>
        rw [if_neg (by simp)]
        exact hA
      | true =>
        obtain ⟨h5, h6⟩ := e2 rfl
        rw [if_pos rfl, if_pos h5, h6, bne_self_eq_false]
        exact hA
theorem j2_ok (K : Nat) (l : List S33) (n : Nat) (hn : n ≤ 4398046511104) (IH : Next K l n) (way : List S50) (hw : way.length ≤ n) (m p : Int) (u : Bool) (s mo po : Int) (uo : Bool) (so : Int) (d : Int) (b : Bool) (y0 y1 y2 y3 : Int)
    (hg : Good way m p u mo po uo) (k : Nat) (hk : K + 2 * way.length + 30 ≤ k) :
    beaconlaw12_SessionAgrees.j2 k l way n 0 d b m p u s mo po uo so y0 y1 y2 y3 m p u s = some true := by
  obtain ⟨k, rfl⟩ : ∃ z, k = z + 1 := ⟨k - 1, by omega⟩
  rw [beaconlaw12_SessionAgrees.j2]
  have skip : beaconlaw12_SessionAgrees.j3 k l way n 0 true m p u s mo po uo so y0 y1 y2 y3 m p u s = some true := by
    obtain ⟨k, rfl⟩ : ∃ z, k = z + 1 := ⟨k - 1, by omega⟩
    rw [beaconlaw12_SessionAgrees.j3, if_pos rfl, wrap_upA n (by omega)]
    exact IH _ way m p u s mo po uo so (by omega) (by omega) hg
  cases b with
  | true =>
    rw [if_pos rfl]
    by_cases c1 : y2 < 0
    · rw [if_pos c1]; exact skip
    · rw [if_neg c1]
      by_cases c2 : y2 ≥ (way.length : Int)
      · rw [if_pos c2]; exact skip
      · rw [if_neg c2, if_pos (by omega), if_pos (by omega)]
        obtain ⟨i, rfl⟩ : ∃ i : Nat, y2 = i := ⟨y2.toNat, by omega⟩
        exact j3_ok K l n hn IH way hw m p u s mo po uo so _ y0 y1 i (by omega) y3 (fun h => by simpa using h) hg k (by omega)
  | false =>
    rw [if_neg (by decide)]
    by_cases c3 : d = 3
    · obtain ⟨m', p', u', s', a, e1, e2, e3⟩ := tick_s k (by omega) m p u s y3 hg.1
      rw [if_pos c3, if_pos rfl, e1, Option.bind_some]
      have h0 := hg.1
      rcases e3 with ⟨h4, h5, h6⟩ | ⟨h4, h5⟩
      · subst h4 h5 h6
        exact j6_ok K l n hn IH way (by omega) _ _ _ s' mo po uo so _ _ _ s hg (Int.le_refl _) (Or.inl (Int.le_refl _)) k (by omega)
      · subst h4 h5
        exact j6_ok K l n hn IH way (by omega) m' 0 false s' mo po uo so m p u s ⟨(by omega), hg.2.1, fun h => (by cases h), hg.2.2.2⟩ e2 (Or.inr rfl) k (by omega)
    · rw [if_neg c3]
      by_cases c4 : d = 4
      · obtain ⟨m', e1, e2⟩ := down_s m p u s hg.1
        have h0 := hg.1
        rw [if_pos c4, if_pos rfl, e1, Option.bind_some]
        exact j6_ok K l n hn IH way (by omega) m' 0 false 0 mo po uo so m p u s ⟨(by omega), hg.2.1, fun h => (by cases h), hg.2.2.2⟩ e2 (Or.inr rfl) k (by omega)
      · rw [if_neg c4]
        exact j6_ok K l n hn IH way (by omega) m p u s mo po uo so m p u s hg (Int.le_refl _) (Or.inl (Int.le_refl _)) k (by omega)

/-! ### the end 1 -/
theorem j13_ok (K : Nat) (l : List S33) (n : Nat) (hn : n ≤ 4398046511104) (IH : Next K l n) (way : List S50) (hw : way.length ≤ n + 1) (m p : Int) (u : Bool) (s mo po : Int) (uo : Bool) (so m0 p0 : Int) (u0 : Bool) (s0 : Int)
    (hg : Good way mo po uo m p u) (h1 : m0 ≤ m) (h2 : p0 ≤ p ∨ p = 0) (k : Nat) (hk : K + 2 * way.length + 10 ≤ k) :
    beaconlaw12_SessionAgrees.j13 k l way n 1 mo po uo so m p u s m0 p0 u0 s0 = some true := by
  obtain ⟨k, rfl⟩ : ∃ z, k = z + 2 := ⟨k - 2, by omega⟩
  have e7 : beaconlaw12_SessionAgrees.j15 (k + 1) l way n false mo po uo so m p u s = some true := by
    rw [beaconlaw12_SessionAgrees.j15, if_neg (by decide), wrap_upA n (by omega)]
    exact IH k way mo po uo so m p u s (by omega) hw hg
  rw [beaconlaw12_SessionAgrees.j13, if_neg (by decide), if_pos rfl, if_neg (by omega)]
  have e8 : (if u = true then ((beaconlaw12_heard.f (k + 1) way 1 m p u s).bind fun t => (beaconlaw12_SessionAgrees.j15 (k + 1) l way n (!t) mo po uo so m p u s)) else (beaconlaw12_SessionAgrees.j15 (k + 1) l way n false mo po uo so m p u s)) = some true := by
    cases u with
    | false => rw [if_neg (by decide)]; exact e7
    | true =>
      rw [if_pos rfl, heard_ok (hg.2.2.2 rfl) (by omega) true s (k + 1) (by omega), Option.bind_some]
      exact e7
  by_cases h3 : p < p0
  · rw [if_pos h3, if_pos (by omega)]
    exact e8
  · rw [if_neg h3]
    exact e8
theorem j10_ok (K : Nat) (l : List S33) (n : Nat) (hn : n ≤ 4398046511104) (IH : Next K l n) (way : List S50) (hw : way.length ≤ n) (m p : Int) (u : Bool) (s mo po : Int) (uo : Bool) (so : Int) (b : Bool) (y0 y1 : Int) (i : Nat) (hi : i < way.length) (y3 : Int)
    (hb : b = false → (rd_T50 way i).f0 ≠ 1) (hg : Good way mo po uo m p u) (k : Nat) (hk : K + 2 * way.length + 20 ≤ k) :
    beaconlaw12_SessionAgrees.j10 k l way n 1 b mo po uo so m p u s y0 y1 i y3 m p u s = some true := by
  obtain ⟨k, rfl⟩ : ∃ z, k = z + 3 := ⟨k - 3, by omega⟩
  rw [beaconlaw12_SessionAgrees.j10]
  cases b with
  | true =>
    rw [if_pos rfl, wrap_upA n (by omega)]
    exact IH _ way mo po uo so m p u s (by omega) (by omega) hg
  | false =>
    have hr := hb rfl
    rw [if_neg (by decide), if_pos (by omega), if_pos (by omega)]
    by_cases c1 : y1 = 1
    · obtain ⟨m', p', u', s', a, b', e1, e2, e3, e4⟩ := hear_s (k + 2) (by omega) m p u s (rd_T50 way i).f1 (rd_T50 way i).f2
      rw [if_pos c1, if_neg (by decide), if_pos rfl, e1, Option.bind_some]
      subst e2
      refine j13_ok K l n hn IH way (by omega) m' p' u' s' mo po uo so m' p u s ⟨hg.1, hg.2.1, hg.2.2.1, fun h => ?_⟩ (Int.le_refl _) (Or.inl e3) (k + 2) (by omega)
      rcases e4 h with ⟨h5, h6⟩ | ⟨h5, h6⟩
      · rw [h6]; exact hg.2.2.2 h5
      · exact ⟨i, hi, hr, h5.symm, h6⟩
    · obtain ⟨u', s', a, b', e1, e2, e3⟩ := accept_s (k + 2) (by omega) m p u s (rd_T50 way i).f1 (rd_T50 way i).f2
      have hA : beaconlaw12_SessionAgrees.j12 (k + 2) l way n 1 false mo po uo so m p u' s' m p u s = some true := by
        rw [beaconlaw12_SessionAgrees.j12, if_neg (by decide)]
        refine j13_ok K l n hn IH way (by omega) m p u' s' mo po uo so m p u s ⟨hg.1, hg.2.1, hg.2.2.1, fun h => ?_⟩ (Int.le_refl _) (Or.inl (Int.le_refl _)) (k + 1) (by omega)
        rcases e3 h with h5 | ⟨h5, h6⟩
        · exact hg.2.2.2 h5
        · exact ⟨i, hi, hr, h5, h6⟩
      rw [if_neg c1, if_neg (by decide), if_pos rfl, e1, Option.bind_some]
      cases a with
      | false =>
        rw [if_neg (by simp)]
        exact hA
      | true =>
        obtain ⟨h5, h6⟩ := e2 rfl
        rw [if_pos rfl, if_pos h5, h6, bne_self_eq_false]
        exact hA
theorem j9_ok (K : Nat) (l : List S33) (n : Nat) (hn : n ≤ 4398046511104) (IH : Next K l n) (way : List S50) (hw : way.length ≤ n) (m p : Int) (u : Bool) (s mo po : Int) (uo : Bool) (so : Int) (d : Int) (b : Bool) (y0 y1 y2 y3 : Int)
    (hg : Good way mo po uo m p u) (k : Nat) (hk : K + 2 * way.length + 30 ≤ k) :
    beaconlaw12_SessionAgrees.j9 k l way n 1 d b mo po uo so m p u s y0 y1 y2 y3 m p u s = some true := by
  obtain ⟨k, rfl⟩ : ∃ z, k = z + 1 := ⟨k - 1, by omega⟩
  rw [beaconlaw12_SessionAgrees.j9]
  have skip : beaconlaw12_SessionAgrees.j10 k l way n 1 true mo po uo so m p u s y0 y1 y2 y3 m p u s = some true := by
    obtain ⟨k, rfl⟩ : ∃ z, k = z + 1 := ⟨k - 1, by omega⟩
    rw [beaconlaw12_SessionAgrees.j10, if_pos rfl, wrap_upA n (by omega)]
    exact IH _ way mo po uo so m p u s (by omega) (by omega) hg
  cases b with
  | true =>
    rw [if_pos rfl]
    by_cases c1 : y2 < 0
    · rw [if_pos c1]; exact skip
    · rw [if_neg c1]
      by_cases c2 : y2 ≥ (way.length : Int)
      · rw [if_pos c2]; exact skip
      · rw [if_neg c2, if_pos (by omega), if_pos (by omega)]
        obtain ⟨i, rfl⟩ : ∃ i : Nat, y2 = i := ⟨y2.toNat, by omega⟩
        exact j10_ok K l n hn IH way hw m p u s mo po uo so _ y0 y1 i (by omega) y3 (fun h => by simpa using h) hg k (by omega)
  | false =>
    rw [if_neg (by decide)]
    by_cases c3 : d = 3
    · obtain ⟨m', p', u', s', a, e1, e2, e3⟩ := tick_s k (by omega) m p u s y3 hg.2.1
      rw [if_pos c3, if_neg (by decide), if_pos rfl, e1, Option.bind_some]
      have h0 := hg.2.1
      rcases e3 with ⟨h4, h5, h6⟩ | ⟨h4, h5⟩
      · subst h4 h5 h6
        exact j13_ok K l n hn IH way (by omega) _ _ _ s' mo po uo so _ _ _ s hg (Int.le_refl _) (Or.inl (Int.le_refl _)) k (by omega)
      · subst h4 h5
        exact j13_ok K l n hn IH way (by omega) m' 0 false s' mo po uo so m p u s ⟨hg.1, (by omega), hg.2.2.1, fun h => (by cases h)⟩ e2 (Or.inr rfl) k (by omega)
    · rw [if_neg c3]
      by_cases c4 : d = 4
      · obtain ⟨m', e1, e2⟩ := down_s m p u s hg.2.1
        have h0 := hg.2.1
        rw [if_pos c4, if_neg (by decide), if_pos rfl, e1, Option.bind_some]
        exact j13_ok K l n hn IH way (by omega) m' 0 false 0 mo po uo so m p u s ⟨hg.1, (by omega), hg.2.2.1, fun h => (by cases h)⟩ e2 (Or.inr rfl) k (by omega)
      · rw [if_neg c4]
        exact j13_ok K l n hn IH way (by omega) m p u s mo po uo so m p u s hg (Int.le_refl _) (Or.inl (Int.le_refl _)) k (by omega)

theorem steps (l : List S33) (hl : l.length ≤ 4398046511104) : ∀ (rest : List S33) (n : Nat) (k : Nat) (way : List S50) (m0 p0 : Int) (u0 : Bool) (s0 m1 p1 : Int) (u1 : Bool) (s1 : Int), l.drop n = rest → way.length ≤ n → Good way m0 p0 u0 m1 p1 u1 → 10 * rest.length + 2 * l.length + 60 ≤ k →
    beaconlaw12_SessionAgrees.l1 (k + rest.length * (2 * l.length + 60)) l way n m0 p0 u0 s0 m1 p1 u1 s1 = some true
  | [], n, k, way, m0, p0, u0, s0, m1, p1, u1, s1, h, hw, hg, hk => by
    obtain ⟨k, rfl⟩ : ∃ z, k = 40 + z + 1 := ⟨k - 41, by omega⟩
    have := drop_nilA h
    rw [List.length_nil, Nat.zero_mul, Nat.add_zero, beaconlaw12_SessionAgrees.l1, if_neg (by omega), awakeA]
    rfl
  | x :: xs, n, k, way, m0, p0, u0, s0, m1, p1, u1, s1, h, hw, hg, hk => by
    obtain ⟨h1, h2, h3⟩ := drop_consA h
    have hrd : rd_T33 l (n : Int) = x := by unfold rd_T33; rw [Int.toNat_natCast]; exact h3 _
    simp only [List.length_cons] at hk
    rw [List.length_cons, Nat.succ_mul]
    generalize hB : xs.length * (2 * l.length + 60) = B
    obtain ⟨k, rfl⟩ : ∃ z, k = z + 1 := ⟨k - 1, by omega⟩
    have IH : Next (k + B) l n := by
      intro k' way' m0' p0' u0' s0' m1' p1' u1' s1' hk' hw' hg'
      obtain ⟨e, rfl⟩ : ∃ e, k' = (k + e) + B := ⟨k' - k - B, by omega⟩
      have := steps l hl xs (n + 1) (k + e) way' m0' p0' u0' s0' m1' p1' u1' s1' h2 hw' hg' (by omega)
      rw [hB] at this
      exact this
    rw [show k + 1 + (B + (2 * l.length + 60)) = (k + B + 2 * l.length + 60) + 1 by omega, beaconlaw12_SessionAgrees.l1, if_pos (by omega), if_pos (by omega), hrd]
    have hbits : Go.bits .and .i64 x.f0 1 = 0 ∨ Go.bits .and .i64 x.f0 1 = 1 := odd_bitA _
    have hroom : way.length < 5864062014805 := by omega
    rcases hbits with hb | hb
    · rw [if_pos hb]
      by_cases c : x.f1 = 0
      · rw [if_pos c]
        unfold session_Hello.f
        rw [Option.bind_some, if_pos hroom]
        exact j6_ok (k + B) l n (by omega) IH _ (by rw [List.length_append]; simp; omega) m0 p0 u0 s0 m1 p1 u1 s1 m0 p0 u0 s0 ⟨hg.1, hg.2.1, fun h => (hg.2.2.1 h).more _, fun h => (hg.2.2.2 h).more _⟩ (Int.le_refl _) (Or.inl (Int.le_refl _)) _ (by rw [List.length_append]; simp; omega)
      · rw [if_neg c]
        split
        · exact j2_ok (k + B) l n (by omega) IH way hw m0 p0 u0 s0 m1 p1 u1 s1 _ _ _ _ _ _ hg _ (by omega)
        · exact j2_ok (k + B) l n (by omega) IH way hw m0 p0 u0 s0 m1 p1 u1 s1 _ _ _ _ _ _ hg _ (by omega)
    · rw [if_neg (by rw [hb]; decide), if_pos hb]
      by_cases c : x.f1 = 0
      · rw [if_pos c]
        unfold session_Hello.f
        rw [Option.bind_some, if_pos hroom]
        exact j13_ok (k + B) l n (by omega) IH _ (by rw [List.length_append]; simp; omega) m1 p1 u1 s1 m0 p0 u0 s0 m1 p1 u1 s1 ⟨hg.1, hg.2.1, fun h => (hg.2.2.1 h).more _, fun h => (hg.2.2.2 h).more _⟩ (Int.le_refl _) (Or.inl (Int.le_refl _)) _ (by rw [List.length_append]; simp; omega)
      · rw [if_neg c]
        split
        · exact j9_ok (k + B) l n (by omega) IH way hw m1 p1 u1 s1 m0 p0 u0 s0 _ _ _ _ _ _ hg _ (by omega)
        · exact j9_ok (k + B) l n (by omega) IH way hw m1 p1 u1 s1 m0 p0 u0 s0 _ _ _ _ _ _ hg _ (by omega)
theorem SessionAgrees : Go.Proofs.Ytjodekffbobmlaa.XA.SessionAgrees.Pure := by
  rintro ⟨a, b⟩ l ⟨⟨ha, _⟩, ⟨hb, _⟩⟩ ⟨hl, _⟩
  have ha : 0 ≤ a := ha
  have hb : 0 ≤ b := hb
  have hN : ∀ (k : Nat), 12 * l.length + 60 ≤ k → ∀ (m0 m1 : Int), 0 ≤ m0 → 0 ≤ m1 → beaconlaw12_SessionAgrees.l1 (k + l.length * (2 * l.length + 60)) l [] 0 m0 0 false 0 m1 0 false 0 = some true := by
    intro k hk m0 m1 h0 h1
    exact steps l (by omega) l 0 k [] m0 0 false 0 m1 0 false 0 rfl (Nat.zero_le _) ⟨h0, h1, fun h => (by cases h), fun h => (by cases h)⟩ (by omega)
  generalize hB : l.length * (2 * l.length + 60) = B at hN
  refine ⟨12 * l.length + 100 + B + 3, ?_⟩
  show beaconlaw12_SessionAgrees.l0 (12 * l.length + 100 + B + 3) l 0 a b 0 0 false 0 0 0 false 0 = some true
  have aw : ∀ j, 40 ≤ j → beaconlaw12_awake.f j = some true := fun j hj => by
    obtain ⟨i, rfl⟩ : ∃ i, j = 40 + i := ⟨j - 40, by omega⟩
    exact awakeA i
  rw [beaconlaw12_SessionAgrees.l0, if_pos (by decide), if_pos rfl]
  unfold session_New.f
  by_cases c0 : a = 0
  · rw [if_pos c0, Option.bind_some, if_neg (by decide), if_pos c0, aw _ (by omega)]
    rfl
  · rw [if_neg c0, Option.bind_some, if_pos rfl, beaconlaw12_SessionAgrees.l0, if_pos (by decide), if_neg (by decide), if_pos rfl]
    unfold session_New.f
    by_cases c1 : b = 0
    · rw [if_pos c1, Option.bind_some, if_neg (by decide), if_pos c1, aw _ (by omega)]
      rfl
    · rw [if_neg c1, Option.bind_some, if_pos rfl, beaconlaw12_SessionAgrees.l0, if_neg (by decide)]
      rw [show 12 * l.length + 100 + B = (12 * l.length + 100) + B from rfl]
      exact hN (12 * l.length + 100) (by omega) a b ha hb
end Go.Proofs.Ytjodekffbobmlaa.Pure
