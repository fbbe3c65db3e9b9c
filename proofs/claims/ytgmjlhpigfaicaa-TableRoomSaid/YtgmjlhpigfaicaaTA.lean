/- What table.Keep, the reference's Keep and their helpers come to, in plain lists. -/
import Derived.Test.YtgmjlhpigfaicaaXAx5
import Derived.Test.YtgmjlhpigfaicaaXAx6
import Derived.Test.YtgmjlhpigfaicaaXAx12
import Derived.Test.YtgmjlhpigfaicaaXAx13
import Derived.Test.YtgmjlhpigfaicaaXAx9
namespace Go.Proofs.Ytgmjlhpigfaicaa.Pure
open Go.RowKit Go.Proofs.YtgmjlhpigfaicaaW.PrintWords Go.Proofs.Ytgmjlhpigfaicaa.XA

theorem awake_small : beaconlaw17_awake.f 30 = some true := by decide +kernel
theorem awake_f (n : Nat) : beaconlaw17_awake.f (30 + n) = some true := by
  induction n with
  | zero => exact awake_small
  | succ n ih => exact beaconlaw17_awake.mono _ _ ih
theorem drop_cons {α : Type} {l : List α} {n : Nat} {x : α} {xs : List α} (h : l.drop n = x :: xs) : n < l.length ∧ l.drop (n + 1) = xs ∧ ∀ d, l.getD n d = x := by
  have h1 : n < l.length := by
    rcases Nat.lt_or_ge n l.length with h1 | h1
    · exact h1
    · rw [List.drop_eq_nil_of_le h1] at h
      cases h
  rw [List.drop_eq_getElem_cons h1] at h
  injection h with h2 h3
  exact ⟨h1, h3, fun d => by rw [List.getD_eq_getElem?_getD, List.getElem?_eq_getElem h1, Option.getD_some, h2]⟩
theorem drop_nil {α : Type} {l : List α} {n : Nat} (h : l.drop n = []) : l.length ≤ n := by
  rcases Nat.lt_or_ge n l.length with h1 | h1
  · rw [List.drop_eq_getElem_cons h1] at h
    cases h
  · exact h1
theorem at_drop {l : List S39} {n : Nat} {x : S39} {xs : List S39} (h : l.drop n = x :: xs) : (n : Int) < l.length ∧ l.drop (n + 1) = xs ∧ rd_T39 l (n : Int) = x := by
  obtain ⟨h1, h2, h3⟩ := drop_cons h
  exact ⟨by omega, h2, by unfold rd_T39; rw [Int.toNat_natCast]; exact h3 _⟩
theorem wrap_up (n : Nat) (h : n ≤ 4611686018427387904) : wrap64 ((n : Int) + 1) = ((n + 1 : Nat) : Int) := by unfold wrap64; omega
theorem eta39 (x : S39) : (⟨x.f0, x.f1, x.f2, x.f3, x.f4, x.f5⟩ : S39) = x := rfl

/-! ### the order -/
def ordv (d k d' k' : Int) : Int := if k < k' then -1 else if k > k' then 1 else if d < d' then -1 else if d > d' then 1 else 0
theorem cmp_f (a b : Int) : cmp_Compare_int.f a b = some (if a < b then -1 else if a > b then 1 else 0) := by
  unfold cmp_Compare_int.f cmp_isNaN_int.f
  simp only [Option.bind_some, bne_self_eq_false, Bool.false_eq_true, if_false]
  by_cases h : a < b
  · rw [if_pos h, if_pos h]
  · rw [if_neg h, if_neg h]
    by_cases h' : a > b
    · rw [if_pos h', if_pos h']
    · rw [if_neg h', if_neg h']
theorem or_f (k : Nat) (a b : Int) : cmp_Or_int.f (k + 3) [a, b] = some (if a = 0 then b else a) := by
  unfold cmp_Or_int.f
  have w1 : wrap64 (0 + 1) = 1 := by unfold wrap64; omega
  have w2 : wrap64 (1 + 1) = 2 := by unfold wrap64; omega
  have hl : (([a, b] : List Int).length : Int) = 2 := rfl
  have r0 : rd [a, b] 0 = a := rfl
  have r1 : rd [a, b] 1 = b := rfl
  rw [hl, cmp_Or_int.l0, if_pos (by decide), if_pos (by decide), hl, if_pos (by decide), r0, w1]
  by_cases ha : a = 0
  · rw [if_pos ha, if_pos ha]
    rw [cmp_Or_int.l0, if_pos (by decide), if_pos (by decide), hl, if_pos (by decide), r1, w2]
    by_cases hb : b = 0
    · rw [if_pos hb]
      rw [cmp_Or_int.l0, if_neg (by decide)]
      rw [hb]
    · rw [if_neg hb]
  · rw [if_neg ha, if_neg ha]
theorem ord_f (k : Nat) (hk : 3 ≤ k) (a0 a1 : Int) (a2 : Nat) (a3 : Int) (a4 : Nat) (a5 b0 b1 : Int) (b2 : Nat) (b3 : Int) (b4 : Nat) (b5 : Int) :
    table_order.f k a0 a1 a2 a3 a4 a5 b0 b1 b2 b3 b4 b5 = some (ordv a0 a1 b0 b1) := by
  obtain ⟨k, rfl⟩ : ∃ q, k = q + 3 := ⟨k - 3, by omega⟩
  unfold table_order.f ordv
  rw [cmp_f, cmp_f, Option.bind_some, Option.bind_some, or_f, Option.bind_some]
  congr 1
  by_cases h : a1 < b1
  · rw [if_pos h, if_pos h, if_neg (by decide)]
  · rw [if_neg h, if_neg h]
    by_cases h' : a1 > b1
    · rw [if_pos h', if_pos h', if_neg (by decide)]
    · rw [if_neg h', if_neg h', if_pos rfl]

/-! ### may -/
def okE (x : S39) : Bool := decide (1 ≤ x.f1 ∧ x.f1 ≤ 3 ∧ 1 ≤ x.f0 ∧ x.f0 ≤ 2147483647)
def ltE (x y : S39) : Bool := decide (x.f1 < y.f1 ∨ x.f1 = y.f1 ∧ x.f0 < y.f0)
def mayFrom : Option S39 → List S39 → Bool
  | _, [] => true
  | p, x :: xs => okE x && (match p with | none => true | some y => ltE y x) && mayFrom (some x) xs
theorem mayFrom_cons (p : Option S39) (x : S39) (xs : List S39) : mayFrom p (x :: xs) = (okE x && (match p with | none => true | some y => ltE y x) && mayFrom (some x) xs) := by cases p <;> rfl
def mayb (l : List S39) : Bool := mayFrom none l
def isPrev (l : List S39) (n : Nat) : Option S39 → Prop
  | none => n = 0
  | some y => 0 < n ∧ rd_T39 l ((n : Int) - 1) = y
theorem before_f (x y : S39) : beaconref17_before.f x.f0 x.f1 x.f2 x.f3 x.f4 x.f5 y.f0 y.f1 y.f2 y.f3 y.f4 y.f5 = some (ltE x y) := by
  unfold beaconref17_before.f ltE
  by_cases h : x.f1 < y.f1
  · simp [h]
  · rw [if_neg h]
    by_cases h' : x.f1 = y.f1
    · simp [h']
    · simp [h, h']
theorem ord_neg (x y : S39) : decide (ordv x.f0 x.f1 y.f0 y.f1 < 0) = ltE x y := by
  unfold ordv ltE
  by_cases h : x.f1 < y.f1
  · simp [h]
  · rw [if_neg h]
    by_cases h' : x.f1 > y.f1
    · simp [h, h']
      omega
    · have h2 : x.f1 = y.f1 := by omega
      rw [if_neg h']
      by_cases h3 : x.f0 < y.f0
      · simp [h2, h3]
      · rw [if_neg h3]
        by_cases h4 : x.f0 > y.f0
        · simp [h4, h3]; omega
        · simp [h4, h3]; omega
theorem may_r (l : List S39) (hb : l.length ≤ 2932031007402) : ∀ (rest : List S39) (n k : Nat) (p : Option S39), l.drop n = rest → rest.length + 1 ≤ k → isPrev l n p → beaconref17_may.l0 k l n = some (mayFrom p rest)
  | [], n, k, p, h, hk, hp => by
    obtain ⟨k, rfl⟩ : ∃ q, k = q + 1 := ⟨k - 1, by omega⟩
    have := drop_nil h
    rw [beaconref17_may.l0, if_neg (by omega)]
    cases p <;> rfl
  | x :: xs, n, k, p, h, hk, hp => by
    obtain ⟨k, rfl⟩ : ∃ q, k = q + 1 := ⟨k - 1, by omega⟩
    obtain ⟨h1, h2, h3⟩ := at_drop h
    have ih := may_r l hb xs (n + 1) k (some x) h2 (by simp only [List.length_cons] at hk; omega) ⟨by omega, by rw [← h3]; congr 1; omega⟩
    rw [beaconref17_may.l0, if_pos h1, if_pos (by omega), h3, wrap_up n (by omega), ih]
    rw [mayFrom_cons]
    unfold okE
    by_cases c1 : x.f1 < 1
    · rw [if_pos c1, decide_eq_false (by omega)]; rfl
    · rw [if_neg c1]
      by_cases c2 : x.f1 > 3
      · rw [if_pos c2, decide_eq_false (by omega)]; rfl
      · rw [if_neg c2]
        unfold beaconref02_CheckId.f
        by_cases c3 : x.f0 < 1
        · rw [if_pos c3, Option.bind_some, if_neg (by decide), decide_eq_false (by omega)]; rfl
        · rw [if_neg c3]
          by_cases c4 : x.f0 > 2147483647
          · rw [if_pos c4, Option.bind_some, if_neg (by decide), decide_eq_false (by omega)]; rfl
          · rw [if_neg c4, Option.bind_some, if_pos rfl, decide_eq_true (by omega)]
            cases p with
            | none =>
              have hp : n = 0 := hp
              rw [if_neg (by omega)]
              simp
            | some y =>
              obtain ⟨hp, hy⟩ := hp
              have e1 : wrap64 ((n : Int) - 1) = (n : Int) - 1 := by unfold wrap64; omega
              rw [if_pos (by omega), e1, if_pos (by omega), if_pos (by omega), hy, before_f, Option.bind_some]
              by_cases c5 : ltE y x = true
              · rw [if_pos c5]; simp [c5]
              · rw [if_neg c5]; simp [Bool.eq_false_iff.mpr c5]
theorem may_t (l : List S39) (hb : l.length ≤ 2932031007402) : ∀ (rest : List S39) (n k : Nat) (p : Option S39), l.drop n = rest → rest.length + 4 ≤ k → isPrev l n p → table_may.l0 k l l (l.length : Int) n = some (mayFrom p rest)
  | [], n, k, p, h, hk, hp => by
    obtain ⟨k, rfl⟩ : ∃ q, k = q + 1 := ⟨k - 1, by omega⟩
    have := drop_nil h
    rw [table_may.l0, if_neg (by omega)]
    cases p <;> rfl
  | x :: xs, n, k, p, h, hk, hp => by
    obtain ⟨k, rfl⟩ : ∃ q, k = q + 1 := ⟨k - 1, by omega⟩
    obtain ⟨h1, h2, h3⟩ := at_drop h
    simp only [List.length_cons] at hk
    have ih := may_t l hb xs (n + 1) k (some x) h2 (by omega) ⟨by omega, by rw [← h3]; congr 1; omega⟩
    rw [table_may.l0, if_pos h1, if_pos (by omega), if_pos h1, h3, wrap_up n (by omega), ih]
    rw [mayFrom_cons]
    unfold okE
    by_cases c1 : x.f1 < 1
    · rw [if_pos c1, decide_eq_false (by omega)]; rfl
    · rw [if_neg c1]
      by_cases c2 : x.f1 > 3
      · rw [if_pos c2, decide_eq_false (by omega)]; rfl
      · rw [if_neg c2]
        unfold ident_CheckId.f
        by_cases c3 : x.f0 < 1
        · rw [if_pos c3, Option.bind_some, if_neg (by decide), decide_eq_false (by omega)]; rfl
        · rw [if_neg c3]
          by_cases c4 : x.f0 > 2147483647
          · rw [if_pos c4, Option.bind_some, if_neg (by decide), decide_eq_false (by omega)]; rfl
          · rw [if_neg c4, Option.bind_some, if_pos rfl, decide_eq_true (by omega)]
            cases p with
            | none =>
              have hp : n = 0 := hp
              rw [if_neg (by omega)]
              simp
            | some y =>
              obtain ⟨hp, hy⟩ := hp
              have e1 : wrap64 ((n : Int) - 1) = (n : Int) - 1 := by unfold wrap64; omega
              rw [if_pos (by omega), e1, if_pos (by omega), if_pos (by omega), hy, ord_f _ (by omega), Option.bind_some]
              have c5 := ord_neg y x
              by_cases c6 : ordv y.f0 y.f1 x.f0 x.f1 < 0
              · rw [decide_eq_true c6] at c5
                rw [if_neg (by omega)]; simp [← c5]
              · rw [decide_eq_false c6] at c5
                rw [if_pos (by omega)]; simp [← c5]
theorem mayR (l : List S39) (hb : l.length ≤ 2932031007402) (k : Nat) (hk : l.length + 1 ≤ k) : beaconref17_may.f k l = some (mayb l) := may_r l hb l 0 k none rfl hk rfl
theorem mayT (l : List S39) (hb : l.length ≤ 2932031007402) (k : Nat) (hk : l.length + 4 ≤ k) : table_may.f k l = some (mayb l) := may_t l hb l 0 k none rfl hk rfl

/-! ### has -/
def hb (l : List S39) (d k : Int) : Bool := l.any fun y => decide (y.f1 = k ∧ y.f0 = d)
theorem has_r (l : List S39) (hl : l.length ≤ 2932031007402) (x : S39) : ∀ (rest : List S39) (n k : Nat), l.drop n = rest → rest.length + 1 ≤ k → beaconref17_has.l0 k l n x.f0 x.f1 x.f2 x.f3 x.f4 x.f5 = some (hb rest x.f0 x.f1)
  | [], n, k, h, hk => by
    obtain ⟨k, rfl⟩ : ∃ q, k = q + 1 := ⟨k - 1, by omega⟩
    have := drop_nil h
    rw [beaconref17_has.l0, if_neg (by omega)]
    rfl
  | y :: ys, n, k, h, hk => by
    obtain ⟨k, rfl⟩ : ∃ q, k = q + 1 := ⟨k - 1, by omega⟩
    obtain ⟨h1, h2, h3⟩ := at_drop h
    simp only [List.length_cons] at hk
    have ih := has_r l hl x ys (n + 1) k h2 (by omega)
    rw [beaconref17_has.l0, if_pos h1, if_pos (by omega), h3, wrap_up n (by omega), ih]
    unfold hb
    rw [List.any_cons]
    by_cases c1 : y.f1 = x.f1
    · rw [if_pos c1]
      by_cases c2 : y.f0 = x.f0
      · rw [if_pos c2]; simp [c1, c2]
      · rw [if_neg c2]; simp [c2]
    · rw [if_neg c1]; simp [c1]
theorem hasR (l : List S39) (hl : l.length ≤ 2932031007402) (x : S39) (k : Nat) (hk : l.length + 1 ≤ k) : beaconref17_has.f k l x.f0 x.f1 x.f2 x.f3 x.f4 x.f5 = some (hb l x.f0 x.f1) := has_r l hl x l 0 k rfl hk

/-! ### the order of what may be -/
theorem lt_trans' {x y z : S39} (h : ltE x y = true) (h' : ltE y z = true) : ltE x z = true := by
  unfold ltE at *
  simp only [decide_eq_true_eq] at *
  omega
theorem may_pair : ∀ (l : List S39) (p : Option S39), mayFrom p l = true → (∀ y, p = some y → ∀ x ∈ l, ltE y x = true) ∧ l.Pairwise (fun x y => ltE x y = true) ∧ ∀ x ∈ l, okE x = true
  | [], p, _ => ⟨fun _ _ x hx => (by cases hx), List.Pairwise.nil, fun x hx => (by cases hx)⟩
  | x :: xs, p, h => by
    rw [mayFrom_cons] at h
    rw [Bool.and_eq_true, Bool.and_eq_true] at h
    obtain ⟨⟨h1, h2⟩, h3⟩ := h
    obtain ⟨i1, i2, i3⟩ := may_pair xs (some x) h3
    have i1 := i1 x rfl
    refine ⟨?_, List.Pairwise.cons i1 i2, ?_⟩
    · rintro y rfl z hz
      have h2 : ltE y x = true := h2
      rcases List.mem_cons.mp hz with rfl | hz
      · exact h2
      · exact lt_trans' h2 (i1 z hz)
    · intro z hz
      rcases List.mem_cons.mp hz with rfl | hz
      · exact h1
      · exact i3 z hz
theorem pair_may : ∀ (l : List S39) (p : Option S39), (∀ y, p = some y → ∀ x ∈ l, ltE y x = true) → l.Pairwise (fun x y => ltE x y = true) → (∀ x ∈ l, okE x = true) → mayFrom p l = true
  | [], p, _, _, _ => by unfold mayFrom; rfl
  | x :: xs, p, h1, h2, h3 => by
    rw [mayFrom_cons, Bool.and_eq_true, Bool.and_eq_true]
    obtain ⟨h4, h5⟩ := List.pairwise_cons.mp h2
    refine ⟨⟨h3 x (List.mem_cons_self ..), ?_⟩, pair_may xs (some x) ?_ h5 (fun z hz => h3 z (List.mem_cons_of_mem _ hz))⟩
    · cases p with
      | none => rfl
      | some y => exact h1 y rfl x (List.mem_cons_self ..)
    · rintro y hy z hz
      injection hy with hy
      subst hy
      exact h4 z hz
theorem hb_iff (l : List S39) (d k : Int) : hb l d k = true ↔ ∃ (j : Nat) (y : S39), l[j]? = some y ∧ y.f1 = k ∧ y.f0 = d := by
  unfold hb
  rw [List.any_eq_true]
  constructor
  · rintro ⟨y, hy, h⟩
    obtain ⟨j, hj⟩ := List.mem_iff_getElem?.mp hy
    exact ⟨j, y, hj, of_decide_eq_true h⟩
  · rintro ⟨j, y, hj, h⟩
    exact ⟨y, List.mem_iff_getElem?.mpr ⟨j, hj⟩, decide_eq_true h⟩
theorem rd_get {l : List S39} {j : Nat} (h : j < l.length) : l[j]? = some (rd_T39 l (j : Int)) := by
  unfold rd_T39
  rw [Int.toNat_natCast, List.getD_eq_getElem?_getD, List.getElem?_eq_getElem h, Option.getD_some]
theorem bs_f (l : List S39) (hl : l.length ≤ 2932031007402) (hp : l.Pairwise (fun x y => ltE x y = true)) (x : S39) : ∀ (m lo hi k : Nat), hi ≤ lo + m → lo ≤ hi → hi ≤ l.length → m + 5 ≤ k →
    (∀ j y, j < lo → l[j]? = some y → ltE y x = true) → (∀ j y, hi ≤ j → l[j]? = some y → ltE y x = false) →
    ∃ p, api_Entry_47.l0 k l (l.length : Int) lo hi x.f0 x.f1 x.f2 x.f3 x.f4 x.f5 = some (p, hb l x.f0 x.f1) := by
  have fin : ∀ (lo k : Nat), lo ≤ l.length → 5 ≤ k → (∀ j y, j < lo → l[j]? = some y → ltE y x = true) → (∀ j y, lo ≤ j → l[j]? = some y → ltE y x = false) →
      ∃ p, api_Entry_47.l0 k l (l.length : Int) lo lo x.f0 x.f1 x.f2 x.f3 x.f4 x.f5 = some (p, hb l x.f0 x.f1) := by
    intro lo k hn hk h1 h2
    obtain ⟨k, rfl⟩ : ∃ q, k = q + 1 := ⟨k - 1, by omega⟩
    rw [api_Entry_47.l0, if_neg (by omega)]
    by_cases c : lo < l.length
    · rw [if_pos (by omega), if_pos (by omega), if_pos (by omega), ord_f _ (by omega), Option.bind_some]
      refine ⟨(lo : Int), ?_⟩
      congr 2
      have hy := rd_get c
      generalize rd_T39 l (lo : Int) = y at hy
      have hlt := h2 lo y (Nat.le_refl _) hy
      rw [Bool.eq_iff_iff, hb_iff]
      constructor
      · intro he
        refine ⟨lo, y, hy, ?_⟩
        unfold ordv at he
        by_cases c1 : y.f1 < x.f1
        · rw [if_pos c1] at he; cases he
        · rw [if_neg c1] at he
          by_cases c2 : y.f1 > x.f1
          · rw [if_pos c2] at he; cases he
          · rw [if_neg c2] at he
            by_cases c3 : y.f0 < x.f0
            · rw [if_pos c3] at he; cases he
            · rw [if_neg c3] at he
              by_cases c4 : y.f0 > x.f0
              · rw [if_pos c4] at he; cases he
              · omega
      · rintro ⟨j, z, hj, e1, e0⟩
        have hzx : ltE z x = false := by unfold ltE; exact decide_eq_false (by omega)
        have hj1 : lo ≤ j := by
          rcases Nat.lt_or_ge j lo with hj1 | hj1
          · rw [h1 j z hj1 hj] at hzx; cases hzx
          · exact hj1
        rcases Nat.lt_or_ge lo j with hj2 | hj2
        · exfalso
          obtain ⟨hjl, hjz⟩ := List.getElem?_eq_some_iff.mp hj
          obtain ⟨hll, hly⟩ := List.getElem?_eq_some_iff.mp hy
          have := List.pairwise_iff_getElem.mp hp lo j hll hjl hj2
          rw [hly, hjz] at this
          unfold ltE at this hlt
          rw [decide_eq_true_eq] at this
          rw [decide_eq_false_iff_not] at hlt
          omega
        · have : j = lo := by omega
          subst this
          rw [hj] at hy
          injection hy with hy
          subst hy
          unfold ordv
          rw [if_neg (by omega), if_neg (by omega), if_neg (by omega), if_neg (by omega)]
          rfl
    · rw [if_neg (by omega)]
      refine ⟨(lo : Int), ?_⟩
      congr 2
      symm
      rw [Bool.eq_false_iff]
      intro hh
      obtain ⟨j, z, hj, e1, e0⟩ := (hb_iff _ _ _).mp hh
      obtain ⟨hjl, _⟩ := List.getElem?_eq_some_iff.mp hj
      have hzx : ltE z x = false := by unfold ltE; exact decide_eq_false (by omega)
      rw [h1 j z (by omega) hj] at hzx
      cases hzx
  intro m
  induction m with
  | zero =>
    intro lo hi k h0 h1 h2 hk a1 a2
    obtain rfl : hi = lo := by omega
    exact fin hi k h2 hk a1 a2
  | succ m ih =>
    intro lo hi k h0 h1 h2 hk a1 a2
    rcases Nat.lt_or_ge lo hi with h | h
    · obtain ⟨k, rfl⟩ : ∃ q, k = q + 1 := ⟨k - 1, by omega⟩
      have e : wrap64 ((IntKind.u64.wrap (wrap64 ((lo : Int) + hi))) / 2) = (((lo + hi) / 2 : Nat) : Int) := by
        have e1 : wrap64 ((lo : Int) + hi) = (lo : Int) + hi := by unfold wrap64; omega
        have e2 : IntKind.u64.wrap ((lo : Int) + hi) = (lo : Int) + hi := by
          show ((lo : Int) + hi) % 18446744073709551616 = _
          omega
        rw [e1, e2]
        unfold wrap64
        omega
      have hm : (lo + hi) / 2 < l.length := by omega
      rw [api_Entry_47.l0, if_pos (by omega), e, if_pos (by omega), if_pos (by omega), ord_f _ (by omega), Option.bind_some]
      have hy := rd_get hm
      have c5 := ord_neg (rd_T39 l (((lo + hi) / 2 : Nat) : Int)) x
      generalize rd_T39 l (((lo + hi) / 2 : Nat) : Int) = y at hy c5 ⊢
      by_cases c6 : ordv y.f0 y.f1 x.f0 x.f1 < 0
      · rw [decide_eq_true c6] at c5
        rw [if_pos c6, wrap_up _ (by omega)]
        refine ih _ _ k (by omega) (by omega) h2 (by omega) ?_ a2
        intro j z hj hz
        rcases Nat.lt_or_ge j ((lo + hi) / 2) with hj2 | hj2
        · obtain ⟨hjl, hjz⟩ := List.getElem?_eq_some_iff.mp hz
          obtain ⟨hll, hly⟩ := List.getElem?_eq_some_iff.mp hy
          have := List.pairwise_iff_getElem.mp hp j _ hjl hll hj2
          rw [hly, hjz] at this
          exact lt_trans' this c5.symm
        · have : j = (lo + hi) / 2 := by omega
          subst this
          rw [hz] at hy
          injection hy with hy
          subst hy
          exact c5.symm
      · rw [decide_eq_false c6] at c5
        rw [if_neg c6]
        refine ih _ _ k (by omega) (by omega) (by omega) (by omega) a1 ?_
        intro j z hj hz
        rcases Nat.lt_or_ge ((lo + hi) / 2) j with hj2 | hj2
        · obtain ⟨hjl, hjz⟩ := List.getElem?_eq_some_iff.mp hz
          obtain ⟨hll, hly⟩ := List.getElem?_eq_some_iff.mp hy
          have := List.pairwise_iff_getElem.mp hp _ j hll hjl hj2
          rw [hly, hjz] at this
          cases h9 : ltE z x with
          | false => rfl
          | true => rw [lt_trans' this h9] at c5; cases c5
        · have : j = (lo + hi) / 2 := by omega
          subst this
          rw [hz] at hy
          injection hy with hy
          subst hy
          exact c5.symm
    · obtain rfl : hi = lo := by omega
      exact fin hi k h2 (by omega) a1 a2
theorem had_f (l : List S39) (b : Bool) (hl : l.length ≤ 2932031007402) (hp : l.Pairwise (fun x y => ltE x y = true)) (x : S39) (k : Nat) (hk : l.length + 5 ≤ k) :
    table_Keep_1.f k x.f0 x.f1 x.f2 x.f3 x.f4 x.f5 l b = some (hb l x.f0 x.f1) := by
  unfold table_Keep_1.f api_Entry_47.f
  obtain ⟨p, h⟩ := bs_f l hl hp x l.length 0 l.length k (by omega) (by omega) (by omega) hk (fun j y hj => by omega) (fun j y hj hy => by
    obtain ⟨hjl, _⟩ := List.getElem?_eq_some_iff.mp hy
    omega)
  have h : api_Entry_47.l0 k l (l.length : Int) 0 (l.length : Int) x.f0 x.f1 x.f2 x.f3 x.f4 x.f5 = some (p, hb l x.f0 x.f1) := h
  rw [h, Option.bind_some]

/-! ### Keep -/
def kp (l : List S39) : List S39 → Int → Bool → List S39 × Bool
  | [], _, ov => ([], ov)
  | x :: xs, r, ov => if hb l x.f0 x.f1 = true then (x :: (kp l xs r ov).1, (kp l xs r ov).2) else if r ≤ 0 then kp l xs r true else (x :: (kp l xs (r - 1) ov).1, (kp l xs (r - 1) ov).2)
def cnt (l : List S39) : List S39 → Nat
  | [] => 0
  | x :: xs => (if hb l x.f0 x.f1 = true then 1 else 0) + cnt l xs
theorem cnt_le (l : List S39) : ∀ xs, cnt l xs ≤ xs.length
  | [] => Nat.le_refl _
  | x :: xs => by
    have := cnt_le l xs
    unfold cnt
    rw [List.length_cons]
    split <;> omega
def keepS (l : List S39) (ov : Bool) (now : List S39) (room : Int) : List S39 × Bool × Int :=
  if (mayb l && mayb now && decide (0 ≤ room)) = true then ((kp l now (room - cnt l now) ov).1, (kp l now (room - cnt l now) ov).2, 0) else ([], false, 1)
theorem t_l1 (l : List S39) (b : Bool) (now : List S39) (hl : l.length ≤ 2932031007402) (hn : now.length ≤ 2932031007401) (hp : l.Pairwise (fun x y => ltE x y = true)) : ∀ (rest : List S39) (n k : Nat) (r : Int) (acc : List S39) (ov : Bool),
    now.drop n = rest → rest.length + l.length + 6 ≤ k → acc.length ≤ n → -9223372036854775808 ≤ r → r ≤ 9223372036854775807 →
    table_Keep.l1 k r now (now.length : Int) n l b acc ov = some (acc ++ (kp l rest r ov).1, (kp l rest r ov).2, 0)
  | [], n, k, r, acc, ov, h, hk, ha, hr, hr' => by
    obtain ⟨k, rfl⟩ : ∃ q, k = q + 1 := ⟨k - 1, by omega⟩
    have := drop_nil h
    rw [table_Keep.l1, if_neg (by omega)]
    simp [kp]
  | x :: xs, n, k, r, acc, ov, h, hk, ha, hr, hr' => by
    obtain ⟨k, rfl⟩ : ∃ q, k = q + 1 := ⟨k - 1, by omega⟩
    obtain ⟨h1, h2, h3⟩ := at_drop h
    simp only [List.length_cons] at hk
    rw [table_Keep.l1, if_pos h1, if_pos (by omega), if_pos h1, h3, had_f l b hl hp x k (by omega), Option.bind_some, wrap_up n (by omega)]
    have hacc : acc.length < 2932031007402 := by omega
    rw [if_pos hacc, if_pos hacc, eta39]
    unfold kp
    by_cases c : hb l x.f0 x.f1 = true
    · rw [if_pos c, if_pos c, t_l1 l b now hl hn hp xs (n + 1) k r _ ov h2 (by omega) (by simp; omega) hr hr']
      simp
    · rw [if_neg c, if_neg c]
      by_cases c2 : r ≤ 0
      · rw [if_pos c2, if_pos c2, t_l1 l b now hl hn hp xs (n + 1) k r _ true h2 (by omega) (by omega) hr hr']
      · have e : wrap64 (r - 1) = r - 1 := by unfold wrap64; omega
        rw [if_neg c2, if_neg c2, e, t_l1 l b now hl hn hp xs (n + 1) k (r - 1) _ ov h2 (by omega) (by simp; omega) (by omega) (by omega)]
        simp
theorem t_l0 (l : List S39) (b : Bool) (now : List S39) (hl : l.length ≤ 2932031007402) (hn : now.length ≤ 2932031007401) (hp : l.Pairwise (fun x y => ltE x y = true)) : ∀ (rest : List S39) (n k : Nat) (r : Int),
    now.drop n = rest → rest.length + now.length + l.length + 7 ≤ k → -4611686018427387904 ≤ r - rest.length → r ≤ 9223372036854775807 →
    table_Keep.l0 k now r now (now.length : Int) n l b = some ((kp l now (r - cnt l rest) b).1, (kp l now (r - cnt l rest) b).2, 0)
  | [], n, k, r, h, hk, hr, hr' => by
    obtain ⟨k, rfl⟩ : ∃ q, k = q + 1 := ⟨k - 1, by omega⟩
    have := drop_nil h
    rw [table_Keep.l0, if_neg (by omega)]
    have h9 := t_l1 l b now hl hn hp now 0 k r [] b rfl (by simp at hk; omega) (by simp) (by simp at hr; omega) hr'
    rw [show ((0 : Nat) : Int) = 0 from rfl] at h9
    rw [h9]
    simp [cnt]
  | x :: xs, n, k, r, h, hk, hr, hr' => by
    obtain ⟨k, rfl⟩ : ∃ q, k = q + 1 := ⟨k - 1, by omega⟩
    obtain ⟨h1, h2, h3⟩ := at_drop h
    simp only [List.length_cons] at hk hr
    have e : wrap64 (r - 1) = r - 1 := by unfold wrap64; omega
    rw [table_Keep.l0, if_pos h1, if_pos (by omega), if_pos h1, h3, had_f l b hl hp x k (by omega), Option.bind_some, wrap_up n (by omega), e]
    unfold cnt
    by_cases c : hb l x.f0 x.f1 = true
    · rw [if_pos c, if_pos c, t_l0 l b now hl hn hp xs (n + 1) k (r - 1) h2 (by omega) (by omega) (by omega)]
      congr 2
      · congr 2; omega
      · congr 2; congr 1; omega
    · rw [if_neg c, if_neg c, t_l0 l b now hl hn hp xs (n + 1) k r h2 (by omega) (by omega) (by omega)]
      congr 2
      · congr 2; omega
      · congr 2; congr 1; omega
theorem keepT (l : List S39) (ov : Bool) (now : List S39) (room : Int) (hl : l.length ≤ 2932031007401) (hn : now.length ≤ 2932031007401) (hr : room ≤ 9223372036854775807) (k : Nat) (hk : 2 * now.length + l.length + 9 ≤ k) :
    table_Keep.f k l ov now room = some (keepS l ov now room) := by
  unfold table_Keep.f keepS
  rw [mayT l (by omega) k (by omega), mayT now (by omega) k (by omega), Option.bind_some, Option.bind_some]
  obtain ⟨k, rfl⟩ : ∃ q, k = q + 1 := ⟨k - 1, by omega⟩
  cases c1 : mayb l with
  | false => simp [table_Keep.j0]
  | true =>
    cases c2 : mayb now with
    | false => simp [table_Keep.j0]
    | true =>
      rw [if_pos rfl, if_pos rfl, table_Keep.j0]
      by_cases c3 : room < 0
      · rw [decide_eq_true c3, if_pos rfl, decide_eq_false (by omega)]; rfl
      · rw [decide_eq_false c3, if_neg (by decide), decide_eq_true (by omega), if_pos (by decide)]
        exact t_l0 l ov now (by omega) hn (may_pair l none c1).2.1 now 0 k room rfl (by omega) (by omega) hr
theorem r_l1 (l : List S39) (b : Bool) (now : List S39) (room : Int) (hl : l.length ≤ 2932031007402) (hn : now.length ≤ 2932031007401) : ∀ (rest : List S39) (n k m : Nat) (acc : List S39) (ov : Bool),
    now.drop n = rest → rest.length + l.length + 6 ≤ k → acc.length ≤ n → m ≤ 2932031007402 + n →
    beaconref17_Keep.l1 k now room (m : Int) n l b acc ov = some (acc ++ (kp l rest (room - m) ov).1, (kp l rest (room - m) ov).2, 0)
  | [], n, k, m, acc, ov, h, hk, ha, hm => by
    obtain ⟨k, rfl⟩ : ∃ q, k = q + 1 := ⟨k - 1, by omega⟩
    have := drop_nil h
    rw [beaconref17_Keep.l1, if_neg (by omega)]
    simp [kp]
  | x :: xs, n, k, m, acc, ov, h, hk, ha, hm => by
    obtain ⟨k, rfl⟩ : ∃ q, k = q + 1 := ⟨k - 1, by omega⟩
    obtain ⟨h1, h2, h3⟩ := at_drop h
    simp only [List.length_cons] at hk
    rw [beaconref17_Keep.l1, if_pos h1, if_pos (by omega), h3, hasR l hl x k (by omega), Option.bind_some, wrap_up n (by omega), wrap_up m (by omega)]
    have hacc : acc.length < 2932031007402 := by omega
    rw [if_pos hacc, if_pos hacc, eta39]
    unfold kp
    by_cases c : hb l x.f0 x.f1 = true
    · rw [if_pos c, if_pos c, r_l1 l b now room hl hn xs (n + 1) k m _ ov h2 (by omega) (by simp; omega) (by omega)]
      simp
    · rw [if_neg c, if_neg c]
      by_cases c2 : (m : Int) < room
      · rw [if_pos c2, if_neg (by omega), r_l1 l b now room hl hn xs (n + 1) k (m + 1) _ ov h2 (by omega) (by simp; omega) (by omega)]
        rw [show room - ((m + 1 : Nat) : Int) = room - m - 1 by omega]
        simp
      · rw [if_neg c2, if_pos (by omega), r_l1 l b now room hl hn xs (n + 1) k m _ true h2 (by omega) (by omega) (by omega)]
theorem r_l0 (l : List S39) (b : Bool) (now : List S39) (room : Int) (hl : l.length ≤ 2932031007402) (hn : now.length ≤ 2932031007401) : ∀ (rest : List S39) (n k m : Nat),
    now.drop n = rest → rest.length + now.length + l.length + 7 ≤ k → m ≤ n → n ≤ now.length →
    beaconref17_Keep.l0 k now room (m : Int) n l b = some ((kp l now (room - m - cnt l rest) b).1, (kp l now (room - m - cnt l rest) b).2, 0)
  | [], n, k, m, h, hk, hm, hnl => by
    obtain ⟨k, rfl⟩ : ∃ q, k = q + 1 := ⟨k - 1, by omega⟩
    have := drop_nil h
    rw [beaconref17_Keep.l0, if_neg (by omega)]
    have h9 := r_l1 l b now room hl hn now 0 k m [] b rfl (by simp at hk; omega) (by simp) (by omega)
    rw [show ((0 : Nat) : Int) = 0 from rfl] at h9
    rw [h9]
    simp [cnt]
  | x :: xs, n, k, m, h, hk, hm, hnl => by
    obtain ⟨k, rfl⟩ : ∃ q, k = q + 1 := ⟨k - 1, by omega⟩
    obtain ⟨h1, h2, h3⟩ := at_drop h
    simp only [List.length_cons] at hk
    rw [beaconref17_Keep.l0, if_pos h1, if_pos (by omega), h3, hasR l hl x k (by omega), Option.bind_some, wrap_up n (by omega), wrap_up m (by omega)]
    unfold cnt
    by_cases c : hb l x.f0 x.f1 = true
    · rw [if_pos c, if_pos c, r_l0 l b now room hl hn xs (n + 1) k (m + 1) h2 (by omega) (by omega) (by omega)]
      rw [show room - ((m + 1 : Nat) : Int) - (cnt l xs : Nat) = room - m - ((1 + cnt l xs : Nat) : Int) by omega]
    · rw [if_neg c, if_neg c, r_l0 l b now room hl hn xs (n + 1) k m h2 (by omega) (by omega) (by omega)]
      rw [Nat.zero_add]
theorem keepR (l : List S39) (ov : Bool) (now : List S39) (room : Int) (hl : l.length ≤ 2932031007401) (hn : now.length ≤ 2932031007401) (k : Nat) (hk : 2 * now.length + l.length + 9 ≤ k) :
    beaconref17_Keep.f k l ov now room = some (keepS l ov now room) := by
  unfold beaconref17_Keep.f keepS
  rw [mayR l (by omega) k (by omega), mayR now (by omega) k (by omega), Option.bind_some, Option.bind_some]
  obtain ⟨k, rfl⟩ : ∃ q, k = q + 1 := ⟨k - 1, by omega⟩
  cases c1 : mayb l with
  | false => simp [beaconref17_Keep.j0]
  | true =>
    cases c2 : mayb now with
    | false => simp [beaconref17_Keep.j0]
    | true =>
      rw [if_pos rfl, if_pos rfl, beaconref17_Keep.j0]
      by_cases c3 : room < 0
      · rw [decide_eq_true c3, if_pos rfl, decide_eq_false (by omega)]; rfl
      · rw [decide_eq_false c3, if_neg (by decide), decide_eq_true (by omega), if_pos (by decide)]
        have h9 := r_l0 l ov now room (by omega) hn now 0 k 0 rfl (by omega) (by omega) (by omega)
        rw [show ((0 : Nat) : Int) = 0 from rfl, Int.sub_zero] at h9
        exact h9

/-! ### copies, and lists that are the same -/
theorem copy_l (l : List S39) (hl : l.length ≤ 2932031007402) : ∀ (rest : List S39) (n k : Nat) (acc : List S39), l.drop n = rest → rest.length + 1 ≤ k → acc.length = n → beaconref15_Entries.l0 k l acc n = some (acc ++ rest)
  | [], n, k, acc, h, hk, ha => by
    obtain ⟨k, rfl⟩ : ∃ q, k = q + 1 := ⟨k - 1, by omega⟩
    have := drop_nil h
    rw [beaconref15_Entries.l0, if_neg (by omega), List.append_nil]
  | x :: xs, n, k, acc, h, hk, ha => by
    obtain ⟨k, rfl⟩ : ∃ q, k = q + 1 := ⟨k - 1, by omega⟩
    obtain ⟨h1, h2, h3⟩ := at_drop h
    simp only [List.length_cons] at hk
    rw [beaconref15_Entries.l0, if_pos h1, if_pos (by omega), if_pos (by omega), h3, eta39, wrap_up n (by omega), copy_l l hl xs (n + 1) k _ h2 (by omega) (by simp; omega)]
    simp
theorem copyR (l : List S39) (hl : l.length ≤ 2932031007402) (k : Nat) (hk : l.length + 1 ≤ k) : beaconref15_Entries.f k l = some l := by
  unfold beaconref15_Entries.f
  have := copy_l l hl l 0 k [] rfl hk rfl
  rw [show ((0 : Nat) : Int) = 0 from rfl] at this
  rw [this, List.nil_append]
theorem ownR (l : List S39) (b : Bool) (hl : l.length ≤ 2932031007402) (k : Nat) (hk : l.length + 1 ≤ k) : beaconlaw17_own.f k l b = some (l, b) := by
  unfold beaconlaw17_own.f
  rw [copyR l hl k hk]
  rfl
theorem same_l (l : List S39) (hl : l.length ≤ 2932031007402) : ∀ (rest : List S39) (n k : Nat), l.drop n = rest → rest.length + 1 ≤ k → beaconref09_SameEntries.l0 k l l n = some true
  | [], n, k, h, hk => by
    obtain ⟨k, rfl⟩ : ∃ q, k = q + 1 := ⟨k - 1, by omega⟩
    have := drop_nil h
    rw [beaconref09_SameEntries.l0, if_neg (by omega)]
  | x :: xs, n, k, h, hk => by
    obtain ⟨k, rfl⟩ : ∃ q, k = q + 1 := ⟨k - 1, by omega⟩
    obtain ⟨h1, h2, h3⟩ := at_drop h
    simp only [List.length_cons] at hk
    rw [beaconref09_SameEntries.l0, if_pos h1, if_pos (by omega), if_pos h1, if_pos rfl, if_pos rfl, if_pos rfl, if_pos rfl, wrap_up n (by omega), same_l l hl xs (n + 1) k h2 (by omega)]
    simp [beaconref01_Same.f]
theorem sameR (l : List S39) (hl : l.length ≤ 2932031007402) (k : Nat) (hk : l.length + 1 ≤ k) : beaconref09_SameEntries.f k l l = some true := by
  unfold beaconref09_SameEntries.f
  rw [if_pos rfl]
  exact same_l l hl l 0 k rfl hk
theorem same_t (l : List S39) (b : Bool) (hl : l.length ≤ 2932031007402) (k : Nat) (hk : l.length + 1 ≤ k) : beaconlaw17_same.f k l b l b = some true := by
  unfold beaconlaw17_same.f
  rw [if_pos (by simp), sameR l hl k hk]
  rfl
theorem kp_len (l : List S39) : ∀ (xs : List S39) (r : Int) (ov : Bool), (kp l xs r ov).1.length ≤ xs.length
  | [], _, _ => Nat.le_refl _
  | x :: xs, r, ov => by
    have h1 := kp_len l xs r ov
    have h2 := kp_len l xs r true
    have h3 := kp_len l xs (r - 1) ov
    unfold kp
    by_cases c : hb l x.f0 x.f1 = true
    · rw [if_pos c]; simp only [List.length_cons]; omega
    · rw [if_neg c]
      by_cases c2 : r ≤ 0
      · rw [if_pos c2]; simp only [List.length_cons]; omega
      · rw [if_neg c2]; simp only [List.length_cons]; omega
theorem keep_len (l : List S39) (ov : Bool) (now : List S39) (room : Int) : (keepS l ov now room).1.length ≤ now.length := by
  unfold keepS
  split
  · exact kp_len _ _ _ _
  · exact Nat.zero_le _
end Go.Proofs.Ytgmjlhpigfaicaa.Pure
