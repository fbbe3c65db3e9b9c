/- What the routers' tables, names and packets come to, in plain lists and numbers (for the laws of forward). -/
import Derived.Test.YtgmjlhpigfaicaaXFx10
import Derived.Test.YtgmjlhpigfaicaaXFx18
import Derived.Test.YtgmjlhpigfaicaaXFx19
namespace Go.Proofs.Ytgmjlhpigfaicaa.Pure
open Go.RowKit Go.Proofs.YtgmjlhpigfaicaaW.PrintWords Go.Proofs.Ytgmjlhpigfaicaa.XF

set_option linter.unusedSimpArgs false
set_option linter.unusedVariables false
theorem awake_small : beaconlaw19_awake.f 40 = some true := by decide +kernel
theorem awake_f (n : Nat) : beaconlaw19_awake.f (40 + n) = some true := by
  induction n with
  | zero => exact awake_small
  | succ n ih => exact beaconlaw19_awake.mono _ _ ih
theorem drop_cons {α : Type} {l : List α} {n : Nat} {x : α} {xs : List α} (h : l.drop n = x :: xs) : n < l.length ∧ l.drop (n + 1) = xs ∧ ∀ d, l.getD n d = x := by
  have h1 : n < l.length := by
    rcases Nat.lt_or_ge n l.length with h1 | h1
    · exact h1
    · rw [List.drop_eq_nil_of_le h1] at h
      cases h
  rw [List.drop_eq_getElem_cons h1] at h
  injection h with h2 h3
  exact ⟨h1, h3, fun d => by rw [List.getD_eq_getElem?_getD, List.getElem?_eq_getElem h1, Option.getD_some, h2]⟩
theorem drop_nil {α : Type} {l : List α} {n : Nat} (h : l.drop n = []) : l.length ≤ n := by
  rcases Nat.lt_or_ge n l.length with h1 | h1
  · rw [List.drop_eq_getElem_cons h1] at h
    cases h
  · exact h1
theorem at_drop {l : List S39} {n : Nat} {x : S39} {xs : List S39} (h : l.drop n = x :: xs) : (n : Int) < l.length ∧ l.drop (n + 1) = xs ∧ rd_T39 l (n : Int) = x := by
  obtain ⟨h1, h2, h3⟩ := drop_cons h
  exact ⟨by omega, h2, by unfold rd_T39; rw [Int.toNat_natCast]; exact h3 _⟩
theorem wrap_up (n : Nat) (h : n ≤ 4611686018427387904) : wrap64 ((n : Int) + 1) = ((n + 1 : Nat) : Int) := by unfold wrap64; omega
theorem eta39 (x : S39) : (⟨x.f0, x.f1, x.f2, x.f3, x.f4, x.f5⟩ : S39) = x := rfl

/-! ### the order -/
def ordv (d k d' k' : Int) : Int := if k < k' then -1 else if k > k' then 1 else if d < d' then -1 else if d > d' then 1 else 0
theorem cmp_f (a b : Int) : cmp_Compare_int.f a b = some (if a < b then -1 else if a > b then 1 else 0) := by
  unfold cmp_Compare_int.f cmp_isNaN_int.f
  simp only [Option.bind_some, bne_self_eq_false, Bool.false_eq_true, if_false]
  by_cases h : a < b
  · rw [if_pos h, if_pos h]
  · rw [if_neg h, if_neg h]
    by_cases h' : a > b
    · rw [if_pos h', if_pos h']
    · rw [if_neg h', if_neg h']
theorem or_f (k : Nat) (a b : Int) : cmp_Or_int.f (k + 3) [a, b] = some (if a = 0 then b else a) := by
  unfold cmp_Or_int.f
  have w1 : wrap64 (0 + 1) = 1 := by unfold wrap64; omega
  have w2 : wrap64 (1 + 1) = 2 := by unfold wrap64; omega
  have hl : (([a, b] : List Int).length : Int) = 2 := rfl
  have r0 : rd [a, b] 0 = a := rfl
  have r1 : rd [a, b] 1 = b := rfl
  rw [hl, cmp_Or_int.l0, if_pos (by decide), if_pos (by decide), hl, if_pos (by decide), r0, w1]
  by_cases ha : a = 0
  · rw [if_pos ha, if_pos ha]
    rw [cmp_Or_int.l0, if_pos (by decide), if_pos (by decide), hl, if_pos (by decide), r1, w2]
    by_cases hb : b = 0
    · rw [if_pos hb]
      rw [cmp_Or_int.l0, if_neg (by decide)]
      rw [hb]
    · rw [if_neg hb]
  · rw [if_neg ha, if_neg ha]
theorem ord_f (k : Nat) (hk : 3 ≤ k) (a0 a1 : Int) (a2 : Nat) (a3 : Int) (a4 : Nat) (a5 b0 b1 : Int) (b2 : Nat) (b3 : Int) (b4 : Nat) (b5 : Int) :
    table_order.f k a0 a1 a2 a3 a4 a5 b0 b1 b2 b3 b4 b5 = some (ordv a0 a1 b0 b1) := by
  obtain ⟨k, rfl⟩ : ∃ q, k = q + 3 := ⟨k - 3, by omega⟩
  unfold table_order.f ordv
  rw [cmp_f, cmp_f, Option.bind_some, Option.bind_some, or_f, Option.bind_some]
  congr 1
  by_cases h : a1 < b1
  · rw [if_pos h, if_pos h, if_neg (by decide)]
  · rw [if_neg h, if_neg h]
    by_cases h' : a1 > b1
    · rw [if_pos h', if_pos h', if_neg (by decide)]
    · rw [if_neg h', if_neg h', if_pos rfl]

/-! ### may -/
def okE (x : S39) : Bool := decide (1 ≤ x.f1 ∧ x.f1 ≤ 3 ∧ 1 ≤ x.f0 ∧ x.f0 ≤ 2147483647)
def ltE (x y : S39) : Bool := decide (x.f1 < y.f1 ∨ x.f1 = y.f1 ∧ x.f0 < y.f0)
def mayFrom : Option S39 → List S39 → Bool
  | _, [] => true
  | p, x :: xs => okE x && (match p with | none => true | some y => ltE y x) && mayFrom (some x) xs
theorem mayFrom_cons (p : Option S39) (x : S39) (xs : List S39) : mayFrom p (x :: xs) = (okE x && (match p with | none => true | some y => ltE y x) && mayFrom (some x) xs) := by cases p <;> rfl
def mayb (l : List S39) : Bool := mayFrom none l
def isPrev (l : List S39) (n : Nat) : Option S39 → Prop
  | none => n = 0
  | some y => 0 < n ∧ rd_T39 l ((n : Int) - 1) = y
theorem before_f (x y : S39) : beaconref17_before.f x.f0 x.f1 x.f2 x.f3 x.f4 x.f5 y.f0 y.f1 y.f2 y.f3 y.f4 y.f5 = some (ltE x y) := by
  unfold beaconref17_before.f ltE
  by_cases h : x.f1 < y.f1
  · simp [h]
  · rw [if_neg h]
    by_cases h' : x.f1 = y.f1
    · simp [h']
    · simp [h, h']
theorem ord_neg (x y : S39) : decide (ordv x.f0 x.f1 y.f0 y.f1 < 0) = ltE x y := by
  unfold ordv ltE
  by_cases h : x.f1 < y.f1
  · simp [h]
  · rw [if_neg h]
    by_cases h' : x.f1 > y.f1
    · simp [h, h']
      omega
    · have h2 : x.f1 = y.f1 := by omega
      rw [if_neg h']
      by_cases h3 : x.f0 < y.f0
      · simp [h2, h3]
      · rw [if_neg h3]
        by_cases h4 : x.f0 > y.f0
        · simp [h4, h3]; omega
        · simp [h4, h3]; omega
theorem may_r (l : List S39) (hb : l.length ≤ 2932031007402) : ∀ (rest : List S39) (n k : Nat) (p : Option S39), l.drop n = rest → rest.length + 1 ≤ k → isPrev l n p → beaconref17_may.l0 k l n = some (mayFrom p rest)
  | [], n, k, p, h, hk, hp => by
    obtain ⟨k, rfl⟩ : ∃ q, k = q + 1 := ⟨k - 1, by omega⟩
    have := drop_nil h
    rw [beaconref17_may.l0, if_neg (by omega)]
    cases p <;> rfl
  | x :: xs, n, k, p, h, hk, hp => by
    obtain ⟨k, rfl⟩ : ∃ q, k = q + 1 := ⟨k - 1, by omega⟩
    obtain ⟨h1, h2, h3⟩ := at_drop h
    have ih := may_r l hb xs (n + 1) k (some x) h2 (by simp only [List.length_cons] at hk; omega) ⟨by omega, by rw [← h3]; congr 1; omega⟩
    rw [beaconref17_may.l0, if_pos h1, if_pos (by omega), h3, wrap_up n (by omega), ih]
    rw [mayFrom_cons]
    unfold okE
    by_cases c1 : x.f1 < 1
    · rw [if_pos c1, decide_eq_false (by omega)]; rfl
    · rw [if_neg c1]
      by_cases c2 : x.f1 > 3
      · rw [if_pos c2, decide_eq_false (by omega)]; rfl
      · rw [if_neg c2]
        unfold beaconref02_CheckId.f
        by_cases c3 : x.f0 < 1
        · rw [if_pos c3, Option.bind_some, if_neg (by decide), decide_eq_false (by omega)]; rfl
        · rw [if_neg c3]
          by_cases c4 : x.f0 > 2147483647
          · rw [if_pos c4, Option.bind_some, if_neg (by decide), decide_eq_false (by omega)]; rfl
          · rw [if_neg c4, Option.bind_some, if_pos rfl, decide_eq_true (by omega)]
            cases p with
            | none =>
              have hp : n = 0 := hp
              rw [if_neg (by omega)]
              simp
            | some y =>
              obtain ⟨hp, hy⟩ := hp
              have e1 : wrap64 ((n : Int) - 1) = (n : Int) - 1 := by unfold wrap64; omega
              rw [if_pos (by omega), e1, if_pos (by omega), if_pos (by omega), hy, before_f, Option.bind_some]
              by_cases c5 : ltE y x = true
              · rw [if_pos c5]; simp [c5]
              · rw [if_neg c5]; simp [Bool.eq_false_iff.mpr c5]
theorem may_t (l : List S39) (hb : l.length ≤ 2932031007402) : ∀ (rest : List S39) (n k : Nat) (p : Option S39), l.drop n = rest → rest.length + 4 ≤ k → isPrev l n p → table_may.l0 k l l (l.length : Int) n = some (mayFrom p rest)
  | [], n, k, p, h, hk, hp => by
    obtain ⟨k, rfl⟩ : ∃ q, k = q + 1 := ⟨k - 1, by omega⟩
    have := drop_nil h
    rw [table_may.l0, if_neg (by omega)]
    cases p <;> rfl
  | x :: xs, n, k, p, h, hk, hp => by
    obtain ⟨k, rfl⟩ : ∃ q, k = q + 1 := ⟨k - 1, by omega⟩
    obtain ⟨h1, h2, h3⟩ := at_drop h
    simp only [List.length_cons] at hk
    have ih := may_t l hb xs (n + 1) k (some x) h2 (by omega) ⟨by omega, by rw [← h3]; congr 1; omega⟩
    rw [table_may.l0, if_pos h1, if_pos (by omega), if_pos h1, h3, wrap_up n (by omega), ih]
    rw [mayFrom_cons]
    unfold okE
    by_cases c1 : x.f1 < 1
    · rw [if_pos c1, decide_eq_false (by omega)]; rfl
    · rw [if_neg c1]
      by_cases c2 : x.f1 > 3
      · rw [if_pos c2, decide_eq_false (by omega)]; rfl
      · rw [if_neg c2]
        unfold ident_CheckId.f
        by_cases c3 : x.f0 < 1
        · rw [if_pos c3, Option.bind_some, if_neg (by decide), decide_eq_false (by omega)]; rfl
        · rw [if_neg c3]
          by_cases c4 : x.f0 > 2147483647
          · rw [if_pos c4, Option.bind_some, if_neg (by decide), decide_eq_false (by omega)]; rfl
          · rw [if_neg c4, Option.bind_some, if_pos rfl, decide_eq_true (by omega)]
            cases p with
            | none =>
              have hp : n = 0 := hp
              rw [if_neg (by omega)]
              simp
            | some y =>
              obtain ⟨hp, hy⟩ := hp
              have e1 : wrap64 ((n : Int) - 1) = (n : Int) - 1 := by unfold wrap64; omega
              rw [if_pos (by omega), e1, if_pos (by omega), if_pos (by omega), hy, ord_f _ (by omega), Option.bind_some]
              have c5 := ord_neg y x
              by_cases c6 : ordv y.f0 y.f1 x.f0 x.f1 < 0
              · rw [decide_eq_true c6] at c5
                rw [if_neg (by omega)]; simp [← c5]
              · rw [decide_eq_false c6] at c5
                rw [if_pos (by omega)]; simp [← c5]
theorem mayR (l : List S39) (hb : l.length ≤ 2932031007402) (k : Nat) (hk : l.length + 1 ≤ k) : beaconref17_may.f k l = some (mayb l) := may_r l hb l 0 k none rfl hk rfl
theorem mayT (l : List S39) (hb : l.length ≤ 2932031007402) (k : Nat) (hk : l.length + 4 ≤ k) : table_may.f k l = some (mayb l) := may_t l hb l 0 k none rfl hk rfl

theorem copy_l (l : List S39) (hl : l.length ≤ 2932031007402) : ∀ (rest : List S39) (n k : Nat) (acc : List S39), l.drop n = rest → rest.length + 1 ≤ k → acc.length = n → beaconref15_Entries.l0 k l acc n = some (acc ++ rest)
  | [], n, k, acc, h, hk, ha => by
    obtain ⟨k, rfl⟩ : ∃ q, k = q + 1 := ⟨k - 1, by omega⟩
    have := drop_nil h
    rw [beaconref15_Entries.l0, if_neg (by omega), List.append_nil]
  | x :: xs, n, k, acc, h, hk, ha => by
    obtain ⟨k, rfl⟩ : ∃ q, k = q + 1 := ⟨k - 1, by omega⟩
    obtain ⟨h1, h2, h3⟩ := at_drop h
    simp only [List.length_cons] at hk
    rw [beaconref15_Entries.l0, if_pos h1, if_pos (by omega), if_pos (by omega), h3, eta39, wrap_up n (by omega), copy_l l hl xs (n + 1) k _ h2 (by omega) (by simp; omega)]
    simp
theorem copyR (l : List S39) (hl : l.length ≤ 2932031007402) (k : Nat) (hk : l.length + 1 ≤ k) : beaconref15_Entries.f k l = some l := by
  unfold beaconref15_Entries.f
  have := copy_l l hl l 0 k [] rfl hk rfl
  rw [show ((0 : Nat) : Int) = 0 from rfl] at this
  rw [this, List.nil_append]
def far (x : S39) : Bool := flt 9218868437227405311 x.f2
theorem inf_f (a : Nat) : math_IsInf.f a 1 = some (flt 9218868437227405311 a) := by
  unfold math_IsInf.f
  rw [if_neg (by decide), if_neg (by decide)]
theorem far_f (a : Nat) : beaconref17_Far.f a = some (flt 9218868437227405311 a) := rfl
def tup (y : S39) (s : Bool) : Int × Int × Nat × Int × Nat × Int × Bool := (y.f0, y.f1, y.f2, y.f3, y.f4, y.f5, s)
def stepS (d : Int) (p : Option S39) (x : S39) : Option S39 := if x.f0 = d then (if far x = true then p else match p with | none => some x | some y => if x.f1 < y.f1 then some x else some y) else p
def stepF (d : Int) (q : Option S39) (x : S39) : Option S39 := match q with | none => if x.f0 = d then some x else none | some y => some y
def bestS (d : Int) : List S39 → Option S39 → Option S39
  | [], p => p
  | x :: xs, p => bestS d xs (stepS d p x)
def firstS (d : Int) : List S39 → Option S39 → Option S39
  | [], q => q
  | x :: xs, q => firstS d xs (stepF d q x)
def outS (p q : Option S39) : Int × Int × Nat × Int × Nat × Int × Bool := match p with | some y => tup y true | none => tup (q.getD z39) q.isSome
theorem first_some (d : Int) (y : S39) : ∀ l, firstS d l (some y) = some y
  | [] => rfl
  | _ :: xs => first_some d y xs
theorem find_t (d : Int) (l : List S39) (hl : l.length ≤ 2932031007402) : ∀ (rest : List S39) (n k : Nat) (p q : Option S39), l.drop n = rest → rest.length + 1 ≤ k →
    table_Find.l0 k d p.isSome q.isSome l (l.length : Int) n (p.getD z39).f0 (p.getD z39).f1 (p.getD z39).f2 (p.getD z39).f3 (p.getD z39).f4 (p.getD z39).f5 (q.getD z39).f0 (q.getD z39).f1 (q.getD z39).f2 (q.getD z39).f3 (q.getD z39).f4 (q.getD z39).f5 = some (outS (bestS d rest p) (firstS d rest q))
  | [], n, k, p, q, h, hk => by
    obtain ⟨k, rfl⟩ : ∃ q, k = q + 1 := ⟨k - 1, by omega⟩
    have := drop_nil h
    rw [table_Find.l0, if_neg (by omega)]
    cases p <;> rfl
  | x :: xs, n, k, p, q, h, hk => by
    obtain ⟨k, rfl⟩ : ∃ q, k = q + 1 := ⟨k - 1, by omega⟩
    obtain ⟨h1, h2, h3⟩ := at_drop h
    simp only [List.length_cons] at hk
    have IH := fun p q => find_t d l hl xs (n + 1) k p q h2 (by omega)
    show _ = some (outS (bestS d xs (stepS d p x)) (firstS d xs (stepF d q x)))
    rw [table_Find.l0, if_pos h1, if_pos (by omega), if_pos h1, h3, inf_f, Option.bind_some, wrap_up n (by omega)]
    by_cases c1 : x.f0 = d
    · by_cases c2 : flt 9218868437227405311 x.f2 = true
      · cases p with
        | none =>
          cases q with
          | none =>
            simp only [Option.bind_some, stepS, stepF, far, eq_true c1, eq_true c2, if_true, Option.isSome_none, Bool.false_eq_true, if_false]
            exact IH none (some x)
          | some z =>
            simp only [Option.bind_some, stepS, stepF, far, eq_true c1, eq_true c2, if_true, Option.isSome_none, Option.isSome_some, Bool.false_eq_true, if_false]
            exact IH none (some z)
        | some y =>
          cases q with
          | none =>
            simp only [Option.bind_some, stepS, stepF, far, eq_true c1, eq_true c2, if_true, Option.isSome_none, Option.isSome_some, Bool.false_eq_true, if_false]
            exact IH (some y) (some x)
          | some z =>
            simp only [Option.bind_some, stepS, stepF, far, eq_true c1, eq_true c2, if_true, Option.isSome_some, Bool.false_eq_true, if_false]
            exact IH (some y) (some z)
      · cases p with
        | none =>
          cases q with
          | none =>
            simp only [Option.bind_some, stepS, stepF, far, eq_true c1, eq_false c2, if_true, Option.isSome_none, Bool.false_eq_true, if_false]
            exact IH (some x) (some x)
          | some z =>
            simp only [Option.bind_some, stepS, stepF, far, eq_true c1, eq_false c2, if_true, Option.isSome_none, Option.isSome_some, Bool.false_eq_true, if_false]
            exact IH (some x) (some z)
        | some y =>
          by_cases c3 : x.f1 < y.f1
          · cases q with
            | none =>
              simp only [Option.bind_some, stepS, stepF, far, eq_true c1, eq_false c2, eq_true c3, if_true, Option.isSome_none, Option.isSome_some, Option.getD_some, Bool.false_eq_true, if_false]
              exact IH (some x) (some x)
            | some z =>
              simp only [Option.bind_some, stepS, stepF, far, eq_true c1, eq_false c2, eq_true c3, if_true, Option.isSome_some, Option.getD_some, Bool.false_eq_true, if_false]
              exact IH (some x) (some z)
          · cases q with
            | none =>
              simp only [Option.bind_some, stepS, stepF, far, eq_true c1, eq_false c2, eq_false c3, if_true, Option.isSome_none, Option.isSome_some, Option.getD_some, Bool.false_eq_true, if_false]
              exact IH (some y) (some x)
            | some z =>
              simp only [Option.bind_some, stepS, stepF, far, eq_true c1, eq_false c2, eq_false c3, if_true, Option.isSome_some, Option.getD_some, Bool.false_eq_true, if_false]
              exact IH (some y) (some z)
    · cases q with
      | none =>
        simp only [stepS, stepF, eq_false c1, if_false]
        exact IH p none
      | some z =>
        simp only [stepS, stepF, eq_false c1, if_false]
        exact IH p (some z)
theorem find_r1 (d : Int) (l : List S39) (b : Bool) (hl : l.length ≤ 2932031007402) : ∀ (rest : List S39) (n k : Nat) (p : Option S39), l.drop n = rest → 2 * rest.length + 2 ≤ k →
    beaconref17_Find.l1 k d p.isSome n l b (p.getD z39).f0 (p.getD z39).f1 (p.getD z39).f2 (p.getD z39).f3 (p.getD z39).f4 (p.getD z39).f5 = some (outS p (firstS d rest none))
  | [], n, k, p, h, hk => by
    obtain ⟨k, rfl⟩ : ∃ q, k = q + 2 := ⟨k - 2, by omega⟩
    have := drop_nil h
    rw [beaconref17_Find.l1, if_neg (by omega), beaconref17_Find.j2, if_neg (by decide)]
    cases p <;> rfl
  | x :: xs, n, k, p, h, hk => by
    obtain ⟨k, rfl⟩ : ∃ q, k = q + 2 := ⟨k - 2, by omega⟩
    obtain ⟨h1, h2, h3⟩ := at_drop h
    simp only [List.length_cons] at hk
    have IH := fun p => find_r1 d l b hl xs (n + 1) k p h2 (by omega)
    rw [beaconref17_Find.l1, if_pos h1, beaconref17_Find.j2]
    cases p with
    | some y => rfl
    | none =>
      rw [if_pos (by rfl), if_pos (by omega), if_pos h1, h3, wrap_up n (by omega)]
      by_cases c1 : x.f0 = d
      · rw [if_pos c1]
        have h9 := IH (some x)
        have e : outS none (firstS d (x :: xs) none) = outS (some x) (firstS d xs none) := by
          show outS none (firstS d xs (stepF d none x)) = _
          simp only [stepF, eq_true c1, if_true, first_some]
          rfl
        rw [e]
        exact h9
      · rw [if_neg c1]
        have h9 := IH none
        have e : outS none (firstS d (x :: xs) none) = outS none (firstS d xs none) := by
          show outS none (firstS d xs (stepF d none x)) = _
          simp only [stepF, eq_false c1, if_false]
        rw [e]
        exact h9
theorem find_r0 (d : Int) (l : List S39) (b : Bool) (hl : l.length ≤ 2932031007402) : ∀ (rest : List S39) (n k : Nat) (p : Option S39), l.drop n = rest → rest.length + 2 * l.length + 3 ≤ k →
    beaconref17_Find.l0 k d p.isSome n l b (p.getD z39).f0 (p.getD z39).f1 (p.getD z39).f2 (p.getD z39).f3 (p.getD z39).f4 (p.getD z39).f5 = some (outS (bestS d rest p) (firstS d l none))
  | [], n, k, p, h, hk => by
    obtain ⟨k, rfl⟩ : ∃ q, k = q + 1 := ⟨k - 1, by omega⟩
    have := drop_nil h
    rw [beaconref17_Find.l0, if_neg (by omega)]
    exact find_r1 d l b hl l 0 k p rfl (by omega)
  | x :: xs, n, k, p, h, hk => by
    obtain ⟨k, rfl⟩ : ∃ q, k = q + 1 := ⟨k - 1, by omega⟩
    obtain ⟨h1, h2, h3⟩ := at_drop h
    simp only [List.length_cons] at hk
    have IH := fun p => find_r0 d l b hl xs (n + 1) k p h2 (by omega)
    show _ = some (outS (bestS d xs (stepS d p x)) _)
    rw [beaconref17_Find.l0, if_pos h1, if_pos (by omega), h3, far_f, Option.bind_some, wrap_up n (by omega)]
    by_cases c1 : x.f0 = d
    · by_cases c2 : flt 9218868437227405311 x.f2 = true
      · simp only [stepS, far, eq_true c1, eq_true c2, if_true]
        exact IH p
      · cases p with
        | none =>
          simp only [stepS, far, eq_true c1, eq_false c2, if_true, Option.isSome_none, Bool.false_eq_true, if_false]
          exact IH (some x)
        | some y =>
          by_cases c3 : x.f1 < y.f1
          · simp only [stepS, far, eq_true c1, eq_false c2, eq_true c3, if_true, Option.isSome_some, Option.getD_some, if_false]
            exact IH (some x)
          · simp only [stepS, far, eq_true c1, eq_false c2, eq_false c3, if_true, Option.isSome_some, Option.getD_some, if_false]
            exact IH (some y)
    · simp only [stepS, eq_false c1, if_false]
      exact IH p

theorem ownR (l : List S39) (b : Bool) (hl : l.length ≤ 2932031007402) (k : Nat) (hk : l.length + 1 ≤ k) : beaconlaw19_own.f k l b = some (l, b) := by
  unfold beaconlaw19_own.f
  rw [copyR l hl k hk]
  rfl
theorem findT (d : Int) (l : List S39) (b : Bool) (hl : l.length ≤ 2932031007402) (k : Nat) (hk : l.length + 1 ≤ k) : table_Find.f k l b d = some (outS (bestS d l none) (firstS d l none)) := find_t d l hl l 0 k none none rfl hk
theorem findR (d : Int) (l : List S39) (b : Bool) (hl : l.length ≤ 2932031007402) (k : Nat) (hk : 3 * l.length + 3 ≤ k) : beaconref17_Find.f k l b d = some (outS (bestS d l none) (firstS d l none)) := find_r0 d l b hl l 0 k none rfl (by omega)

/-! ### names and numbers -/
def num (x : Int) : Bool := decide (1 ≤ x ∧ x ≤ 2147483647)
theorem id_f (x : Int) : ident_CheckId.f x = some (if num x = true then 0 else 20) := by
  unfold ident_CheckId.f num
  by_cases h : x < 1
  · rw [if_pos h, decide_eq_false (by omega)]; rfl
  · rw [if_neg h]
    by_cases h' : x > 2147483647
    · rw [if_pos h', decide_eq_false (by omega)]; rfl
    · rw [if_neg h', decide_eq_true (by omega)]; rfl
theorem id_r (x : Int) : beaconref02_CheckId.f x = some (if num x = true then 0 else 20) := id_f x
theorem num_f (x : Int) : message_number.f x = some (num x) := by
  unfold message_number.f
  rw [id_f]
  cases num x <;> rfl
theorem num_r (x : Int) : beaconref06_number.f x = some (num x) := by
  unfold beaconref06_number.f
  rw [id_r]
  cases num x <;> rfl
def lett (c : Int) : Bool := decide (97 ≤ c ∧ c ≤ 122)
def digi (c : Int) : Bool := decide (48 ≤ c ∧ c ≤ 57)
theorem lett_f (c : Int) : beaconref02_letter.f c = some (lett c) := by
  unfold beaconref02_letter.f lett
  by_cases h : c ≥ 97
  · rw [if_pos h]
    by_cases h' : c ≤ 122
    · rw [decide_eq_true h', decide_eq_true (show 97 ≤ c ∧ c ≤ 122 by omega)]
    · rw [decide_eq_false h', decide_eq_false (show ¬ (97 ≤ c ∧ c ≤ 122) by omega)]
  · rw [if_neg h, decide_eq_false (show ¬ (97 ≤ c ∧ c ≤ 122) by omega)]
theorem digi_f (c : Int) : beaconref02_digit.f c = some (digi c) := by
  unfold beaconref02_digit.f digi
  by_cases h : c ≥ 48
  · rw [if_pos h]
    by_cases h' : c ≤ 57
    · rw [decide_eq_true h', decide_eq_true (show 48 ≤ c ∧ c ≤ 57 by omega)]
    · rw [decide_eq_false h', decide_eq_false (show ¬ (48 ≤ c ∧ c ≤ 57) by omega)]
  · rw [if_neg h, decide_eq_false (show ¬ (48 ≤ c ∧ c ≤ 57) by omega)]
theorem within_f (c : Int) : ident_within.f c = some (lett c || digi c || decide (c = 45)) := by
  unfold ident_within.f lett digi
  by_cases h0 : c = 45
  · rw [if_pos h0, decide_eq_true h0, Bool.or_true]
  · rw [if_neg h0, decide_eq_false h0, Bool.or_false]
    by_cases h : c ≥ 97
    · rw [if_pos h, decide_eq_false (show ¬ (48 ≤ c ∧ c ≤ 57) by omega), Bool.or_false]
      by_cases h1 : c ≤ 122
      · rw [if_pos h1, decide_eq_true (show 97 ≤ c ∧ c ≤ 122 by omega)]
      · rw [if_neg h1, if_pos (show c ≥ 48 by omega), decide_eq_false (show ¬ c ≤ 57 by omega), decide_eq_false (show ¬ (97 ≤ c ∧ c ≤ 122) by omega)]
    · rw [if_neg h, decide_eq_false (show ¬ (97 ≤ c ∧ c ≤ 122) by omega), Bool.false_or]
      by_cases h1 : c ≥ 48
      · rw [if_pos h1]
        by_cases h2 : c ≤ 57
        · rw [decide_eq_true h2, decide_eq_true (show 48 ≤ c ∧ c ≤ 57 by omega)]
        · rw [decide_eq_false h2, decide_eq_false (show ¬ (48 ≤ c ∧ c ≤ 57) by omega)]
      · rw [if_neg h1, decide_eq_false (show ¬ (48 ≤ c ∧ c ≤ 57) by omega)]
def nameL (s : ByteArray) : Nat → Nat → Int
  | 0, _ => 0
  | d + 1, n => if (lett (bt s n) || digi (bt s n) || decide (bt s n = 45)) = true then nameL s d (n + 1) else 21
theorem name_fl (s : ByteArray) (hs : s.size ≤ 32) : ∀ (d n k : Nat), n + d = s.size → d + 1 ≤ k → ident_CheckName.l0 k s (s.size : Int) n = some (nameL s d n)
  | 0, n, k, h, hk => by
    obtain ⟨k, rfl⟩ : ∃ q, k = q + 1 := ⟨k - 1, by omega⟩
    rw [ident_CheckName.l0, if_neg (by omega)]
    rfl
  | d + 1, n, k, h, hk => by
    obtain ⟨k, rfl⟩ : ∃ q, k = q + 1 := ⟨k - 1, by omega⟩
    rw [ident_CheckName.l0, if_pos (by omega), if_pos (by omega), if_pos (by omega), within_f, Option.bind_some, wrap_up n (by omega), name_fl s hs d (n + 1) k (by omega) (by omega)]
    show _ = some (if _ then _ else _)
    cases (lett (bt s n) || digi (bt s n) || decide (bt s n = 45)) <;> rfl
theorem name_rl (s : ByteArray) (hs : s.size ≤ 32) : ∀ (d n k : Nat), n + d = s.size → d + 1 ≤ k → beaconref02_CheckName.l0 k s (s.size : Int) n = some (nameL s d n)
  | 0, n, k, h, hk => by
    obtain ⟨k, rfl⟩ : ∃ q, k = q + 1 := ⟨k - 1, by omega⟩
    rw [beaconref02_CheckName.l0, if_neg (by omega)]
    rfl
  | d + 1, n, k, h, hk => by
    obtain ⟨k, rfl⟩ : ∃ q, k = q + 1 := ⟨k - 1, by omega⟩
    rw [beaconref02_CheckName.l0, if_pos (by omega), if_pos (by omega), if_pos (by omega), lett_f, digi_f, Option.bind_some, Option.bind_some, wrap_up n (by omega), name_rl s hs d (n + 1) k (by omega) (by omega)]
    show _ = some (if _ then _ else _)
    by_cases h45 : bt s n = 45
    · rw [if_pos h45]
      cases lett (bt s n) <;> cases digi (bt s n) <;> simp [h45]
    · rw [if_neg h45]
      cases lett (bt s n) <;> cases digi (bt s n) <;> simp [h45]
def nameV (s : ByteArray) : Int := if s.size < 1 ∨ 32 < s.size then 21 else if lett (bt s 0) = true then (if bt s ((s.size : Int) - 1) = 45 then 21 else nameL s s.size 0) else 21
theorem name_f (s : ByteArray) (hs : s.size ≤ 140737488351232) (k : Nat) (hk : 35 ≤ k) : ident_CheckName.f k s = some (nameV s) := by
  obtain ⟨k, rfl⟩ : ∃ q, k = q + 1 := ⟨k - 1, by omega⟩
  unfold ident_CheckName.f nameV
  by_cases h1 : (s.size : Int) < 1
  · rw [if_pos h1, if_pos (by omega), ident_CheckName.j0, if_pos rfl]
  · rw [if_neg h1]
    by_cases h2 : (s.size : Int) > 32
    · rw [if_pos h2, if_pos (by omega), ident_CheckName.j0, if_pos rfl]
    · rw [if_neg h2, if_pos (show 0 < (s.size : Int) by omega), if_neg (show ¬ (s.size < 1 ∨ 32 < s.size) by omega)]
      have e : wrap64 ((s.size : Int) - 1) = (s.size : Int) - 1 := by unfold wrap64; omega
      rw [e]
      unfold lett
      by_cases h3 : bt s 0 < 97
      · rw [if_pos h3, decide_eq_false (show ¬ (97 ≤ bt s 0 ∧ bt s 0 ≤ 122) by omega), ident_CheckName.j0, if_pos rfl]; rfl
      · rw [if_neg h3]
        by_cases h4 : bt s 0 > 122
        · rw [if_pos h4, decide_eq_false (show ¬ (97 ≤ bt s 0 ∧ bt s 0 ≤ 122) by omega), ident_CheckName.j0, if_pos rfl]; rfl
        · rw [if_neg h4, if_pos (by omega), if_pos (by omega), decide_eq_true (show 97 ≤ bt s 0 ∧ bt s 0 ≤ 122 by omega), ident_CheckName.j0, if_pos rfl]
          by_cases h5 : bt s ((s.size : Int) - 1) = 45
          · rw [if_pos (by simpa using h5), if_pos h5]
          · rw [if_neg (by simpa using h5), if_neg h5]
            exact name_fl s (by omega) s.size 0 k (by omega) (by omega)
theorem name_r (s : ByteArray) (hs : s.size ≤ 140737488351232) (k : Nat) (hk : 35 ≤ k) : beaconref02_CheckName.f k s = some (nameV s) := by
  obtain ⟨k, rfl⟩ : ∃ q, k = q + 1 := ⟨k - 1, by omega⟩
  unfold beaconref02_CheckName.f nameV
  by_cases h1 : (s.size : Int) < 1
  · rw [if_pos h1, if_pos (by omega), beaconref02_CheckName.j0, if_pos rfl]
  · rw [if_neg h1]
    by_cases h2 : (s.size : Int) > 32
    · rw [if_pos h2, if_pos (by omega), beaconref02_CheckName.j0, if_pos rfl]
    · rw [if_neg h2, if_pos (show 0 < (s.size : Int) by omega), if_neg (show ¬ (s.size < 1 ∨ 32 < s.size) by omega), lett_f, Option.bind_some]
      have e : wrap64 ((s.size : Int) - 1) = (s.size : Int) - 1 := by unfold wrap64; omega
      rw [e]
      cases lett (bt s 0) with
      | false => rw [if_neg (by decide), if_neg (by decide), beaconref02_CheckName.j0, if_pos rfl]
      | true =>
        rw [if_pos rfl, if_pos rfl, if_pos (by omega), if_pos (by omega), beaconref02_CheckName.j0]
        by_cases h5 : bt s ((s.size : Int) - 1) = 45
        · rw [if_pos (by simpa using h5), if_pos h5]
        · rw [if_neg (by simpa using h5), if_neg h5]
          exact name_rl s (by omega) s.size 0 k (by omega) (by omega)
theorem nm_r (s : ByteArray) (hs : s.size ≤ 140737488351232) (k : Nat) (hk : 35 ≤ k) : beaconref06_name.f k s = some (nameV s == 0) := by
  unfold beaconref06_name.f
  rw [name_r s hs k hk]
  rfl

/-! ### packets that may be -/
def fin (p0 p7 : Int) (p8 p11 : ByteArray) (x3 x4 x5 : Bool) : Bool :=
  if p0 = 1 then decide (p7 = 0) && (p8.toList == ([] : List UInt8)) && x4 && decide ((p11.size : Int) ≤ 1024)
  else if p0 = 2 then decide (p7 = 0) && x5 && x3
  else if p0 = 3 then decide (p7 = 0) && x5 && x4
  else if p0 = 4 then x5 && (decide (p7 = 0) && x3 || decide (p7 = 1) && x4)
  else false
theorem m3 (k : Nat) (x3 x4 x5 : Bool) (p0 p1 p2 p3 p4 p5 p6 p7 : Int) (p8 : ByteArray) (p9 p10 : Int) (p11 : ByteArray) :
    message_packet.j3 (k + 1) x3 x4 x5 p0 p1 p2 p3 p4 p5 p6 p7 p8 p9 p10 p11 = some (fin p0 p7 p8 p11 x3 x4 x5) := by
  rw [message_packet.j3]
  unfold fin
  by_cases h1 : p0 = 1
  · rw [if_pos h1, if_pos h1]
    by_cases h7 : p7 = 0
    · rw [if_pos h7]
      by_cases h8 : p8.toList = ([] : List UInt8)
      · rw [if_pos h8]; cases x4 <;> simp [h7, h8]
      · rw [if_neg h8]; simp [h8]
    · rw [if_neg h7]; simp [h7]
  · rw [if_neg h1, if_neg h1]
    by_cases h2 : p0 = 2
    · rw [if_pos h2, if_pos h2]
      by_cases h7 : p7 = 0
      · rw [if_pos h7]; cases x5 <;> simp [h7]
      · rw [if_neg h7]; simp [h7]
    · rw [if_neg h2, if_neg h2]
      by_cases h3 : p0 = 3
      · rw [if_pos h3, if_pos h3]
        by_cases h7 : p7 = 0
        · rw [if_pos h7]; cases x5 <;> simp [h7]
        · rw [if_neg h7]; simp [h7]
      · rw [if_neg h3, if_neg h3]
        by_cases h4 : p0 = 4
        · rw [if_pos h4, if_pos h4]
          by_cases h7 : p7 = 0
          · cases x5 <;> cases x3 <;> simp [h7]
          · by_cases h7' : p7 = 1
            · cases x5 <;> simp [h7']
            · cases x5 <;> simp [h7, h7']
        · rw [if_neg h4, if_neg h4]
theorem r2 (k : Nat) (hk : 35 ≤ k) (x3 x4 : Bool) (p0 p1 p2 p3 p4 p5 p6 p7 : Int) (p8 : ByteArray) (p9 p10 : Int) (p11 : ByteArray) (hs : p8.size ≤ 140737488351232) :
    beaconref06_MayPacket.j2 (k + 1) x3 x4 p0 p1 p2 p3 p4 p5 p6 p7 p8 p9 p10 p11 = some (fin p0 p7 p8 p11 x3 x4 (decide (nameV p8 = 0) && (p11.toList == ([] : List UInt8)))) := by
  rw [beaconref06_MayPacket.j2, nm_r p8 hs k hk, Option.bind_some, Option.bind_some, Option.bind_some]
  unfold fin
  by_cases h1 : p0 = 1
  · rw [if_pos h1, if_pos h1]
    by_cases h7 : p7 = 0
    · rw [if_pos h7]
      by_cases h8 : p8.toList = ([] : List UInt8)
      · rw [if_pos h8]; cases x4 <;> simp [h7, h8]
      · rw [if_neg h8]; simp [h8]
    · rw [if_neg h7]; simp [h7]
  · rw [if_neg h1, if_neg h1]
    by_cases hn : nameV p8 = 0
    · by_cases h2 : p0 = 2
      · rw [if_pos h2, if_pos h2]
        by_cases h7 : p7 = 0
        · rw [if_pos h7]; cases x3 <;> simp [h7, hn]
        · rw [if_neg h7]; simp [h7]
      · rw [if_neg h2, if_neg h2]
        by_cases h3 : p0 = 3
        · rw [if_pos h3, if_pos h3]
          by_cases h7 : p7 = 0
          · rw [if_pos h7]; cases x4 <;> simp [h7, hn]
          · rw [if_neg h7]; simp [h7]
        · rw [if_neg h3, if_neg h3]
          by_cases h4 : p0 = 4
          · rw [if_pos h4, if_pos h4]
            by_cases h11 : p11.toList = ([] : List UInt8)
            · by_cases h7 : p7 = 0
              · cases x3 <;> simp [h7, hn, h11]
              · by_cases h7' : p7 = 1
                · simp [h7', hn, h11]
                · simp [h7, h7', hn, h11]
            · simp [h11, hn]
          · rw [if_neg h4, if_neg h4]
    · by_cases h2 : p0 = 2
      · rw [if_pos h2, if_pos h2]
        by_cases h7 : p7 = 0 <;> simp [h7, hn]
      · rw [if_neg h2, if_neg h2]
        by_cases h3 : p0 = 3
        · rw [if_pos h3, if_pos h3]
          by_cases h7 : p7 = 0 <;> simp [h7, hn]
        · rw [if_neg h3, if_neg h3]
          by_cases h4 : p0 = 4
          · rw [if_pos h4, if_pos h4]
            simp [hn]
          · rw [if_neg h4, if_neg h4]
def x3S (p9 p10 : Int) : Bool := num p9 && (decide (p10 = 0) || num p10)
def x4S (p9 p10 : Int) : Bool := decide (p9 = 0) && decide (p10 = 0)
def pkS (p0 p7 : Int) (p8 : ByteArray) (p9 p10 : Int) (p11 : ByteArray) : Bool := fin p0 p7 p8 p11 (x3S p9 p10) (x4S p9 p10) (decide (nameV p8 = 0) && (p11.toList == ([] : List UInt8)))
theorem m2 (k : Nat) (hk : 35 ≤ k) (x3 x4 : Bool) (p0 p1 p2 p3 p4 p5 p6 p7 : Int) (p8 : ByteArray) (p9 p10 : Int) (p11 : ByteArray) (hs : p8.size ≤ 140737488351232) :
    message_packet.j2 (k + 2) x3 x4 p0 p1 p2 p3 p4 p5 p6 p7 p8 p9 p10 p11 = some (fin p0 p7 p8 p11 x3 x4 (decide (nameV p8 = 0) && (p11.toList == ([] : List UInt8)))) := by
  rw [message_packet.j2, name_f p8 hs (k + 1) (by omega), Option.bind_some, m3, m3]
  by_cases h : nameV p8 = 0
  · rw [if_pos h, decide_eq_true h, Bool.true_and]
  · rw [if_neg h, decide_eq_false h, Bool.false_and]
theorem m1 (k : Nat) (hk : 35 ≤ k) (x3 : Bool) (p0 p1 p2 p3 p4 p5 p6 p7 : Int) (p8 : ByteArray) (p9 p10 : Int) (p11 : ByteArray) (hs : p8.size ≤ 140737488351232) :
    message_packet.j1 (k + 3) x3 p0 p1 p2 p3 p4 p5 p6 p7 p8 p9 p10 p11 = some (fin p0 p7 p8 p11 x3 (x4S p9 p10) (decide (nameV p8 = 0) && (p11.toList == ([] : List UInt8)))) := by
  rw [message_packet.j1, m2 k hk x3 _ p0 p1 p2 p3 p4 p5 p6 p7 p8 p9 p10 p11 hs, m2 k hk x3 _ p0 p1 p2 p3 p4 p5 p6 p7 p8 p9 p10 p11 hs]
  unfold x4S
  by_cases h : p9 = 0
  · have e : (p10 == 0) = decide (p10 = 0) := by
      rw [Bool.eq_iff_iff]
      simp
    rw [if_pos h, decide_eq_true h, Bool.true_and, e]
  · rw [if_neg h, decide_eq_false h, Bool.false_and]
theorem m0 (k : Nat) (hk : 35 ≤ k) (b : Bool) (p0 p1 p2 p3 p4 p5 p6 p7 : Int) (p8 : ByteArray) (p9 p10 : Int) (p11 : ByteArray) (hs : p8.size ≤ 140737488351232) :
    message_packet.j0 (k + 4) b p0 p1 p2 p3 p4 p5 p6 p7 p8 p9 p10 p11 = some (!b && pkS p0 p7 p8 p9 p10 p11) := by
  rw [message_packet.j0]
  cases b with
  | true => rw [if_pos rfl]; rfl
  | false =>
    rw [if_neg (by decide)]
    simp only [m1 k hk _ p0 p1 p2 p3 p4 p5 p6 p7 p8 p9 p10 p11 hs, num_f, Option.bind_some]
    unfold pkS
    show _ = some (fin p0 p7 p8 p11 (x3S p9 p10) _ _)
    unfold x3S
    by_cases h9 : p9 = 0
    · have hn : num p9 = false := by unfold num; exact decide_eq_false (by omega)
      rw [if_pos h9, hn, Bool.false_and]
    · rw [if_neg h9]
      cases num p9 with
      | false => rw [if_neg (by decide), Bool.false_and]
      | true =>
        rw [if_pos rfl, Bool.true_and]
        by_cases h10 : p10 = 0
        · rw [if_pos h10, decide_eq_true h10, Bool.true_or]
        · rw [if_neg h10, decide_eq_false h10, Bool.false_or]
theorem r1 (k : Nat) (hk : 35 ≤ k) (x3 : Bool) (p0 p1 p2 p3 p4 p5 p6 p7 : Int) (p8 : ByteArray) (p9 p10 : Int) (p11 : ByteArray) (hs : p8.size ≤ 140737488351232) :
    beaconref06_MayPacket.j1 (k + 2) x3 p0 p1 p2 p3 p4 p5 p6 p7 p8 p9 p10 p11 = some (fin p0 p7 p8 p11 x3 (x4S p9 p10) (decide (nameV p8 = 0) && (p11.toList == ([] : List UInt8)))) := by
  rw [beaconref06_MayPacket.j1, r2 k hk x3 _ p0 p1 p2 p3 p4 p5 p6 p7 p8 p9 p10 p11 hs, r2 k hk x3 _ p0 p1 p2 p3 p4 p5 p6 p7 p8 p9 p10 p11 hs]
  unfold x4S
  by_cases h : p9 = 0
  · have e : (p10 == 0) = decide (p10 = 0) := by
      rw [Bool.eq_iff_iff]
      simp
    rw [if_pos h, decide_eq_true h, Bool.true_and, e]
  · rw [if_neg h, decide_eq_false h, Bool.false_and]
theorem r0 (k : Nat) (hk : 35 ≤ k) (b : Bool) (p0 p1 p2 p3 p4 p5 p6 p7 : Int) (p8 : ByteArray) (p9 p10 : Int) (p11 : ByteArray) (hs : p8.size ≤ 140737488351232) :
    beaconref06_MayPacket.j0 (k + 3) b p0 p1 p2 p3 p4 p5 p6 p7 p8 p9 p10 p11 = some (!b && pkS p0 p7 p8 p9 p10 p11) := by
  rw [beaconref06_MayPacket.j0]
  cases b with
  | true => rw [if_pos rfl]; rfl
  | false =>
    rw [if_neg (by decide)]
    simp only [r1 k hk _ p0 p1 p2 p3 p4 p5 p6 p7 p8 p9 p10 p11 hs, num_r, Option.bind_some]
    unfold pkS
    show _ = some (fin p0 p7 p8 p11 (x3S p9 p10) _ _)
    unfold x3S
    cases num p9 with
    | false => rw [if_neg (by decide), Bool.false_and]
    | true =>
      rw [if_pos rfl, Bool.true_and]
      by_cases h10 : p10 = 0
      · rw [if_pos h10, decide_eq_true h10, Bool.true_or]
      · rw [if_neg h10, decide_eq_false h10, Bool.false_or]
/-- A packet that may be: the program's answer, and the reference's. -/
theorem pk_both (k : Nat) (hk : 45 ≤ k) (k' : Nat) (hk' : 45 ≤ k') (p0 p1 p2 p3 p4 p5 p6 p7 : Int) (p8 : ByteArray) (p9 p10 : Int) (p11 : ByteArray) (hs : p8.size ≤ 140737488351232) :
    ∃ r : Bool, message_packet.f k p0 p1 p2 p3 p4 p5 p6 p7 p8 p9 p10 p11 = some r ∧ beaconref06_MayPacket.f k' p0 p1 p2 p3 p4 p5 p6 p7 p8 p9 p10 p11 = some r := by
  obtain ⟨k, rfl⟩ : ∃ q, k = q + 4 := ⟨k - 4, by omega⟩
  obtain ⟨k', rfl⟩ : ∃ q, k' = q + 3 := ⟨k' - 3, by omega⟩
  have e1 := fun b => m0 k (by omega) b p0 p1 p2 p3 p4 p5 p6 p7 p8 p9 p10 p11 hs
  have e2 := fun b => r0 k' (by omega) b p0 p1 p2 p3 p4 p5 p6 p7 p8 p9 p10 p11 hs
  have e3 : message_packet.f (k + 4) p0 p1 p2 p3 p4 p5 p6 p7 p8 p9 p10 p11 = beaconref06_MayPacket.f (k' + 3) p0 p1 p2 p3 p4 p5 p6 p7 p8 p9 p10 p11 := by
    unfold message_packet.f beaconref06_MayPacket.f
    simp only [e1, e2, num_f, num_r, Option.bind_some]
  rw [e3]
  unfold beaconref06_MayPacket.f
  simp only [e2, num_r, Option.bind_some]
  repeat' (first | exact ⟨_, rfl, rfl⟩ | split)
theorem may_both (k : Nat) (hk : 50 ≤ k) (p0 p1 p2 p3 p4 p5 p6 p7 : Int) (p8 : ByteArray) (p9 p10 : Int) (p11 : ByteArray) (hs : p8.size ≤ 140737488351232) :
    ∃ r : Bool, forward_may.f k p0 p1 p2 p3 p4 p5 p6 p7 p8 p9 p10 p11 = some r ∧ beaconref06_MayPacket.f k p0 p1 p2 p3 p4 p5 p6 p7 p8 p9 p10 p11 = some r := by
  obtain ⟨q, rfl⟩ : ∃ q, k = q + 1 := ⟨k - 1, by omega⟩
  obtain ⟨r, h1, h2⟩ := pk_both q (by omega) (q + 1) (by omega) p0 p1 p2 p3 p4 p5 p6 p7 p8 p9 p10 p11 hs
  refine ⟨r, ?_, h2⟩
  unfold forward_may.f message_Check.f
  rw [if_neg (by decide), if_neg (by decide), message_Check.j0]
  simp only [h1, Option.bind_some]
  cases r <;> simp

/-! ### roads -/
def idxS (d : Int) : List S39 → Nat → Int
  | [], _ => -1
  | x :: xs, n => if x.f1 = 1 ∧ x.f0 = d then n else idxS d xs (n + 1)
def homeS (d : Int) : List S39 → Option S39
  | [] => none
  | x :: xs => if x.f1 = 1 ∧ x.f0 = d then some x else homeS d xs
theorem idx_home (d : Int) (l : List S39) : ∀ (rest : List S39) (n : Nat), l.drop n = rest → (idxS d rest n = -1 ∧ homeS d rest = none) ∨ ∃ (j : Nat) (x : S39), idxS d rest n = j ∧ (j : Int) < l.length ∧ rd_T39 l j = x ∧ homeS d rest = some x
  | [], n, h => Or.inl ⟨rfl, rfl⟩
  | x :: xs, n, h => by
    obtain ⟨h1, h2, h3⟩ := at_drop h
    unfold idxS homeS
    by_cases c : x.f1 = 1 ∧ x.f0 = d
    · rw [if_pos c, if_pos c]
      exact Or.inr ⟨n, x, rfl, h1, h3, rfl⟩
    · rw [if_neg c, if_neg c]
      exact idx_home d l xs (n + 1) h2
theorem idx_f (l : List S39) (hl : l.length ≤ 2932031007402) (p0 p1 p2 p3 p4 p5 p6 p7 : Int) (p8 : ByteArray) (p9 p10 : Int) (p11 : ByteArray) : ∀ (rest : List S39) (n k : Nat), l.drop n = rest → rest.length + 1 ≤ k →
    api_Entry.l0 k l (l.length : Int) n p0 p1 p2 p3 p4 p5 p6 p7 p8 p9 p10 p11 = some (idxS p4 rest n)
  | [], n, k, h, hk => by
    obtain ⟨k, rfl⟩ : ∃ q, k = q + 1 := ⟨k - 1, by omega⟩
    have := drop_nil h
    rw [api_Entry.l0, if_neg (by omega)]
    rfl
  | x :: xs, n, k, h, hk => by
    obtain ⟨k, rfl⟩ : ∃ q, k = q + 1 := ⟨k - 1, by omega⟩
    obtain ⟨h1, h2, h3⟩ := at_drop h
    simp only [List.length_cons] at hk
    rw [api_Entry.l0, if_pos h1, if_pos (by omega), if_pos h1, h3, wrap_up n (by omega), idx_f l hl p0 p1 p2 p3 p4 p5 p6 p7 p8 p9 p10 p11 xs (n + 1) k h2 (by omega)]
    show _ = some (if _ then _ else _)
    unfold forward_road_1.f
    by_cases c1 : x.f1 = 1
    · by_cases c2 : x.f0 = p4 <;> simp [c1, c2]
    · simp [c1]
theorem home_r (l : List S39) (b : Bool) (hl : l.length ≤ 2932031007402) (p0 p1 p2 p3 p4 p5 p6 p7 : Int) (p8 : ByteArray) (p9 p10 : Int) (p11 : ByteArray) : ∀ (rest : List S39) (n k : Nat), l.drop n = rest → rest.length + 1 ≤ k →
    beaconref19_road.l0 k n l b p0 p1 p2 p3 p4 p5 p6 p7 p8 p9 p10 p11 = some (match homeS p4 rest with | some x => (x.f0, x.f1, x.f2, x.f3, x.f4, x.f5, false, true) | none => (0, 0, 0, 0, 0, 0, false, false))
  | [], n, k, h, hk => by
    obtain ⟨k, rfl⟩ : ∃ q, k = q + 1 := ⟨k - 1, by omega⟩
    have := drop_nil h
    rw [beaconref19_road.l0, if_neg (by omega)]
    rfl
  | x :: xs, n, k, h, hk => by
    obtain ⟨k, rfl⟩ : ∃ q, k = q + 1 := ⟨k - 1, by omega⟩
    obtain ⟨h1, h2, h3⟩ := at_drop h
    simp only [List.length_cons] at hk
    rw [beaconref19_road.l0, if_pos h1, if_pos (by omega), h3, wrap_up n (by omega), home_r l b hl p0 p1 p2 p3 p4 p5 p6 p7 p8 p9 p10 p11 xs (n + 1) k h2 (by omega)]
    have e : homeS p4 (x :: xs) = if x.f1 = 1 ∧ x.f0 = p4 then some x else homeS p4 xs := rfl
    rw [e]
    by_cases c1 : x.f1 = 1
    · by_cases c2 : x.f0 = p4
      · simp [c1, c2]
      · simp [c1, c2]
    · simp [c1]
theorem road_both (self : Int) (l : List S39) (b : Bool) (hl : l.length ≤ 2932031007402) (k : Nat) (hk : 4 * l.length + 10 ≤ k) (p0 p1 p2 p3 p4 p5 p6 p7 : Int) (p8 : ByteArray) (p9 p10 : Int) (p11 : ByteArray) :
    ∃ r, forward_decide.f k self l b p0 p1 p2 p3 p4 p5 p6 p7 p8 p9 p10 p11 = some r ∧ beaconref19_decide.f k self l b p0 p1 p2 p3 p4 p5 p6 p7 p8 p9 p10 p11 = some r := by
  obtain ⟨k, rfl⟩ : ∃ q, k = q + 1 := ⟨k - 1, by omega⟩
  unfold forward_decide.f beaconref19_decide.f beaconref19_road.f
  by_cases c0 : p3 = self
  · rw [if_pos c0, if_pos c0, Option.bind_some, if_pos rfl]
    exact ⟨_, rfl, rfl⟩
  · rw [if_neg c0, if_neg c0]
    unfold forward_road.f
    rw [findT p3 l b hl (k + 1) (by omega), findR p3 l b hl (k + 1) (by omega), Option.bind_some, Option.bind_some]
    generalize outS (bestS p3 l none) (firstS p3 l none) = q
    have he := idx_home p4 l l 0 rfl
    have hi : api_Entry.f k l p0 p1 p2 p3 p4 p5 p6 p7 p8 p9 p10 p11 = some (idxS p4 l 0) := idx_f l hl p0 p1 p2 p3 p4 p5 p6 p7 p8 p9 p10 p11 l 0 k rfl (by omega)
    have hh : beaconref19_road.l0 k 0 l b p0 p1 p2 p3 p4 p5 p6 p7 p8 p9 p10 p11 = _ := home_r l b hl p0 p1 p2 p3 p4 p5 p6 p7 p8 p9 p10 p11 l 0 k rfl (by omega)
    have last : ∀ f2 f3, ∃ r, (if (flt 9218868437227405311 f2) = true then (some ((4 : Int), (0 : Int), p0, p1, p2, p3, p4, p5, p6, p7, p8, p9, p10, p11)) else (if p5 = 0 then (some (5, 0, p0, p1, p2, p3, p4, p5, p6, p7, p8, p9, p10, p11)) else (some (2, f3, p0, p1, p2, p3, p4, wrap64 (p5 - 1), p6, p7, p8, p9, p10, p11)))) = some r := by
      intro f2 f3
      split
      · exact ⟨_, rfl⟩
      · split
        · exact ⟨_, rfl⟩
        · exact ⟨_, rfl⟩
    by_cases c1 : q.2.2.2.2.2.2 = true
    · rw [if_pos c1, if_pos c1, Option.bind_some, Option.bind_some]
      simp only [if_true, Bool.false_eq_true, if_false, inf_f, far_f, Option.bind_some]
      obtain ⟨r, hr⟩ := last q.2.2.1 q.2.2.2.1
      exact ⟨r, hr, hr⟩
    · rw [if_neg c1, if_neg c1]
      by_cases c2 : p4 = 0
      · rw [if_pos c2, if_pos c2, forward_road.j0, beaconref19_road.j0, if_pos rfl, if_pos rfl]
        exact ⟨_, rfl, rfl⟩
      · rw [if_neg c2, if_neg c2, forward_road.j0, beaconref19_road.j0]
        by_cases c3 : (p4 == self) = true
        · rw [if_pos c3, if_pos c3]
          exact ⟨_, rfl, rfl⟩
        · rw [if_neg c3, if_neg c3, hi, hh, Option.bind_some]
          rcases he with ⟨h1, h2⟩ | ⟨j, x, h1, h2, h3, h4⟩
          · rw [h1, h2, if_pos (by decide)]
            exact ⟨_, rfl, rfl⟩
          · rw [h1, h4, if_neg (by omega), if_pos (by omega), if_pos h2, h3]
            simp only [if_true, Bool.false_eq_true, if_false, inf_f, far_f, Option.bind_some]
            obtain ⟨r, hr⟩ := last x.f2 x.f3
            exact ⟨r, hr, hr⟩
end Go.Proofs.Ytgmjlhpigfaicaa.Pure
