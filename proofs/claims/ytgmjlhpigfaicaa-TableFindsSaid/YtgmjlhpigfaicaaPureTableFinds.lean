/- TableFinds: Find, Count and Marks tell of any table what the reference tells. -/
import Derived.Test.YtgmjlhpigfaicaaSTableFinds
import Derived.Test.YtgmjlhpigfaicaaTM
namespace Go.Proofs.Ytgmjlhpigfaicaa.Pure
open Go.RowKit Go.Proofs.YtgmjlhpigfaicaaW.PrintWords Go.Proofs.Ytgmjlhpigfaicaa.XA

theorem far_f (a : Nat) : beaconref17_Far.f a = some (flt 9218868437227405311 a) := rfl
theorem marks_r (l : List S39) (b : Bool) (hl : l.length ≤ 2932031007402) : ∀ (rest : List S39) (n k : Nat) (acc : List Int), l.drop n = rest → rest.length + 1 ≤ k → acc.length ≤ n → beaconref17_Marks.l0 k acc n l b = some (acc ++ marksS rest)
  | [], n, k, acc, h, hk, ha => by
    obtain ⟨k, rfl⟩ : ∃ q, k = q + 1 := ⟨k - 1, by omega⟩
    have := drop_nil h
    rw [beaconref17_Marks.l0, if_neg (by omega)]
    simp [marksS]
  | x :: xs, n, k, acc, h, hk, ha => by
    obtain ⟨k, rfl⟩ : ∃ q, k = q + 1 := ⟨k - 1, by omega⟩
    obtain ⟨h1, h2, h3⟩ := at_drop h
    simp only [List.length_cons] at hk
    rw [beaconref17_Marks.l0, if_pos h1, if_pos (by omega), h3, far_f, Option.bind_some, wrap_up n (by omega)]
    have hacc : acc.length < 17592186044416 := by omega
    rw [if_pos hacc, marks_r l b hl xs (n + 1) k acc h2 (by omega) (by omega), marks_r l b hl xs (n + 1) k (acc ++ [x.f0]) h2 (by omega) (by simp; omega)]
    rw [marks_cons]
    by_cases c1 : x.f1 = 1
    · rw [if_pos c1, if_pos c1]
      by_cases c2 : flt 9218868437227405311 x.f2 = true
      · rw [if_pos c2, if_pos c2]
      · rw [if_neg c2, if_neg c2]; simp
    · rw [if_neg c1, if_neg c1]
theorem marksR (l : List S39) (b : Bool) (hl : l.length ≤ 2932031007402) (k : Nat) (hk : l.length + 1 ≤ k) : beaconref17_Marks.f k l b = some (marksS l) := by
  unfold beaconref17_Marks.f
  have := marks_r l b hl l 0 k [] rfl hk (by simp)
  rw [show ((0 : Nat) : Int) = 0 from rfl] at this
  rw [this, List.nil_append]

def cntK (d : Int) : List S39 → Nat
  | [] => 0
  | x :: xs => (if x.f1 = d then 1 else 0) + cntK d xs
theorem cnt_cons (d : Int) (x : S39) (xs : List S39) : cntK d (x :: xs) = (if x.f1 = d then 1 else 0) + cntK d xs := rfl
theorem count_t (d : Int) (l : List S39) (hl : l.length ≤ 2932031007402) : ∀ (rest : List S39) (n k c : Nat), l.drop n = rest → rest.length + 1 ≤ k → c ≤ n → table_Count.l0 k d c l (l.length : Int) n = some (((c + cntK d rest : Nat)) : Int)
  | [], n, k, c, h, hk, hc => by
    obtain ⟨k, rfl⟩ : ∃ q, k = q + 1 := ⟨k - 1, by omega⟩
    have := drop_nil h
    rw [table_Count.l0, if_neg (by omega)]
    rfl
  | x :: xs, n, k, c, h, hk, hc => by
    obtain ⟨k, rfl⟩ : ∃ q, k = q + 1 := ⟨k - 1, by omega⟩
    obtain ⟨h1, h2, h3⟩ := at_drop h
    simp only [List.length_cons] at hk
    rw [table_Count.l0, if_pos h1, if_pos (by omega), if_pos h1, h3, wrap_up n (by omega), wrap_up c (by omega), count_t d l hl xs (n + 1) k c h2 (by omega) (by omega), count_t d l hl xs (n + 1) k (c + 1) h2 (by omega) (by omega)]
    rw [cnt_cons]
    by_cases c1 : x.f1 = d
    · rw [if_pos c1, if_pos c1, Nat.add_assoc]
    · rw [if_neg c1, if_neg c1, Nat.zero_add]
theorem count_r (d : Int) (l : List S39) (b : Bool) (hl : l.length ≤ 2932031007402) : ∀ (rest : List S39) (n k c : Nat), l.drop n = rest → rest.length + 1 ≤ k → c ≤ n → beaconref17_Count.l0 k d c n l b = some (((c + cntK d rest : Nat)) : Int)
  | [], n, k, c, h, hk, hc => by
    obtain ⟨k, rfl⟩ : ∃ q, k = q + 1 := ⟨k - 1, by omega⟩
    have := drop_nil h
    rw [beaconref17_Count.l0, if_neg (by omega)]
    rfl
  | x :: xs, n, k, c, h, hk, hc => by
    obtain ⟨k, rfl⟩ : ∃ q, k = q + 1 := ⟨k - 1, by omega⟩
    obtain ⟨h1, h2, h3⟩ := at_drop h
    simp only [List.length_cons] at hk
    rw [beaconref17_Count.l0, if_pos h1, if_pos (by omega), h3, wrap_up n (by omega), wrap_up c (by omega), count_r d l b hl xs (n + 1) k c h2 (by omega) (by omega), count_r d l b hl xs (n + 1) k (c + 1) h2 (by omega) (by omega)]
    rw [cnt_cons]
    by_cases c1 : x.f1 = d
    · rw [if_pos c1, if_pos c1, Nat.add_assoc]
    · rw [if_neg c1, if_neg c1, Nat.zero_add]

def tup (y : S39) (s : Bool) : Int × Int × Nat × Int × Nat × Int × Bool := (y.f0, y.f1, y.f2, y.f3, y.f4, y.f5, s)
def stepS (d : Int) (p : Option S39) (x : S39) : Option S39 := if x.f0 = d then (if far x = true then p else match p with | none => some x | some y => if x.f1 < y.f1 then some x else some y) else p
def stepF (d : Int) (q : Option S39) (x : S39) : Option S39 := match q with | none => if x.f0 = d then some x else none | some y => some y
def bestS (d : Int) : List S39 → Option S39 → Option S39
  | [], p => p
  | x :: xs, p => bestS d xs (stepS d p x)
def firstS (d : Int) : List S39 → Option S39 → Option S39
  | [], q => q
  | x :: xs, q => firstS d xs (stepF d q x)
def outS (p q : Option S39) : Int × Int × Nat × Int × Nat × Int × Bool := match p with | some y => tup y true | none => tup (q.getD z39) q.isSome
theorem first_some (d : Int) (y : S39) : ∀ l, firstS d l (some y) = some y
  | [] => rfl
  | _ :: xs => first_some d y xs
theorem find_t (d : Int) (l : List S39) (hl : l.length ≤ 2932031007402) : ∀ (rest : List S39) (n k : Nat) (p q : Option S39), l.drop n = rest → rest.length + 1 ≤ k →
    table_Find.l0 k d p.isSome q.isSome l (l.length : Int) n (p.getD z39).f0 (p.getD z39).f1 (p.getD z39).f2 (p.getD z39).f3 (p.getD z39).f4 (p.getD z39).f5 (q.getD z39).f0 (q.getD z39).f1 (q.getD z39).f2 (q.getD z39).f3 (q.getD z39).f4 (q.getD z39).f5 = some (outS (bestS d rest p) (firstS d rest q))
  | [], n, k, p, q, h, hk => by
    obtain ⟨k, rfl⟩ : ∃ q, k = q + 1 := ⟨k - 1, by omega⟩
    have := drop_nil h
    rw [table_Find.l0, if_neg (by omega)]
    cases p <;> rfl
  | x :: xs, n, k, p, q, h, hk => by
    obtain ⟨k, rfl⟩ : ∃ q, k = q + 1 := ⟨k - 1, by omega⟩
    obtain ⟨h1, h2, h3⟩ := at_drop h
    simp only [List.length_cons] at hk
    have IH := fun p q => find_t d l hl xs (n + 1) k p q h2 (by omega)
    show _ = some (outS (bestS d xs (stepS d p x)) (firstS d xs (stepF d q x)))
    rw [table_Find.l0, if_pos h1, if_pos (by omega), if_pos h1, h3, inf_f, Option.bind_some, wrap_up n (by omega)]
    by_cases c1 : x.f0 = d
    · by_cases c2 : flt 9218868437227405311 x.f2 = true
      · cases p with
        | none =>
          cases q with
          | none =>
            simp only [Option.bind_some, stepS, stepF, far, eq_true c1, eq_true c2, if_true, Option.isSome_none, Bool.false_eq_true, if_false]
            exact IH none (some x)
          | some z =>
            simp only [Option.bind_some, stepS, stepF, far, eq_true c1, eq_true c2, if_true, Option.isSome_none, Option.isSome_some, Bool.false_eq_true, if_false]
            exact IH none (some z)
        | some y =>
          cases q with
          | none =>
            simp only [Option.bind_some, stepS, stepF, far, eq_true c1, eq_true c2, if_true, Option.isSome_none, Option.isSome_some, Bool.false_eq_true, if_false]
            exact IH (some y) (some x)
          | some z =>
            simp only [Option.bind_some, stepS, stepF, far, eq_true c1, eq_true c2, if_true, Option.isSome_some, Bool.false_eq_true, if_false]
            exact IH (some y) (some z)
      · cases p with
        | none =>
          cases q with
          | none =>
            simp only [Option.bind_some, stepS, stepF, far, eq_true c1, eq_false c2, if_true, Option.isSome_none, Bool.false_eq_true, if_false]
            exact IH (some x) (some x)
          | some z =>
            simp only [Option.bind_some, stepS, stepF, far, eq_true c1, eq_false c2, if_true, Option.isSome_none, Option.isSome_some, Bool.false_eq_true, if_false]
            exact IH (some x) (some z)
        | some y =>
          by_cases c3 : x.f1 < y.f1
          · cases q with
            | none =>
              simp only [Option.bind_some, stepS, stepF, far, eq_true c1, eq_false c2, eq_true c3, if_true, Option.isSome_none, Option.isSome_some, Option.getD_some, Bool.false_eq_true, if_false]
              exact IH (some x) (some x)
            | some z =>
              simp only [Option.bind_some, stepS, stepF, far, eq_true c1, eq_false c2, eq_true c3, if_true, Option.isSome_some, Option.getD_some, Bool.false_eq_true, if_false]
              exact IH (some x) (some z)
          · cases q with
            | none =>
              simp only [Option.bind_some, stepS, stepF, far, eq_true c1, eq_false c2, eq_false c3, if_true, Option.isSome_none, Option.isSome_some, Option.getD_some, Bool.false_eq_true, if_false]
              exact IH (some y) (some x)
            | some z =>
              simp only [Option.bind_some, stepS, stepF, far, eq_true c1, eq_false c2, eq_false c3, if_true, Option.isSome_some, Option.getD_some, Bool.false_eq_true, if_false]
              exact IH (some y) (some z)
    · cases q with
      | none =>
        simp only [stepS, stepF, eq_false c1, if_false]
        exact IH p none
      | some z =>
        simp only [stepS, stepF, eq_false c1, if_false]
        exact IH p (some z)
theorem find_r1 (d : Int) (l : List S39) (b : Bool) (hl : l.length ≤ 2932031007402) : ∀ (rest : List S39) (n k : Nat) (p : Option S39), l.drop n = rest → 2 * rest.length + 2 ≤ k →
    beaconref17_Find.l1 k d p.isSome n l b (p.getD z39).f0 (p.getD z39).f1 (p.getD z39).f2 (p.getD z39).f3 (p.getD z39).f4 (p.getD z39).f5 = some (outS p (firstS d rest none))
  | [], n, k, p, h, hk => by
    obtain ⟨k, rfl⟩ : ∃ q, k = q + 2 := ⟨k - 2, by omega⟩
    have := drop_nil h
    rw [beaconref17_Find.l1, if_neg (by omega), beaconref17_Find.j2, if_neg (by decide)]
    cases p <;> rfl
  | x :: xs, n, k, p, h, hk => by
    obtain ⟨k, rfl⟩ : ∃ q, k = q + 2 := ⟨k - 2, by omega⟩
    obtain ⟨h1, h2, h3⟩ := at_drop h
    simp only [List.length_cons] at hk
    have IH := fun p => find_r1 d l b hl xs (n + 1) k p h2 (by omega)
    rw [beaconref17_Find.l1, if_pos h1, beaconref17_Find.j2]
    cases p with
    | some y => rfl
    | none =>
      rw [if_pos (by rfl), if_pos (by omega), if_pos h1, h3, wrap_up n (by omega)]
      by_cases c1 : x.f0 = d
      · rw [if_pos c1]
        have h9 := IH (some x)
        have e : outS none (firstS d (x :: xs) none) = outS (some x) (firstS d xs none) := by
          show outS none (firstS d xs (stepF d none x)) = _
          simp only [stepF, eq_true c1, if_true, first_some]
          rfl
        rw [e]
        exact h9
      · rw [if_neg c1]
        have h9 := IH none
        have e : outS none (firstS d (x :: xs) none) = outS none (firstS d xs none) := by
          show outS none (firstS d xs (stepF d none x)) = _
          simp only [stepF, eq_false c1, if_false]
        rw [e]
        exact h9
theorem find_r0 (d : Int) (l : List S39) (b : Bool) (hl : l.length ≤ 2932031007402) : ∀ (rest : List S39) (n k : Nat) (p : Option S39), l.drop n = rest → rest.length + 2 * l.length + 3 ≤ k →
    beaconref17_Find.l0 k d p.isSome n l b (p.getD z39).f0 (p.getD z39).f1 (p.getD z39).f2 (p.getD z39).f3 (p.getD z39).f4 (p.getD z39).f5 = some (outS (bestS d rest p) (firstS d l none))
  | [], n, k, p, h, hk => by
    obtain ⟨k, rfl⟩ : ∃ q, k = q + 1 := ⟨k - 1, by omega⟩
    have := drop_nil h
    rw [beaconref17_Find.l0, if_neg (by omega)]
    exact find_r1 d l b hl l 0 k p rfl (by omega)
  | x :: xs, n, k, p, h, hk => by
    obtain ⟨k, rfl⟩ : ∃ q, k = q + 1 := ⟨k - 1, by omega⟩
    obtain ⟨h1, h2, h3⟩ := at_drop h
    simp only [List.length_cons] at hk
    have IH := fun p => find_r0 d l b hl xs (n + 1) k p h2 (by omega)
    show _ = some (outS (bestS d xs (stepS d p x)) _)
    rw [beaconref17_Find.l0, if_pos h1, if_pos (by omega), h3, far_f, Option.bind_some, wrap_up n (by omega)]
    by_cases c1 : x.f0 = d
    · by_cases c2 : flt 9218868437227405311 x.f2 = true
      · simp only [stepS, far, eq_true c1, eq_true c2, if_true]
        exact IH p
      · cases p with
        | none =>
          simp only [stepS, far, eq_true c1, eq_false c2, if_true, Option.isSome_none, Bool.false_eq_true, if_false]
          exact IH (some x)
        | some y =>
          by_cases c3 : x.f1 < y.f1
          · simp only [stepS, far, eq_true c1, eq_false c2, eq_true c3, if_true, Option.isSome_some, Option.getD_some, if_false]
            exact IH (some x)
          · simp only [stepS, far, eq_true c1, eq_false c2, eq_false c3, if_true, Option.isSome_some, Option.getD_some, if_false]
            exact IH (some y)
    · simp only [stepS, eq_false c1, if_false]
      exact IH p
theorem cmp_l (m : List Int) (hm : m.length ≤ 2932031007402) : ∀ (e n k : Nat), m.length = n + e → e + 31 ≤ k → beaconlaw17_TableFinds.l0 k m m n = some true
  | 0, n, k, h, hk => by
    obtain ⟨k, rfl⟩ : ∃ q, k = 30 + q + 1 := ⟨k - 31, by omega⟩
    rw [beaconlaw17_TableFinds.l0, if_neg (by omega), awake_f]
    rfl
  | e + 1, n, k, h, hk => by
    obtain ⟨k, rfl⟩ : ∃ q, k = q + 1 := ⟨k - 1, by omega⟩
    rw [beaconlaw17_TableFinds.l0, if_pos (by omega), if_pos (by omega), if_pos (by omega), if_pos rfl, wrap_up n (by omega)]
    exact cmp_l m hm e (n + 1) k (by omega) (by omega)
theorem TableFinds : Go.Proofs.Ytgmjlhpigfaicaa.XA.TableFinds.Pure := by
  rintro ⟨l, b⟩ d kind ⟨⟨hl0, _⟩, _⟩ _ _
  have hl : l.length ≤ 2932031007401 := by
    have h : l.length * 48 ≤ 140737488351232 := hl0
    omega
  refine ⟨3 * l.length + 40 + 1, ?_⟩
  show beaconlaw17_TableFinds.f (3 * l.length + 40 + 1) l b d kind = some true
  have e1 := ownR l b (by omega) (3 * l.length + 40 + 1) (by omega)
  have e1' := ownR l b (by omega) (3 * l.length + 40) (by omega)
  have e2 : table_Find.f (3 * l.length + 40 + 1) l b d = some (outS (bestS d l none) (firstS d l none)) := find_t d l (by omega) l 0 _ none none rfl (by omega)
  have e3 : beaconref17_Find.f (3 * l.length + 40 + 1) l b d = some (outS (bestS d l none) (firstS d l none)) := find_r0 d l b (by omega) l 0 _ none rfl (by omega)
  have e4 : table_Count.f (3 * l.length + 40 + 1) l b kind = some ((0 + cntK kind l : Nat) : Int) := count_t kind l (by omega) l 0 _ 0 rfl (by omega) (by omega)
  have e5 : beaconref17_Count.f (3 * l.length + 40 + 1) l b kind = some ((0 + cntK kind l : Nat) : Int) := count_r kind l b (by omega) l 0 _ 0 rfl (by omega) (by omega)
  have e6 := marksT l b (by omega) (3 * l.length + 40) (by omega)
  have e7 := marksR l b (by omega) (3 * l.length + 40) (by omega)
  have hml := marks_len l
  have e8 : beaconlaw17_TableFinds.l0 (3 * l.length + 40) (marksS l) (marksS l) 0 = some true := cmp_l (marksS l) (by omega) (marksS l).length 0 _ (by omega) (by omega)
  have e9 : ∀ y : S39, beaconref09_SameEntries.f (3 * l.length + 40 + 1) [y] [y] = some true := fun y => sameR [y] (by simp) _ (by simp)
  unfold beaconlaw17_TableFinds.f
  simp only [e1, e2, e3, e4, e5, e9, Option.bind_some, bne_self_eq_false, Bool.false_eq_true, if_false, if_true]
  rw [beaconlaw17_TableFinds.j0]
  simp only [e1', e6, e7, e8, Option.bind_some, Bool.false_eq_true, if_false, if_true]
end Go.Proofs.Ytgmjlhpigfaicaa.Pure
