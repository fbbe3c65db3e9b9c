/- What table.Marks and the reference's Marks come to. -/
import Derived.Test.YtgmjlhpigfaicaaTA
import Derived.Test.YtgmjlhpigfaicaaXAx16
namespace Go.Proofs.Ytgmjlhpigfaicaa.Pure
open Go.RowKit Go.Proofs.YtgmjlhpigfaicaaW.PrintWords Go.Proofs.Ytgmjlhpigfaicaa.XA
def far (x : S39) : Bool := flt 9218868437227405311 x.f2
theorem inf_f (a : Nat) : math_IsInf.f a 1 = some (flt 9218868437227405311 a) := by
  unfold math_IsInf.f
  rw [if_neg (by decide), if_neg (by decide)]
def marksS : List S39 → List Int
  | [] => []
  | x :: xs => if x.f1 = 1 then (if far x = true then marksS xs else x.f0 :: marksS xs) else marksS xs
theorem marks_cons (x : S39) (xs : List S39) : marksS (x :: xs) = if x.f1 = 1 then (if flt 9218868437227405311 x.f2 = true then marksS xs else x.f0 :: marksS xs) else marksS xs := rfl
theorem marks_len : ∀ l : List S39, (marksS l).length ≤ l.length
  | [] => Nat.le_refl _
  | x :: xs => by
    have := marks_len xs
    unfold marksS
    split
    · split
      · simp only [List.length_cons]; omega
      · simp only [List.length_cons]; omega
    · simp only [List.length_cons]; omega
theorem marks_t (l : List S39) (hl : l.length ≤ 2932031007402) : ∀ (rest : List S39) (n k : Nat) (acc : List Int), l.drop n = rest → rest.length + 1 ≤ k → acc.length ≤ n → table_Marks.l0 k acc l (l.length : Int) n = some (acc ++ marksS rest)
  | [], n, k, acc, h, hk, ha => by
    obtain ⟨k, rfl⟩ : ∃ q, k = q + 1 := ⟨k - 1, by omega⟩
    have := drop_nil h
    rw [table_Marks.l0, if_neg (by omega)]
    simp [marksS]
  | x :: xs, n, k, acc, h, hk, ha => by
    obtain ⟨k, rfl⟩ : ∃ q, k = q + 1 := ⟨k - 1, by omega⟩
    obtain ⟨h1, h2, h3⟩ := at_drop h
    simp only [List.length_cons] at hk
    rw [table_Marks.l0, if_pos h1, if_pos (by omega), if_pos h1, h3, inf_f, Option.bind_some, wrap_up n (by omega)]
    have hacc : acc.length < 17592186044416 := by omega
    rw [if_pos hacc, marks_t l hl xs (n + 1) k acc h2 (by omega) (by omega), marks_t l hl xs (n + 1) k (acc ++ [x.f0]) h2 (by omega) (by simp; omega)]
    rw [marks_cons]
    by_cases c1 : x.f1 = 1
    · rw [if_pos c1, if_pos c1]
      by_cases c2 : flt 9218868437227405311 x.f2 = true
      · rw [if_pos c2, if_pos c2]
      · rw [if_neg c2, if_neg c2]; simp
    · rw [if_neg c1, if_neg c1]
theorem marksT (l : List S39) (b : Bool) (hl : l.length ≤ 2932031007402) (k : Nat) (hk : l.length + 1 ≤ k) : table_Marks.f k l b = some (marksS l) := by
  unfold table_Marks.f
  have := marks_t l hl l 0 k [] rfl hk (by simp)
  rw [show ((0 : Nat) : Int) = 0 from rfl] at this
  rw [this, List.nil_append]
end Go.Proofs.Ytgmjlhpigfaicaa.Pure
