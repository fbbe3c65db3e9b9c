/- TableSames: two lists of entries are told the same just where the reference tells so, and each list is the same as itself. -/
import Derived.Test.YtgmjlhpigfaicaaSTableSames
namespace Go.Proofs.Ytgmjlhpigfaicaa.Pure
open Go.RowKit Go.Proofs.YtgmjlhpigfaicaaW.PrintWords Go.Proofs.Ytgmjlhpigfaicaa.XA

theorem awake_small : beaconlaw17_awake.f 30 = some true := by decide +kernel
theorem awake_f (n : Nat) : beaconlaw17_awake.f (30 + n) = some true := by
  induction n with
  | zero => exact awake_small
  | succ n ih => exact beaconlaw17_awake.mono _ _ ih
theorem loops (a b : List S39) (hab : (a.length : Int) = b.length) (hb : a.length * 48 ≤ 140737488351232) (d : Nat) : ∀ (k : Nat) (i : Int), d + 1 ≤ k → 0 ≤ i → i + d = a.length →
    ∃ r, api_Entry_50.l0 k b a (a.length : Int) i = some r ∧ beaconref09_SameEntries.l0 k a b i = some r := by
  induction d with
  | zero =>
    intro k i hk h0 hd
    obtain ⟨k, rfl⟩ : ∃ q, k = q + 1 := ⟨k - 1, by omega⟩
    refine ⟨true, ?_, ?_⟩
    · rw [api_Entry_50.l0, if_neg (by omega)]
    · rw [beaconref09_SameEntries.l0, if_neg (by omega)]
  | succ d ih =>
    intro k i hk h0 hd
    obtain ⟨k, rfl⟩ : ∃ q, k = q + 1 := ⟨k - 1, by omega⟩
    have hw : wrap64 (i + 1) = i + 1 := by unfold wrap64; omega
    have h1 : i < (a.length : Int) := by omega
    have h2 : i < (b.length : Int) := by omega
    obtain ⟨r, r1, r2⟩ := ih k (i + 1) (by omega) (by omega) (by omega)
    rw [api_Entry_50.l0, beaconref09_SameEntries.l0]
    simp only [eq_true h1, eq_true h2, eq_true h0, if_true, hw, r1, r2, table_same.f, beaconref01_Same.f, Option.bind_some]
    generalize rd_T39 a i = x
    generalize rd_T39 b i = y
    by_cases c0 : x.f0 = y.f0
    · by_cases c1 : x.f1 = y.f1
      · by_cases c3 : x.f3 = y.f3
        · by_cases c5 : x.f5 = y.f5
          · by_cases c2 : fbits x.f2 = fbits y.f2
            · by_cases c4 : fbits x.f4 = fbits y.f4
              · exact ⟨r, by simp [c0, c1, c2, c3, c4, c5], by simp [c0, c1, c2, c3, c4, c5]⟩
              · exact ⟨false, by simp [c0, c1, c2, c3, c4, c5], by simp [c0, c1, c2, c3, c4, c5]⟩
            · exact ⟨false, by simp [c0, c1, c2, c3, c5], by simp [c0, c1, c2, c3, c5]⟩
          · exact ⟨false, by simp [c0, c1, c3, c5], by simp [c0, c1, c3, c5]⟩
        · exact ⟨false, by simp [c0, c1, c3], by simp [c0, c1, c3]⟩
      · exact ⟨false, by simp [c0, c1], by simp [c0, c1]⟩
    · exact ⟨false, by simp [c0], by simp [c0]⟩
theorem selfs (a : List S39) (hb : a.length * 48 ≤ 140737488351232) (d : Nat) : ∀ (k : Nat) (i : Int), d + 1 ≤ k → 0 ≤ i → i + d = a.length →
    api_Entry_50.l0 k a a (a.length : Int) i = some true := by
  induction d with
  | zero =>
    intro k i hk h0 hd
    obtain ⟨k, rfl⟩ : ∃ q, k = q + 1 := ⟨k - 1, by omega⟩
    rw [api_Entry_50.l0, if_neg (by omega)]
  | succ d ih =>
    intro k i hk h0 hd
    obtain ⟨k, rfl⟩ : ∃ q, k = q + 1 := ⟨k - 1, by omega⟩
    have hw : wrap64 (i + 1) = i + 1 := by unfold wrap64; omega
    have h1 : i < (a.length : Int) := by omega
    rw [api_Entry_50.l0]
    simp only [eq_true h1, eq_true h0, if_true, hw, ih k (i + 1) (by omega) (by omega) (by omega), table_same.f]
    simp
theorem TableSames : Go.Proofs.Ytgmjlhpigfaicaa.XA.TableSames.Pure := by
  rintro a b ⟨ha, _⟩ ⟨hb, _⟩
  refine ⟨30 + a.length, ?_⟩
  have hs : ∃ r, table_Same.f (30 + a.length) a b = some r ∧ beaconref09_SameEntries.f (30 + a.length) a b = some r := by
    unfold table_Same.f api_Entry_50.f beaconref09_SameEntries.f
    by_cases h : (a.length : Int) = b.length
    · rw [if_pos h, if_pos h]
      obtain ⟨r, r1, r2⟩ := loops a b h ha a.length (30 + a.length) 0 (by omega) (by omega) (by omega)
      exact ⟨r, by rw [r1]; rfl, r2⟩
    · rw [if_neg h, if_neg h]
      exact ⟨false, rfl, rfl⟩
  obtain ⟨r, r1, r2⟩ := hs
  have h3 : table_Same.f (30 + a.length) a a = some true := by
    unfold table_Same.f api_Entry_50.f
    rw [if_pos rfl, selfs a ha a.length (30 + a.length) 0 (by omega) (by omega) (by omega)]
    rfl
  unfold beaconlaw17_TableSames.f
  rw [r1, r2, Option.bind_some, Option.bind_some, if_pos (by simp), h3, Option.bind_some, if_pos rfl, awake_f]
  rfl
end Go.Proofs.Ytgmjlhpigfaicaa.Pure
