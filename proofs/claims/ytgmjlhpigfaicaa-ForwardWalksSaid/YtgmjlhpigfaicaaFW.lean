/- forward.Walk and its reference, in plain lists and numbers (for the law ForwardWalks). -/
import Derived.Test.YtgmjlhpigfaicaaFA
import Derived.Test.YtgmjlhpigfaicaaXFx11
import Derived.Test.YtgmjlhpigfaicaaXFx23
import Derived.Test.YtgmjlhpigfaicaaXFx25
namespace Go.Proofs.Ytgmjlhpigfaicaa.Pure
open Go.RowKit Go.Proofs.YtgmjlhpigfaicaaW.PrintWords Go.Proofs.Ytgmjlhpigfaicaa.XF Go.Proofs.Ytgmjlhpigfaicaa.MapW
set_option linter.unusedSimpArgs false
set_option linter.unusedVariables false
theorem at59 {l : List S59} {n : Nat} {x : S59} {xs : List S59} (h : l.drop n = x :: xs) : (n : Int) < l.length ∧ l.drop (n + 1) = xs ∧ rd_T59 l (n : Int) = x := by
  obtain ⟨h1, h2, h3⟩ := drop_cons h
  exact ⟨by omega, h2, by unfold rd_T59; rw [Int.toNat_natCast]; exact h3 _⟩
theorem rd59 (l : List S59) (n : Nat) (h : n < l.length) : rd_T59 l (n : Int) = l[n] := by
  unfold rd_T59; rw [Int.toNat_natCast, List.getD_eq_getElem?_getD, List.getElem?_eq_getElem h, Option.getD_some]
/-! ### what a router does, once more: with what is known of it -/
theorem best_mem (d : Int) (y : S39) : ∀ (l : List S39) (p : Option S39), bestS d l p = some y → y ∈ l ∨ p = some y
  | [], p, h => Or.inr h
  | x :: xs, p, h => by
    have h' : bestS d xs (stepS d p x) = some y := h
    rcases best_mem d y xs _ h' with h1 | h1
    · exact Or.inl (List.mem_cons_of_mem _ h1)
    · unfold stepS at h1
      split at h1
      · split at h1
        · exact Or.inr h1
        · split at h1
          · injection h1 with h1; subst h1; exact Or.inl (by simp)
          · split at h1
            · injection h1 with h1; subst h1; exact Or.inl (by simp)
            · exact Or.inr h1
      · exact Or.inr h1
theorem first_mem (d : Int) (y : S39) : ∀ (l : List S39) (p : Option S39), firstS d l p = some y → y ∈ l ∨ p = some y
  | [], p, h => Or.inr h
  | x :: xs, p, h => by
    have h' : firstS d xs (stepF d p x) = some y := h
    rcases first_mem d y xs _ h' with h1 | h1
    · exact Or.inl (List.mem_cons_of_mem _ h1)
    · unfold stepF at h1
      split at h1
      · split at h1
        · injection h1 with h1; subst h1; exact Or.inl (by simp)
        · cases h1
      · exact Or.inr h1
theorem rd_mem {l : List S39} {j : Nat} (h : (j : Int) < l.length) : rd_T39 l (j : Int) ∈ l := by
  unfold rd_T39
  rw [Int.toNat_natCast, List.getD_eq_getElem?_getD, List.getElem?_eq_getElem (by omega), Option.getD_some]
  exact List.getElem_mem _
theorem dec_both (self : Int) (l : List S39) (b : Bool) (hl : l.length ≤ 2932031007402) (hG : ∀ e ∈ l, okKey e.f3 = true) (k : Nat) (hk : 4 * l.length + 10 ≤ k) (p0 p1 p2 p3 p4 p5 p6 p7 : Int) (p8 : ByteArray) (p9 p10 : Int) (p11 : ByteArray) :
    ∃ kd nx h, forward_decide.f k self l b p0 p1 p2 p3 p4 p5 p6 p7 p8 p9 p10 p11 = some (kd, nx, p0, p1, p2, p3, p4, h, p6, p7, p8, p9, p10, p11) ∧ beaconref19_decide.f k self l b p0 p1 p2 p3 p4 p5 p6 p7 p8 p9 p10 p11 = some (kd, nx, p0, p1, p2, p3, p4, h, p6, p7, p8, p9, p10, p11) ∧
      okKey nx = true ∧ ((kd = 2 ∧ p5 ≠ 0 ∧ h = wrap64 (p5 - 1)) ∨ (kd ≠ 2 ∧ h = p5)) ∧ (kd = 1 → p3 = self) := by
  obtain ⟨k, rfl⟩ : ∃ q, k = q + 1 := ⟨k - 1, by omega⟩
  unfold forward_decide.f beaconref19_decide.f beaconref19_road.f
  by_cases c0 : p3 = self
  · rw [if_pos c0, if_pos c0, Option.bind_some, if_pos rfl]
    exact ⟨_, _, _, rfl, rfl, rfl, Or.inr ⟨by decide, rfl⟩, fun _ => c0⟩
  · rw [if_neg c0, if_neg c0]
    unfold forward_road.f
    rw [findT p3 l b hl (k + 1) (by omega), findR p3 l b hl (k + 1) (by omega), Option.bind_some, Option.bind_some]
    have hq : (outS (bestS p3 l none) (firstS p3 l none)).2.2.2.2.2.2 = true → okKey (outS (bestS p3 l none) (firstS p3 l none)).2.2.2.1 = true := by
      unfold outS
      split
      · rename_i y hy
        intro _
        rcases best_mem p3 y l none hy with h | h
        · exact hG y h
        · cases h
      · intro h
        cases hf : firstS p3 l none with
        | none => rw [hf] at h; cases h
        | some y =>
          rcases first_mem p3 y l none hf with h1 | h1
          · exact hG y h1
          · cases h1
    generalize outS (bestS p3 l none) (firstS p3 l none) = q at hq
    have he := idx_home p4 l l 0 rfl
    have hi : api_Entry.f k l p0 p1 p2 p3 p4 p5 p6 p7 p8 p9 p10 p11 = some (idxS p4 l 0) := idx_f l hl p0 p1 p2 p3 p4 p5 p6 p7 p8 p9 p10 p11 l 0 k rfl (by omega)
    have hh : beaconref19_road.l0 k 0 l b p0 p1 p2 p3 p4 p5 p6 p7 p8 p9 p10 p11 = _ := home_r l b hl p0 p1 p2 p3 p4 p5 p6 p7 p8 p9 p10 p11 l 0 k rfl (by omega)
    have last : ∀ f2 f3, okKey f3 = true → ∃ kd nx h, (if (flt 9218868437227405311 f2) = true then (some ((4 : Int), (0 : Int), p0, p1, p2, p3, p4, p5, p6, p7, p8, p9, p10, p11)) else (if p5 = 0 then (some (5, 0, p0, p1, p2, p3, p4, p5, p6, p7, p8, p9, p10, p11)) else (some (2, f3, p0, p1, p2, p3, p4, wrap64 (p5 - 1), p6, p7, p8, p9, p10, p11)))) = some (kd, nx, p0, p1, p2, p3, p4, h, p6, p7, p8, p9, p10, p11) ∧
        okKey nx = true ∧ ((kd = 2 ∧ p5 ≠ 0 ∧ h = wrap64 (p5 - 1)) ∨ (kd ≠ 2 ∧ h = p5)) ∧ (kd = 1 → p3 = self) := by
      intro f2 f3 h3
      split
      · exact ⟨_, _, _, rfl, rfl, Or.inr ⟨by decide, rfl⟩, fun h => absurd h (by decide)⟩
      · split
        · exact ⟨_, _, _, rfl, rfl, Or.inr ⟨by decide, rfl⟩, fun h => absurd h (by decide)⟩
        · rename_i h5
          exact ⟨_, _, _, rfl, h3, Or.inl ⟨rfl, h5, rfl⟩, fun h => absurd h (by decide)⟩
    by_cases c1 : q.2.2.2.2.2.2 = true
    · rw [if_pos c1, if_pos c1, Option.bind_some, Option.bind_some]
      simp only [if_true, Bool.false_eq_true, if_false, inf_f, far_f, Option.bind_some]
      obtain ⟨kd, nx, h, hr, h1⟩ := last q.2.2.1 q.2.2.2.1 (hq c1)
      exact ⟨kd, nx, h, hr, hr, h1⟩
    · rw [if_neg c1, if_neg c1]
      have none_ : ∃ kd nx h, some ((3 : Int), (0 : Int), p0, p1, p2, p3, p4, p5, p6, p7, p8, p9, p10, p11) = some (kd, nx, p0, p1, p2, p3, p4, h, p6, p7, p8, p9, p10, p11) ∧ some ((3 : Int), (0 : Int), p0, p1, p2, p3, p4, p5, p6, p7, p8, p9, p10, p11) = some (kd, nx, p0, p1, p2, p3, p4, h, p6, p7, p8, p9, p10, p11) ∧
        okKey nx = true ∧ ((kd = 2 ∧ p5 ≠ 0 ∧ h = wrap64 (p5 - 1)) ∨ (kd ≠ 2 ∧ h = p5)) ∧ (kd = 1 → p3 = self) := ⟨_, _, _, rfl, rfl, rfl, Or.inr ⟨by decide, rfl⟩, fun h => absurd h (by decide)⟩
      by_cases c2 : p4 = 0
      · rw [if_pos c2, if_pos c2, forward_road.j0, beaconref19_road.j0, if_pos rfl, if_pos rfl]
        exact none_
      · rw [if_neg c2, if_neg c2, forward_road.j0, beaconref19_road.j0]
        by_cases c3 : (p4 == self) = true
        · rw [if_pos c3, if_pos c3]
          exact none_
        · rw [if_neg c3, if_neg c3, hi, hh, Option.bind_some]
          rcases he with ⟨h1, h2⟩ | ⟨j, x, h1, h2, h3, h4⟩
          · rw [h1, h2, if_pos (by decide)]
            exact none_
          · rw [h1, h4, if_neg (by omega), if_pos (by omega), if_pos h2, h3]
            simp only [if_true, Bool.false_eq_true, if_false, inf_f, far_f, Option.bind_some]
            obtain ⟨kd, nx, h, hr, h1⟩ := last x.f2 x.f3 (hG x (h3 ▸ rd_mem h2))
            exact ⟨kd, nx, h, hr, hr, h1⟩
/-! ### a packet that may be has so many hops at most -/
theorem hops_le (k : Nat) (hk : 1 ≤ k) (p0 p1 p2 p3 p4 p5 p6 p7 : Int) (p8 : ByteArray) (p9 p10 : Int) (p11 : ByteArray) (h : beaconref06_MayPacket.f k p0 p1 p2 p3 p4 p5 p6 p7 p8 p9 p10 p11 = some true) : 0 ≤ p5 ∧ p5 ≤ 65536 ∧ num p1 = true := by
  obtain ⟨k, rfl⟩ : ∃ q, k = q + 1 := ⟨k - 1, by omega⟩
  have hj : beaconref06_MayPacket.j0 (k + 1) true p0 p1 p2 p3 p4 p5 p6 p7 p8 p9 p10 p11 = some false := by rw [beaconref06_MayPacket.j0, if_pos rfl]
  unfold beaconref06_MayPacket.f at h
  simp only [num_r, Option.bind_some, hj] at h
  by_cases c1 : p5 < 0
  · simp only [if_pos c1, ite_self] at h
    cases h
  · simp only [if_neg c1] at h
    by_cases c2 : p5 > 65536
    · simp only [decide_eq_true c2, hj, ite_self] at h
      cases h
    · refine ⟨by omega, by omega, ?_⟩
      cases hn : num p1 with
      | true => rfl
      | false => rw [hn] at h; simp at h
/-! ### places -/
theorem place_r (l : List S59) (hl : l.length ≤ 4611686018427387904) (a : Int) : ∀ (rest : List S59) (n k : Nat), l.drop n = rest → rest.length + 1 ≤ k →
    (∃ j : Nat, n ≤ j ∧ (∃ h : j < l.length, l[j].f0 = a) ∧ (∀ i (h : i < l.length), n ≤ i → i < j → l[i].f0 ≠ a) ∧ beaconref19_place.l0 k l a n = some (j : Int)) ∨ ((∀ i (h : i < l.length), n ≤ i → l[i].f0 ≠ a) ∧ beaconref19_place.l0 k l a n = some (-1))
  | [], n, k, h, hk => by
    obtain ⟨k, rfl⟩ : ∃ q, k = q + 1 := ⟨k - 1, by omega⟩
    have := drop_nil h
    refine Or.inr ⟨fun i hi hn => by omega, ?_⟩
    rw [beaconref19_place.l0, if_neg (by omega)]
  | x :: xs, n, k, h, hk => by
    obtain ⟨k, rfl⟩ : ∃ q, k = q + 1 := ⟨k - 1, by omega⟩
    obtain ⟨h1, h2, h3⟩ := at59 h
    have h1' : n < l.length := by omega
    have hx : l[n] = x := by rw [← rd59 l n h1', h3]
    rw [beaconref19_place.l0, if_pos h1, if_pos (by omega), h3, wrap_up n (by omega)]
    by_cases c : x.f0 = a
    · rw [if_pos c]
      exact Or.inl ⟨n, Nat.le_refl _, ⟨h1', by rw [hx]; exact c⟩, fun i _ a b => by omega, rfl⟩
    · rw [if_neg c]
      have none_n : ∀ i (hi : i < l.length), n ≤ i → ¬ (n + 1 ≤ i) → l[i].f0 ≠ a := by
        intro i hi a1 a2
        obtain rfl : i = n := by omega
        rw [hx]; exact c
      rcases place_r l hl a xs (n + 1) k h2 (by simp only [List.length_cons] at hk; omega) with ⟨j, j1, j2, j3, j4⟩ | ⟨j1, j2⟩
      · refine Or.inl ⟨j, by omega, j2, fun i hi a1 a2 => ?_, j4⟩
        by_cases c2 : n + 1 ≤ i
        · exact j3 i hi c2 a2
        · exact none_n i hi a1 c2
      · refine Or.inr ⟨fun i hi a1 => ?_, j2⟩
        by_cases c2 : n + 1 ≤ i
        · exact j1 i hi c2
        · exact none_n i hi a1 c2
theorem idxR_at : ∀ (r : List Int) (a : Int), a ∈ r → ∃ (i : Nat) (h : i < r.reverse.length), r.reverse[i] = a ∧ idxR r a = i
  | [], a, h => by cases h
  | x :: r, a, h => by
    unfold idxR
    by_cases c : a = x
    · rw [if_pos c]
      exact ⟨r.length, by simp, by simp [c], rfl⟩
    · rw [if_neg c]
      obtain ⟨i, hi, h1, h2⟩ := idxR_at r a (by rcases List.mem_cons.1 h with h | h; exact absurd h c; exact h)
      refine ⟨i, by simp at hi ⊢; omega, ?_, h2⟩
      simp only [List.reverse_cons]
      rw [List.getElem_append_left hi]
      exact h1
theorem idxI_at (r : List Int) (a : Int) (h : a ∈ r) : ∃ (i : Nat) (h : i < r.length), r[i] = a ∧ idxI r a = i := by
  obtain ⟨i, hi, h1, h2⟩ := idxR_at r.reverse a (by simpa using h)
  refine ⟨i, by simpa using hi, ?_, h2⟩
  simpa using h1
theorem idxI_none (r : List Int) (a : Int) (h : a ∉ r) : idxI r a = 0 := by
  have : ∀ r : List Int, a ∉ r → idxR r a = 0 := by
    intro r
    induction r with
    | nil => intro _; rfl
    | cons x r ih =>
      intro h
      simp only [List.mem_cons, not_or] at h
      unfold idxR
      rw [if_neg h.1, ih h.2]
  exact this _ (by simpa using h)
theorem nodup_inj {l : List Int} (nd : l.Nodup) {i j : Nat} (hi : i < l.length) (hj : j < l.length) (h : l[i] = l[j]) : i = j := by
  have hp := List.pairwise_iff_getElem.1 nd
  rcases Nat.lt_trichotomy i j with c | c | c
  · exact absurd h (hp i j hi hj c)
  · exact c
  · exact absurd h.symm (hp j i hj hi c)
def ids (l : List S59) : List Int := l.map (·.f0)
theorem lk_f (l : List Int) (a : Int) (h : okKey a = true) : fake_lk.f l a = some (idxI l a, hasI l a) := by
  unfold fake_lk.f; rw [if_pos h]
/-- A look-up and the place. -/
theorem look_place (l : List S59) (hl : l.length ≤ 4611686018427387904) (nd : (ids l).Nodup) (a : Int) (ha : okKey a = true) (k : Nat) (hk : l.length + 1 ≤ k) :
    (∃ (j : Nat) (h : j < l.length), l[j].f0 = a ∧ fake_lk.f (ids l) a = some ((j : Int), true) ∧ beaconref19_place.f k l a = some (j : Int)) ∨ (fake_lk.f (ids l) a = some (0, false) ∧ beaconref19_place.f k l a = some (-1)) := by
  rcases place_r l hl a l 0 k rfl hk with ⟨j, j1, ⟨j2, j2'⟩, j3, j4⟩ | ⟨j1, j2⟩
  · refine Or.inl ⟨j, j2, j2', ?_, j4⟩
    have hm : a ∈ ids l := by rw [← j2']; exact List.mem_map.2 ⟨_, List.getElem_mem j2, rfl⟩
    obtain ⟨i, hi, h1, h2⟩ := idxI_at _ _ hm
    have e : i = j := by
      have hi' : i < l.length := by simpa [ids] using hi
      have hj' : j < (ids l).length := by simpa [ids] using j2
      exact nodup_inj nd hi hj' (by rw [h1]; simp [ids, j2'])
    subst e
    rw [lk_f _ _ ha, h2]
    simp [hasI, hm]
  · refine Or.inr ⟨?_, j2⟩
    have hm : a ∉ ids l := by
      intro hm
      obtain ⟨x, hx, hxa⟩ := List.mem_map.1 hm
      obtain ⟨i, hi, hix⟩ := List.mem_iff_getElem.1 hx
      exact j1 i hi (Nat.zero_le _) (by rw [hix]; exact hxa)
    rw [lk_f _ _ ha, idxI_none _ _ hm]
    simp [hasI, hm]
/-! ### the second loop -/
section
variable (p0 p1 p2 p3 p4 p6 p7 : Int) (p8 : ByteArray) (p9 p10 : Int) (p11 : ByteArray)
def res (way : List Int) (kd nx h e : Int) : List Int × Int × Int × Int × Int × Int × Int × Int × Int × Int × Int × ByteArray × Int × Int × ByteArray × Int := (way, kd, nx, p0, p1, p2, p3, p4, h, p6, p7, p8, p9, p10, p11, e)
theorem loop_both (l : List S59) (hl : l.length ≤ 3518437208883) (htab : ∀ x ∈ l, x.f1.f0.length ≤ 2932031007402 ∧ ∀ e ∈ x.f1.f0, okKey e.f3 = true) (nd : (ids l).Nodup) :
    ∀ (n : Nat) (k : Nat) (at_ : Nat) (ha : at_ < l.length) (came : List Int), n ≤ 65536 → came.length + n ≤ 100000 → n + 20000000000000 ≤ k →
      ∃ way kd nx h, forward_Walk.l1 k l (ids l) at_ came p0 p1 p2 p3 p4 n p6 p7 p8 p9 p10 p11 = some (res p0 p1 p2 p3 p4 p6 p7 p8 p9 p10 p11 (came ++ [l[at_].f0] ++ way) kd nx h 0) ∧
        beaconref19_Walk.l1 k l at_ (came ++ [l[at_].f0]) p0 p1 p2 p3 p4 n p6 p7 p8 p9 p10 p11 = some (res p0 p1 p2 p3 p4 p6 p7 p8 p9 p10 p11 (came ++ [l[at_].f0] ++ way) kd nx h 0) ∧
        way.length ≤ n ∧ (kd = 1 → p3 = (came ++ [l[at_].f0] ++ way).getLast (by simp)) := by
  intro n
  induction n with
  | zero =>
    intro k at_ ha came hn hc hk
    obtain ⟨k, rfl⟩ : ∃ q, k = q + 1 := ⟨k - 1, by omega⟩
    obtain ⟨kd, nx, h, d1, d2, hnx, hc1, hc2⟩ := dec_both l[at_].f0 l[at_].f1.f0 l[at_].f1.f1 (htab _ (List.getElem_mem ha)).1 (htab _ (List.getElem_mem ha)).2 k (by have := (htab _ (List.getElem_mem ha)).1; omega) p0 p1 p2 p3 p4 (0 : Nat) p6 p7 p8 p9 p10 p11
    rcases hc1 with ⟨_, h2, _⟩ | ⟨h1, h2⟩
    · exact absurd rfl h2
    · refine ⟨[], kd, nx, h, ?_, ?_, Nat.le_refl _, fun e => ?_⟩
      · rw [forward_Walk.l1, if_pos (by omega), if_pos (by omega), if_pos (by omega), Option.bind_some, rd59 l at_ ha, d1, Option.bind_some, lk_f _ _ hnx, Option.bind_some]
        dsimp only
        rw [if_neg h1]
        simp [res]
      · rw [beaconref19_Walk.l1, if_pos (by omega), if_pos (by omega), rd59 l at_ ha, d2, Option.bind_some]
        dsimp only
        rw [if_neg h1]
        simp [res]
      · rw [hc2 e]; simp
  | succ n ih =>
    intro k at_ ha came hn hc hk
    obtain ⟨k, rfl⟩ : ∃ q, k = q + 1 := ⟨k - 1, by omega⟩
    obtain ⟨kd, nx, h, d1, d2, hnx, hc1, hc2⟩ := dec_both l[at_].f0 l[at_].f1.f0 l[at_].f1.f1 (htab _ (List.getElem_mem ha)).1 (htab _ (List.getElem_mem ha)).2 k (by have := (htab _ (List.getElem_mem ha)).1; omega) p0 p1 p2 p3 p4 (n + 1 : Nat) p6 p7 p8 p9 p10 p11
    have stop : kd ≠ 2 → ∃ way kd nx h, forward_Walk.l1 (k + 1) l (ids l) at_ came p0 p1 p2 p3 p4 (n + 1 : Nat) p6 p7 p8 p9 p10 p11 = some (res p0 p1 p2 p3 p4 p6 p7 p8 p9 p10 p11 (came ++ [l[at_].f0] ++ way) kd nx h 0) ∧
        beaconref19_Walk.l1 (k + 1) l at_ (came ++ [l[at_].f0]) p0 p1 p2 p3 p4 (n + 1 : Nat) p6 p7 p8 p9 p10 p11 = some (res p0 p1 p2 p3 p4 p6 p7 p8 p9 p10 p11 (came ++ [l[at_].f0] ++ way) kd nx h 0) ∧
        way.length ≤ n + 1 ∧ (kd = 1 → p3 = (came ++ [l[at_].f0] ++ way).getLast (by simp)) := by
      intro h1
      refine ⟨[], kd, nx, h, ?_, ?_, Nat.zero_le _, fun e => ?_⟩
      · rw [forward_Walk.l1, if_pos (by omega), if_pos (by omega), if_pos (by omega), Option.bind_some, rd59 l at_ ha, d1, Option.bind_some, lk_f _ _ hnx, Option.bind_some]
        dsimp only
        rw [if_neg h1]
        simp [res]
      · rw [beaconref19_Walk.l1, if_pos (by omega), if_pos (by omega), rd59 l at_ ha, d2, Option.bind_some]
        dsimp only
        rw [if_neg h1]
        simp [res]
      · rw [hc2 e]; simp
    rcases hc1 with ⟨h1, h2, h3⟩ | ⟨h1, h2⟩
    · have h3' : h = (n : Nat) := by rw [h3]; unfold wrap64; omega
      subst h1
      rw [h3'] at d1 d2
      rcases look_place l (by omega) nd nx hnx k (by omega) with ⟨j, hj, q1, q2, q3⟩ | ⟨q2, q3⟩
      · obtain ⟨way, kd, nx', h', r1, r2, r3, r4⟩ := ih k j hj (came ++ [l[at_].f0]) (by omega) (by simp only [List.length_append, List.length_cons, List.length_nil]; omega) (by omega)
        refine ⟨l[j].f0 :: way, kd, nx', h', ?_, ?_, by simpa using r3, fun e => ?_⟩
        · rw [forward_Walk.l1, if_pos (by omega), if_pos (by omega), if_pos (by omega), Option.bind_some, rd59 l at_ ha, d1, Option.bind_some]
          dsimp only
          rw [q2, Option.bind_some, if_pos rfl, if_pos rfl]
          rw [r1]
          simp [res]
        · rw [beaconref19_Walk.l1, if_pos (by omega), if_pos (by omega), rd59 l at_ ha, d2, Option.bind_some]
          dsimp only
          rw [if_pos rfl, q3, Option.bind_some, if_neg (by omega), if_pos (by simp only [List.length_append, List.length_cons, List.length_nil]; omega), ← q1]
          rw [r2]
          simp [res]
        · rw [r4 e]
          congr 1
          simp
      · refine ⟨[], 2, nx, n, ?_, ?_, Nat.zero_le _, fun e => absurd e (by decide)⟩
        · rw [forward_Walk.l1, if_pos (by omega), if_pos (by omega), if_pos (by omega), Option.bind_some, rd59 l at_ ha, d1, Option.bind_some]
          dsimp only
          rw [q2, Option.bind_some, if_pos rfl, if_neg (by decide)]
          simp [res]
        · rw [beaconref19_Walk.l1, if_pos (by omega), if_pos (by omega), rd59 l at_ ha, d2, Option.bind_some]
          dsimp only
          rw [if_pos rfl, q3, Option.bind_some, if_pos (by decide)]
          simp [res]
    · exact stop h1
end
/-! ### the first loop -/
theorem num_key {a : Int} (h : num a = true) : okKey a = true := by
  simp only [num, decide_eq_true_eq] at h
  simp only [okKey, Bool.and_eq_true, decide_eq_true_eq]
  omega
def errR (e : Int) : List Int × Int × Int × Int × Int × Int × Int × Int × Int × Int × Int × ByteArray × Int × Int × ByteArray × Int := (([] : List Int), 0, 0, 0, 0, 0, 0, 0, 0, 0, 0, (⟨#[]⟩ : ByteArray), 0, 0, (⟨#[]⟩ : ByteArray), e)
theorem first_both (p0 p1 p2 p3 p4 p5 p6 p7 : Int) (p8 : ByteArray) (p9 p10 : Int) (p11 : ByteArray) (hs : p8.size ≤ 140737488351232) (l : List S59) (hl : l.length ≤ 3518437208832) (htab : ∀ x ∈ l, x.f1.f0.length ≤ 2932031007401 ∧ ∀ e ∈ x.f1.f0, okKey e.f3 = true) (hkeys : ∀ x ∈ l, okKey x.f0 = true) :
    ∀ (rest : List S59) (n k : Nat), l.drop n = rest → n ≤ l.length → (ids (l.take n)).Nodup → rest.length + 30000000000000 ≤ k →
      ∃ R, forward_Walk.l0 k l (ids (l.take n)) l (l.length : Int) n p0 p1 p2 p3 p4 p5 p6 p7 p8 p9 p10 p11 = some R ∧ beaconref19_Walk.l0 k l n p0 p1 p2 p3 p4 p5 p6 p7 p8 p9 p10 p11 = some R ∧
        ((∃ e, R = errR e ∧ e ≠ 0) ∨ ∃ way kd nx h, ∃ hw : way ≠ [], R = res p0 p1 p2 p3 p4 p6 p7 p8 p9 p10 p11 way kd nx h 0 ∧ (way.length : Int) ≤ p5 + 1 ∧ p5 ≤ 65536 ∧ (kd = 1 → p3 = way.getLast hw))
  | [], n, k, h, hn, nd, hk => by
    obtain ⟨k, rfl⟩ : ∃ q, k = q + 1 := ⟨k - 1, by omega⟩
    have h0 := drop_nil h
    obtain rfl : n = l.length := by omega
    rw [List.take_length] at nd ⊢
    obtain ⟨r, m1, m2⟩ := may_both k (by omega) p0 p1 p2 p3 p4 p5 p6 p7 p8 p9 p10 p11 hs
    rw [forward_Walk.l0, if_neg (by omega), beaconref19_Walk.l0, if_neg (by omega), m1, m2, Option.bind_some, Option.bind_some]
    cases r with
    | false => exact ⟨errR 60, rfl, rfl, Or.inl ⟨60, rfl, by decide⟩⟩
    | true =>
      rw [if_pos rfl, if_pos rfl]
      obtain ⟨hh1, hh2, hh3⟩ := hops_le k (by omega) p0 p1 p2 p3 p4 p5 p6 p7 p8 p9 p10 p11 m2
      obtain ⟨m, rfl⟩ := Int.eq_ofNat_of_zero_le hh1
      rcases look_place l (by omega) nd p1 (num_key hh3) k (by simp only [List.length_nil] at hk; omega) with ⟨j, hj, q1, q2, q3⟩ | ⟨q2, q3⟩
      · obtain ⟨way, kd, nx, h', r1, r2, r3, r4⟩ := loop_both p0 p1 p2 p3 p4 p6 p7 p8 p9 p10 p11 l (by omega) (fun x hx => ⟨by have := (htab x hx).1; omega, (htab x hx).2⟩) nd m k j hj [] (by omega) (by simp only [List.length_nil]; omega) (by omega)
        refine ⟨_, ?_, ?_, Or.inr ⟨[] ++ [l[j].f0] ++ way, kd, nx, h', by simp, rfl, ?_, hh2, r4⟩⟩
        · rw [q2, Option.bind_some]
          dsimp only
          rw [if_pos rfl]
          exact r1
        · rw [q3, Option.bind_some, if_neg (by omega)]
          have e1 : ([p1] : List Int) = [] ++ [l[j].f0] := by rw [q1]; rfl
          rw [e1]
          exact r2
        · simp only [List.nil_append, List.length_append, List.length_cons, List.length_nil]; omega
      · refine ⟨errR 4, ?_, ?_, Or.inl ⟨4, rfl, by decide⟩⟩
        · rw [q2, Option.bind_some]; rfl
        · rw [q3, Option.bind_some]; rfl
  | x :: xs, n, k, h, hn, nd, hk => by
    obtain ⟨k, rfl⟩ : ∃ q, k = q + 1 := ⟨k - 1, by omega⟩
    obtain ⟨h1, h2, h3⟩ := at59 h
    have h1' : n < l.length := by omega
    have hx : l[n] = x := by rw [← rd59 l n h1', h3]
    have hxm : x ∈ l := by rw [← hx]; exact List.getElem_mem h1'
    have hlen : xs.length + 30000000000000 ≤ k := by simp only [List.length_cons] at hk; omega
    have htake : ids (l.take (n + 1)) = ids (l.take n) ++ [x.f0] := by
      rw [List.take_succ_eq_append_getElem h1', hx]; simp [ids]
    rw [forward_Walk.l0, if_pos h1, if_pos (by omega), if_pos h1, beaconref19_Walk.l0, if_pos h1, if_pos (show (0 : Int) ≤ (n : Int) by omega), h3, lk_f _ _ (hkeys x hxm), Option.bind_some, id_f, id_r, Option.bind_some, Option.bind_some]
    dsimp only
    have hp := place_r l (by omega) x.f0 l 0 k rfl (by omega)
    have bad : ∀ R' : Option _, (if (if num x.f0 = true then (0 : Int) else 20) = 0 then R' else some (errR 1)) = some (errR 1) ∨ num x.f0 = true := by
      intro R'
      cases num x.f0 with
      | true => exact Or.inr rfl
      | false => exact Or.inl rfl
    cases hh : hasI (ids (l.take n)) x.f0 with
    | true =>
      rw [if_pos rfl]
      refine ⟨errR 1, rfl, ?_, Or.inl ⟨1, rfl, by decide⟩⟩
      cases hnum : num x.f0 with
      | false => rfl
      | true =>
        rw [if_pos rfl, if_pos rfl]
        have hm : x.f0 ∈ ids (l.take n) := by simpa [hasI] using hh
        obtain ⟨y, hy, hy2⟩ := List.mem_map.1 hm
        obtain ⟨i, hi, hiy⟩ := List.mem_iff_getElem.1 hy
        have hi1 : i < n := by simp only [List.length_take] at hi; omega
        have hi2 : l[i]'(by omega) = y := by rw [← hiy]; simp
        rcases hp with ⟨j, j1, ⟨j2, j2'⟩, j3, j4⟩ | ⟨j1, j2⟩
        · have hji : j ≤ i := by
            rcases Nat.lt_or_ge i j with c | c
            · exact absurd (by rw [hi2]; exact hy2) (j3 i (by omega) (Nat.zero_le _) c)
            · exact c
          show (beaconref19_place.l0 k l x.f0 ((0 : Nat) : Int)).bind _ = _
          rw [j4, Option.bind_some, if_neg (by omega)]
          rfl
        · exact absurd (by rw [hi2]; exact hy2) (j1 i (by omega) (Nat.zero_le _))
    | false =>
      rw [if_neg (by decide)]
      cases hnum : num x.f0 with
      | false => exact ⟨errR 1, rfl, rfl, Or.inl ⟨1, rfl, by decide⟩⟩
      | true =>
        simp only [if_true, eq_self]
        have hm : x.f0 ∉ ids (l.take n) := by simpa [hasI] using hh
        have hpl : beaconref19_place.f k l x.f0 = some (n : Int) := by
          rcases hp with ⟨j, j1, ⟨j2, j2'⟩, j3, j4⟩ | ⟨j1, j2⟩
          · have hjn : j = n := by
              rcases Nat.lt_trichotomy j n with c | c | c
              · exact absurd (List.mem_map.2 ⟨l[j], List.mem_iff_getElem.2 ⟨j, by simp only [List.length_take]; omega, by simp⟩, j2'⟩) hm
              · exact c
              · exact absurd (by rw [hx]) (j3 n h1' (Nat.zero_le _) c)
            subst hjn
            exact j4
          · exact absurd (by rw [hx]) (j1 n h1' (Nat.zero_le _))
        rw [hpl, Option.bind_some, if_pos rfl]
        unfold table_Check.f beaconref17_Check.f
        rw [mayT x.f1.f0 (by have := (htab x hxm).1; omega) k (by have := (htab x hxm).1; omega), mayR x.f1.f0 (by have := (htab x hxm).1; omega) k (by have := (htab x hxm).1; omega)]
        cases mayb x.f1.f0 with
        | false => exact ⟨errR 1, rfl, rfl, Or.inl ⟨1, rfl, by decide⟩⟩
        | true =>
          simp only [Option.bind_some, if_true]
          rw [if_pos (by simp only [ids, List.length_map, List.length_take]; omega), wrap_up n (by omega), ← htake]
          have nd' : (ids (l.take (n + 1))).Nodup := by
            rw [htake, List.nodup_append]
            refine ⟨nd, by simp, ?_⟩
            intro a ha b hb e
            rw [List.mem_singleton] at hb
            subst hb; subst e
            exact hm ha
          exact first_both p0 p1 p2 p3 p4 p5 p6 p7 p8 p9 p10 p11 hs l hl htab hkeys xs (n + 1) k h2 (by omega) nd' (by omega)
end Go.Proofs.Ytgmjlhpigfaicaa.Pure
