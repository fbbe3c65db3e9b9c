import Derived.Test.YtpcipmhblknokaaCM
namespace Go.Proofs.Ytpcipmhblknokaa.Ch
open Go.RowKit Go.Proofs.Ytpcipmhblknokaa.XC Go.Proofs.YtpcipmhblknokaaW.PrintWords Go.Proofs.YtpcipmhblknokaaW.PrintLast Go.Proofs.YtpcipmhblknokaaW.PrintMore
attribute [local go_sem] max2_int min2_int max_two min_two max_three min_three max_four min_four   -- for this text's walks alone
set_option linter.unusedVariables false
set_option linter.unusedSimpArgs false
open List renaming setIfInBounds_toArray → xA, set_cons_zero → xB, set_cons_succ → xC
open Go.Proofs.YtpcipmhblknokaaW.PrintWords renaming blk_drewN → bN, blk_drew → bD, blk_alloc → bA, below_set → bS, blk_frozen → bF, blk_cell → bC, cell_far → cF, blk_far → bZ, blk_below → bB, pw_below_drewN → bwN, below_drew1 → bw1, below_alloc → bwA
open Go.Proofs.YtpcipmhblknokaaW.PrintZ
open Bool renaming true → T,false → F

set_option maxRecDepth 100000
set_option maxHeartbeats 4000000
theorem owns_set {w : World} {base b n i : Nat} {e : TypeId} {s : Nat} {u : Value} {xs : List Value} (h : w.ownsRow base e s u n xs) (hb : u.ownBlock = some b) (v : Value) : (w.setCell ⟨b, i, none⟩ v).ownsRow base e s u n (xs.set i v) := by
  obtain ⟨hl, ho⟩ := h
  refine ⟨by rw [List.length_set]; exact hl, ?_⟩
  rcases ho with ⟨rfl, _⟩ | ⟨g, cap, cur, rfl, hg, hh, hn, hm, hs, ht⟩
  · cases hb
  · cases hb
    exact .inr ⟨_, cap, _, rfl, hg, blk_set hh i v, hn, hm, by rw [Array.size_setIfInBounds]; exact hs, by rw [Array.toList_setIfInBounds, List.take_set, ht]⟩
theorem cells_set4 : ∀ (m : List S27) (n : Nat) (x : S27), n < m.length → ((((cells m).set (n * 4) (.int .i64 x.f0)).set (n * 4 + 1) (.int .i64 x.f1)).set (n * 4 + 2) (.string x.f2)).set (n * 4 + 3) (.int .i64 x.f3) = cells (m.set n x)
  | [], _, _, h => absurd h (by simp)
  | y :: m, 0, x, _ => rfl
  | y :: m, n + 1, x, h => by
    have hi := cells_set4 m n x (by simpa using h)
    rw [List.set_cons_succ, cells_cons, cells_cons, ← hi, show (n + 1) * 4 = n * 4 + 1 + 1 + 1 + 1 by omega]
    rfl
def waitS (x : S27) (v : Int) : S27 := ⟨x.f0, x.f1, x.f2, v⟩
theorem cells_set3 : ∀ (m : List S27) (n : Nat) (h : n < m.length) (v : Int), (cells m).set (n * 4 + 3) (.int .i64 v) = cells (m.set n (waitS m[n] v))
  | [], _, h, _ => absurd h (by simp)
  | y :: m, 0, _, v => rfl
  | y :: m, n + 1, h, v => by
    have hi := cells_set3 m n (by simpa using h) v
    rw [List.set_cons_succ, cells_cons, cells_cons, List.getElem_cons_succ, ← hi, show (n + 1) * 4 + 3 = n * 4 + 3 + 1 + 1 + 1 + 1 by omega]
    rfl
theorem cells_get : ∀ (m : List S27) (n : Nat) (h : n < m.length), (cells m)[n * 4]? = some (.int .i64 m[n].f0) ∧ (cells m)[n * 4 + 1]? = some (.int .i64 m[n].f1) ∧ (cells m)[n * 4 + 2]? = some (.string m[n].f2) ∧ (cells m)[n * 4 + 3]? = some (.int .i64 m[n].f3)
  | [], _, h => absurd h (by simp)
  | y :: m, 0, _ => ⟨rfl, rfl, rfl, rfl⟩
  | y :: m, n + 1, h => by
    have hi := cells_get m n (by simpa using h)
    rw [cells_cons, List.getElem_cons_succ, show (n + 1) * 4 = n * 4 + 1 + 1 + 1 + 1 by omega]
    exact hi
section
variable {w : World} {base g : Nat} {P : Nat → Prop} {u : Value} {m : List S27}
/-- A place of a row of its own: what lies there, and that it may be written. -/
theorem row_at (h : Kd.R k27 27 w base P u m) {n : Nat} (hn : n < m.length) : ∃ b cap, u = .slice (some ⟨b, 0, none⟩) m.length cap ∧ (w.cell? ⟨b, n * 4, none⟩ = some (.int .i64 m[n].f0) ∧ w.cell? ⟨b, n * 4 + 1, none⟩ = some (.int .i64 m[n].f1) ∧ w.cell? ⟨b, n * 4 + 2, none⟩ = some (.string m[n].f2) ∧ w.cell? ⟨b, n * 4 + 3, none⟩ = some (.int .i64 m[n].f3)) ∧ ∀ j, w.frozen? ⟨b, j, none⟩ = false := by
  obtain ⟨_, _, ho⟩ := R27.1 h
  rcases ho with ⟨_, h0⟩ | ⟨b, cap, cur, rfl, hg, hh, hle, hm, hs, ht⟩
  · omega
  · obtain ⟨c0, c1, c2, c3⟩ := cells_get m n hn
    rw [← ht] at c0 c1 c2 c3
    have tk : ∀ {i : Nat} {v : Value}, (cur.toList.take (m.length * 4))[i]? = some v → w.cell? ⟨b, i, none⟩ = some v := by
      intro i v hv
      have hi := (List.getElem?_eq_some_iff.1 hv).1
      rw [List.length_take] at hi
      rw [List.getElem?_take_of_lt (by omega), Array.getElem?_toList] at hv
      exact (bC hh i).trans hv
    exact ⟨b, cap, rfl, ⟨tk c0, tk c1, tk c2, tk c3⟩, fun j => bF hh j⟩
theorem R_set4 {n b : Nat} (h : Kd.R k27 27 w base P u m) (hn : n < m.length) (hb : u.ownBlock = some b) (x : S27) : Kd.R k27 27 ((((w.setCell ⟨b, n * 4, none⟩ (.int .i64 x.f0)).setCell ⟨b, n * 4 + 1, none⟩ (.int .i64 x.f1)).setCell ⟨b, n * 4 + 2, none⟩ (.string x.f2)).setCell ⟨b, n * 4 + 3, none⟩ (.int .i64 x.f3)) base P u (m.set n x) := by
  refine R27.2 ⟨(R27.1 h).1, ?_⟩
  rw [List.length_set, ← cells_set4 m n x hn]
  exact owns_set (owns_set (owns_set (owns_set (R27.1 h).2 hb _) hb _) hb _) hb _
theorem R_set3 {n b : Nat} (h : Kd.R k27 27 w base P u m) (hn : n < m.length) (hb : u.ownBlock = some b) (v : Int) : Kd.R k27 27 (w.setCell ⟨b, n * 4 + 3, none⟩ (.int .i64 v)) base P u (m.set n (waitS m[n] v)) := by
  refine R27.2 ⟨(R27.1 h).1, ?_⟩
  rw [List.length_set, ← cells_set3 m n hn v]
  exact owns_set (R27.1 h).2 hb _
theorem Fl.set3 {n b : Nat} (h : Fl w base P g u m) (hn : n < m.length) (hb : u.ownBlock = some b) (v : Int) : Fl (w.setCell ⟨b, n * 4 + 3, none⟩ (.int .i64 v)) base P g u (m.set n (waitS m[n] v)) := by
  have hne := own_ne (R27.1 h.row).2 h.blk (by decide)
  rw [hb] at hne
  exact ⟨blk_far h.blk (fun e => hne (by rw [e])) _, R_set3 h.row hn hb v⟩
theorem Fl.setR4 {n b : Nat} (h : Fl w base P g u m) (hn : n < m.length) (hb : u.ownBlock = some b) (x : S27) : Fl ((((w.setCell ⟨b, n * 4, none⟩ (.int .i64 x.f0)).setCell ⟨b, n * 4 + 1, none⟩ (.int .i64 x.f1)).setCell ⟨b, n * 4 + 2, none⟩ (.string x.f2)).setCell ⟨b, n * 4 + 3, none⟩ (.int .i64 x.f3)) base P g u (m.set n x) := by
  have hne := own_ne (R27.1 h.row).2 h.blk (by decide)
  rw [hb] at hne
  have hne' : ∀ {p : Addr}, p.block = b → g ≠ p.block := fun e e' => hne (by rw [e', e])
  exact ⟨blk_far (blk_far (blk_far (blk_far h.blk (hne' rfl) _) (hne' rfl) _) (hne' rfl) _) (hne' rfl) _, R_set4 h.row hn hb x⟩
theorem After.up {W w' : World} {u' : Value} (hb : Below w.heap.size w W) (h : After W w' g u u') : After w w' g u u' :=
  ⟨⟨h.1.os.trans hb.os, h.1.tape.trans hb.tape, h.1.output.trans hb.output, Nat.le_trans hb.size h.1.size, fun k hk h1 h2 => (h.1.block k (Nat.lt_of_lt_of_le hk hb.size) h1 h2).trans (hb.block k hk)⟩, h.2.imp id fun ⟨k, h1, h2⟩ => ⟨k, h1, Nat.le_trans hb.size h2⟩⟩
theorem After.own {W : World} {b i : Nat} (hb : u.ownBlock = some b) (h : After w W g u u) (v : Value) : After w (W.setCell ⟨b, i, none⟩ v) g u u :=
  ⟨⟨h.1.os, h.1.tape, h.1.output, by simp only [World.setCell, Array.size_modify]; exact h.1.size, fun k hk h1 h2 => (Below.heap_setCell W _ v k (fun e => h2 (by rw [hb]; exact congrArg some e))).trans (h.1.block k hk h1 h2)⟩, .inl rfl⟩
theorem row_y (h : Kd.R k27 27 w base P u m) {n : Nat} {y : S27} (hy : m[n]? = some y) : ∃ b cap, u = .slice (some ⟨b, 0, none⟩) m.length cap ∧ (w.cell? ⟨b, n * 4, none⟩ = some (.int .i64 y.f0) ∧ w.cell? ⟨b, n * 4 + 1, none⟩ = some (.int .i64 y.f1) ∧ w.cell? ⟨b, n * 4 + 2, none⟩ = some (.string y.f2) ∧ w.cell? ⟨b, n * 4 + 3, none⟩ = some (.int .i64 y.f3)) ∧ ∀ j, w.frozen? ⟨b, j, none⟩ = false := by
  obtain ⟨hn, rfl⟩ := List.getElem?_eq_some_iff.1 hy
  exact row_at h hn
theorem Fl.set3y {n b : Nat} {y : S27} (h : Fl w base P g u m) (hy : m[n]? = some y) (hb : u.ownBlock = some b) (v : Int) : Fl (w.setCell ⟨b, n * 4 + 3, none⟩ (.int .i64 v)) base P g u (m.set n (waitS y v)) := by
  obtain ⟨hn, rfl⟩ := List.getElem?_eq_some_iff.1 hy
  exact h.set3 hn hb v
theorem lt_y {α : Type} {l : List α} {n : Nat} {y : α} (hy : l[n]? = some y) : n < l.length := (List.getElem?_eq_some_iff.1 hy).1
end
end Go.Proofs.Ytpcipmhblknokaa.Ch
