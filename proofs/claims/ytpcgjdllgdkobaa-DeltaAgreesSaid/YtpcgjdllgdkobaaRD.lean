/- Rows that are read and never written: a row's value and what it reads as, with a block of its element type or an elder one. -/
import Derived.Test.YtpcgjdllgdkobaaXAx0
namespace Go.Proofs.Ytpcgjdllgdkobaa.RDW
open Go.RowKit Go.Proofs.YtpcgjdllgdkobaaW.PrintWords Go.Proofs.YtpcgjdllgdkobaaW.PrintLast Go.Proofs.YtpcgjdllgdkobaaW.PrintMore Go.Proofs.Ytpcgjdllgdkobaa.XA
set_option linter.unusedVariables false
def RD (W : World) (base : Nat) (v : Value) (xs : List S61) : Prop :=
  ∃ A c, v = .slice A xs.length c ∧ xs.length ≤ c ∧ Kd.C k61 W A xs.length xs ∧ ∀ ad, A = some ad → 0 < xs.length → ad.block < base ∨ ∃ cells, W.heap[ad.block]? = some (.cells cells 61 (0, 0))
section
variable {W W' : World} {base : Nat} {v : Value} {xs : List S61}
theorem k61_flat {W W' : World} {x : S61} {cs : List Value} (h : k61.K W x cs) : k61.K W' x cs := h
theorem RD.keep (h : RD W base v xs) {g : Nat} (hk : KeepBut W W' g none) (hg : ∀ ad c, v = .slice (some ad) xs.length c → 0 < xs.length → ad.block ≠ g) : RD W' base v xs := by
  obtain ⟨A, c, rfl, hl, hC, ht⟩ := h
  refine ⟨A, c, rfl, hl, Kd.C_foot_ne (g := g) (fun h => k61_flat h) hC (fun ad e h0 => hg ad c (by rw [e]) h0) W' hk, fun ad e h0 => (ht ad e h0).imp id fun ⟨cells, hc⟩ => ⟨cells, ?_⟩⟩
  subst e
  exact (hk.2 _ (blk_lt hc) (hg ad c rfl h0) (by simp)).trans hc
theorem RD.below (h : RD W base v xs) (hb : Below W.heap.size W W') : RD W' base v xs := by
  obtain ⟨A, c, rfl, hl, hC, ht⟩ := h
  exact ⟨A, c, rfl, hl, Kd.C_below hC hb, fun ad e h0 => (ht ad e h0).imp id fun ⟨cells, hc⟩ => ⟨cells, blk_below hc hb⟩⟩
theorem RD.alloc (h : RD W base v xs) {o : Obj} : RD (W.alloc o) base v xs := h.below (below_alloc (Below.refl _ _) o)
theorem RD.drew (h : RD W base v xs) : RD W.drew base v xs := h.below (below_drew (Below.refl _ _))
theorem RD.drewN (h : RD W base v xs) {n : Nat} : RD (W.drewN n) base v xs := h.below (pw_below_drewN (Below.refl _ _) n)
theorem RD.of {b : Nat} {ok : Nat → Prop} (h : Kd.R k61 61 W b ok v xs) : RD W base v xs := by
  have hty := Kd.R_typed h
  obtain ⟨A, c, he, hl, hr⟩ := Kd.R_reads h
  subst he
  exact ⟨A, c, rfl, hl, hr, fun ad e h0 => Or.inr (hty ad.block (by subst e; rfl))⟩
theorem RD.ofC {A : Option Addr} {c : Nat} (hC : Kd.C k61 W A xs.length xs) (hl : xs.length ≤ c) (hb : W.heap.size ≤ base) : RD W base (.slice A xs.length c) xs :=
  ⟨A, c, rfl, hl, hC, fun ad e h0 => by
    subst e
    exact Or.inl (Nat.lt_of_lt_of_le (Kd.C_lt hC h0 (by decide)) hb)⟩
theorem RD.nil (W : World) (base : Nat) : RD W base (.slice none 0 0) ([] : List S61) := ⟨none, 0, rfl, Nat.le_refl _, Kd.C_nil k61 W, fun ad e => by cases e⟩
theorem RD.slice (h : RD W base v xs) : ∃ A c, v = .slice A xs.length c := let ⟨A, c, e, _⟩ := h; ⟨A, c, e⟩
theorem RD.reads {A : Option Addr} {n c : Nat} (h : RD W base (.slice A n c) xs) : n ≤ c ∧ Kd.C k61 W A xs.length xs := by
  obtain ⟨A', c', e, hl, hC, _⟩ := h
  injection e with e1 e2 e3
  subst e1
  exact ⟨by omega, hC⟩
theorem RD.take {A : Option Addr} {n c m : Nat} (h : RD W base (.slice A n c) xs) (hm : m ≤ xs.length) : RD W base (.slice A m c) (xs.take m) := by
  obtain ⟨A', c', e, hl, hC, ht⟩ := h
  injection e with e1 e2 e3
  subst e1
  have hlen : (xs.take m).length = m := by rw [List.length_take]; omega
  refine ⟨A, c, by rw [hlen], by omega, Kd.C_take hC hm, fun ad e h0 => ht ad e (by omega)⟩
end
theorem rX {p q : Prop} (h : Aside0 q) (f : q → p := by intro h_; repeat (first | (with_reducible first | exact h_ | apply Go.Proofs.Ytpcgjdllgdkobaa.RDW.RD.alloc | apply Go.Proofs.Ytpcgjdllgdkobaa.RDW.RD.drewN | apply Go.Proofs.Ytpcgjdllgdkobaa.RDW.RD.drew) | exact h_)) : p := f h.out
/-- A row that is in none of some blocks. -/
def RF (W : World) (base : Nat) (S : Nat → Prop) (v : Value) (xs : List S61) : Prop := RD W base v xs ∧ ∀ ad c, v = .slice (some ad) xs.length c → 0 < xs.length → S ad.block
section
variable {W W' : World} {base : Nat} {S : Nat → Prop} {v : Value} {xs : List S61}
theorem RF.alloc (h : RF W base S v xs) {o : Obj} : RF (W.alloc o) base S v xs := ⟨h.1.alloc, h.2⟩
theorem RF.drew (h : RF W base S v xs) : RF W.drew base S v xs := ⟨h.1.drew, h.2⟩
theorem RF.drewN (h : RF W base S v xs) {n : Nat} : RF (W.drewN n) base S v xs := ⟨h.1.drewN, h.2⟩
theorem RF.farS (h : RF W base S v xs) {g i : Nat} {u : Value} (hs : ∀ k, S k → k ≠ g) : RF (W.setCell ⟨g, i, none⟩ u) base S v xs :=
  ⟨RD.keep h.1 (g := g) ⟨by simp [World.setCell], fun k _ hk _ => Below.heap_setCell W ⟨g, i, none⟩ u k hk⟩ fun ad c e h0 => hs _ (h.2 ad c e h0), h.2⟩
theorem RF.far1 {g i : Nat} {u : Value} {S : Nat → Prop} (h : RF W base (fun k => S k ∧ k ≠ g) v xs) : RF (W.setCell ⟨g, i, none⟩ u) base (fun k => S k ∧ k ≠ g) v xs := h.farS fun _ hk => hk.2
theorem RF.far2 {g g1 i : Nat} {u : Value} {S : Nat → Prop} (h : RF W base (fun k => (S k ∧ k ≠ g) ∧ k ≠ g1) v xs) : RF (W.setCell ⟨g, i, none⟩ u) base (fun k => (S k ∧ k ≠ g) ∧ k ≠ g1) v xs := h.farS fun _ hk => hk.1.2
theorem RF.far3 {g g1 g2 i : Nat} {u : Value} {S : Nat → Prop} (h : RF W base (fun k => ((S k ∧ k ≠ g) ∧ k ≠ g1) ∧ k ≠ g2) v xs) : RF (W.setCell ⟨g, i, none⟩ u) base (fun k => ((S k ∧ k ≠ g) ∧ k ≠ g1) ∧ k ≠ g2) v xs := h.farS fun _ hk => hk.1.1.2
theorem RF.far4 {g g1 g2 g3 i : Nat} {u : Value} {S : Nat → Prop} (h : RF W base (fun k => (((S k ∧ k ≠ g) ∧ k ≠ g1) ∧ k ≠ g2) ∧ k ≠ g3) v xs) : RF (W.setCell ⟨g, i, none⟩ u) base (fun k => (((S k ∧ k ≠ g) ∧ k ≠ g1) ∧ k ≠ g2) ∧ k ≠ g3) v xs := h.farS fun _ hk => hk.1.1.1.2
theorem RF.and {g : Nat} {t : TypeId} {cells : Array Value} (h : RF W base S v xs) (K : Aside0 (W.heap[g]? = some (.cells cells t (0, 0)))) (hb : base ≤ g) (hne : t ≠ 61) : RF W base (fun k => S k ∧ k ≠ g) v xs := by
  refine ⟨h.1, fun ad c e h0 => ⟨h.2 ad c e h0, fun he => ?_⟩⟩
  obtain ⟨A, c', e', hl, hC, ht⟩ := h.1
  rw [e] at e'
  injection e' with e1 e2 e3
  rcases ht ad e1.symm h0 with h1 | ⟨cs, h1⟩
  · omega
  · rw [he, K.out] at h1
    injection h1 with h1
    injection h1 with _ h1
    exact hne h1
theorem RF.of (h : RD W base v xs) : RF W base (fun _ => True) v xs := ⟨h, fun _ _ _ _ => trivial⟩
end
section
variable {W W1 : World} {base : Nat} {v : Value} {xs : List S61} {g g1 g2 g3 : Nat} {t t1 t2 t3 : TypeId} {cs cs1 cs2 cs3 : Array Value}
theorem rX1 (h : Aside0 (RD W base v xs)) (K : Aside0 (W.heap[g]? = some (.cells cs t (0, 0)))) (G : base ≤ g)
    (f : RF W base (fun k => True ∧ k ≠ g) v xs → RF W1 base (fun k => True ∧ k ≠ g) v xs := by intro h_; (with_reducible repeat (first | exact h_ | apply Go.Proofs.Ytpcgjdllgdkobaa.RDW.RF.alloc | apply Go.Proofs.Ytpcgjdllgdkobaa.RDW.RF.drewN | apply Go.Proofs.Ytpcgjdllgdkobaa.RDW.RF.drew | apply Go.Proofs.Ytpcgjdllgdkobaa.RDW.RF.far1)))
    (ht : t ≠ 61 := by decide) : RD W1 base v xs := (f ((RF.of h.out).and K G ht)).1
theorem rX2 (h : Aside0 (RD W base v xs)) (K : Aside0 (W.heap[g]? = some (.cells cs t (0, 0)))) (G : base ≤ g) (K1 : Aside0 (W.heap[g1]? = some (.cells cs1 t1 (0, 0)))) (G1 : base ≤ g1)
    (f : RF W base (fun k => (True ∧ k ≠ g) ∧ k ≠ g1) v xs → RF W1 base (fun k => (True ∧ k ≠ g) ∧ k ≠ g1) v xs := by intro h_; (with_reducible repeat (first | exact h_ | apply Go.Proofs.Ytpcgjdllgdkobaa.RDW.RF.alloc | apply Go.Proofs.Ytpcgjdllgdkobaa.RDW.RF.drewN | apply Go.Proofs.Ytpcgjdllgdkobaa.RDW.RF.drew | apply Go.Proofs.Ytpcgjdllgdkobaa.RDW.RF.far1 | apply Go.Proofs.Ytpcgjdllgdkobaa.RDW.RF.far2)))
    (ht : t ≠ 61 := by decide) (ht1 : t1 ≠ 61 := by decide) : RD W1 base v xs := (f (((RF.of h.out).and K G ht).and K1 G1 ht1)).1
theorem rX3 (h : Aside0 (RD W base v xs)) (K : Aside0 (W.heap[g]? = some (.cells cs t (0, 0)))) (G : base ≤ g) (K1 : Aside0 (W.heap[g1]? = some (.cells cs1 t1 (0, 0)))) (G1 : base ≤ g1) (K2 : Aside0 (W.heap[g2]? = some (.cells cs2 t2 (0, 0)))) (G2 : base ≤ g2)
    (f : RF W base (fun k => ((True ∧ k ≠ g) ∧ k ≠ g1) ∧ k ≠ g2) v xs → RF W1 base (fun k => ((True ∧ k ≠ g) ∧ k ≠ g1) ∧ k ≠ g2) v xs := by intro h_; (with_reducible repeat (first | exact h_ | apply Go.Proofs.Ytpcgjdllgdkobaa.RDW.RF.alloc | apply Go.Proofs.Ytpcgjdllgdkobaa.RDW.RF.drewN | apply Go.Proofs.Ytpcgjdllgdkobaa.RDW.RF.drew | apply Go.Proofs.Ytpcgjdllgdkobaa.RDW.RF.far1 | apply Go.Proofs.Ytpcgjdllgdkobaa.RDW.RF.far2 | apply Go.Proofs.Ytpcgjdllgdkobaa.RDW.RF.far3)))
    (ht : t ≠ 61 := by decide) (ht1 : t1 ≠ 61 := by decide) (ht2 : t2 ≠ 61 := by decide) : RD W1 base v xs := (f ((((RF.of h.out).and K G ht).and K1 G1 ht1).and K2 G2 ht2)).1
theorem rX4 (h : Aside0 (RD W base v xs)) (K : Aside0 (W.heap[g]? = some (.cells cs t (0, 0)))) (G : base ≤ g) (K1 : Aside0 (W.heap[g1]? = some (.cells cs1 t1 (0, 0)))) (G1 : base ≤ g1) (K2 : Aside0 (W.heap[g2]? = some (.cells cs2 t2 (0, 0)))) (G2 : base ≤ g2) (K3 : Aside0 (W.heap[g3]? = some (.cells cs3 t3 (0, 0)))) (G3 : base ≤ g3)
    (f : RF W base (fun k => (((True ∧ k ≠ g) ∧ k ≠ g1) ∧ k ≠ g2) ∧ k ≠ g3) v xs → RF W1 base (fun k => (((True ∧ k ≠ g) ∧ k ≠ g1) ∧ k ≠ g2) ∧ k ≠ g3) v xs := by intro h_; (with_reducible repeat (first | exact h_ | apply Go.Proofs.Ytpcgjdllgdkobaa.RDW.RF.alloc | apply Go.Proofs.Ytpcgjdllgdkobaa.RDW.RF.drewN | apply Go.Proofs.Ytpcgjdllgdkobaa.RDW.RF.drew | apply Go.Proofs.Ytpcgjdllgdkobaa.RDW.RF.far1 | apply Go.Proofs.Ytpcgjdllgdkobaa.RDW.RF.far2 | apply Go.Proofs.Ytpcgjdllgdkobaa.RDW.RF.far3 | apply Go.Proofs.Ytpcgjdllgdkobaa.RDW.RF.far4)))
    (ht : t ≠ 61 := by decide) (ht1 : t1 ≠ 61 := by decide) (ht2 : t2 ≠ 61 := by decide) (ht3 : t3 ≠ 61 := by decide) : RD W1 base v xs := (f (((((RF.of h.out).and K G ht).and K1 G1 ht1).and K2 G2 ht2).and K3 G3 ht3)).1
end
theorem rb {base : Nat} {v : Value} {xs : List S61} {W w w1 : World} (h : Aside0 (RD W base v xs)) (hb : Below w.heap.size w w1) (f : RD W base v xs → RD w base v xs := by (intro h_; (with_reducible repeat (first | apply Go.Proofs.Ytpcgjdllgdkobaa.RDW.RD.alloc | apply Go.Proofs.Ytpcgjdllgdkobaa.RDW.RD.drewN | apply Go.Proofs.Ytpcgjdllgdkobaa.RDW.RD.drew)); exact h_)) : Aside0 (RD w1 base v xs) := ⟨RD.below (f h.out) hb⟩
theorem cp_bind {α : Type} {a b c d e : _} {g : Int × List S61 × List S61 × Bool × Int → Option α} {r : Option α} (H : (some (a, b, c, d, e) : Option (Int × List S61 × List S61 × Bool × Int)).bind g = r) : g (a, b, c, d, e) = r := H
section
variable {W w w1 W1 : World} {base : Nat} {v u : Value} {xs : List S61} {ys : List S57} {zs : List Int} {ok : Nat → Prop}
theorem RD.over (h : RD W base v xs) {e' : TypeId} (hty : ∀ k, u.ownBlock = some k → ∃ cells, W.heap[k]? = some (.cells cells e' (0, 0))) (hbs : ∀ k, u.ownBlock = some k → base ≤ k) (hne : e' ≠ 61) (hg : W.grownBy w1 u.ownBlock) : RD w1 base v xs := by
  cases hu : u.ownBlock with
  | none =>
    rw [hu] at hg
    refine RD.keep h (g := W.heap.size) ⟨hg.size, fun i hi _ _ => hg.block i hi (by simp)⟩ fun ad c e h0 => ?_
    obtain ⟨A, c', e', hl, hC, ht⟩ := h
    rw [e] at e'
    injection e' with e1 e2 e3
    subst e1
    exact Nat.ne_of_lt (Kd.C_lt hC h0 (by decide))
  | some g =>
    rw [hu] at hg
    refine RD.keep h (g := g) ⟨hg.size, fun i hi hne _ => hg.block i hi (by simpa using hne)⟩ fun ad c e h0 hgg => ?_
    obtain ⟨cells, hc⟩ := hty g hu
    have hb := hbs g hu
    obtain ⟨A, c', e', hl, hC, ht⟩ := h
    rw [e] at e'
    injection e' with e1 e2 e3
    rcases ht ad e1.symm h0 with h1 | ⟨cs, h1⟩
    · omega
    · rw [hgg, hc] at h1
      injection h1 with h1
      injection h1 with _ h1
      exact hne h1
theorem sbase (h : Kd.S k57 57 W base ok v ys) : ∀ k, v.ownBlock = some k → base ≤ k := Kd.R_base (Kd.S_R h)
theorem sb (h : Aside0 (Kd.S k57 57 W base ok v ys)) (hb : Below w.heap.size w w1) (f : Kd.S k57 57 W base ok v ys → Kd.S k57 57 w base ok v ys := by (intro h_; (with_reducible repeat (first | apply Kd.S_alloc | apply Kd.S_drewN | apply Kd.S_drew)); exact h_)) : Aside0 (Kd.S k57 57 w1 base ok v ys) := ⟨Kd.S_below (f h.out) hb⟩
theorem sE {ok : Nat → Prop} {u : Value} (h : Aside0 (Kd.S k57 57 W base ok v ys)) (hbase : ∀ k, u.ownBlock = some k → w.heap.size ≤ k) (hb : Below w.heap.size w w1) (f : Kd.S k57 57 W base ok v ys → Kd.S k57 57 w base ok v ys := by (intro h_; (with_reducible repeat (first | apply Kd.S_alloc | apply Kd.S_drewN | apply Kd.S_drew)); exact h_)) : Aside0 (Kd.S k57 57 w1 base (fun k => ok k ∧ some k ≠ u.ownBlock) v ys) := ⟨Kd.S_elder' (f h.out) hbase hb⟩
theorem oL {b : Nat} (h : Kd.R k61 61 W b ok v xs) (hb : base ≤ b) : Aside0 (Kd.R k61 61 W base ok v xs) := ⟨Kd.R_lower h hb⟩
theorem sX (h : Aside0 (Kd.S k57 57 W base ok v ys)) (f : Kd.S k57 57 W base ok v ys → Kd.S k57 57 W1 base ok v ys := by (intro h_; (with_reducible repeat (first | apply Kd.S_alloc | apply Kd.S_drewN | apply Kd.S_drew)); exact h_)) : Kd.S k57 57 W1 base ok v ys := f h.out
theorem sf1 {g i : Nat} {x : Value} (h : Kd.S k57 57 W base (fun k => True ∧ k ≠ g) v ys) : Kd.S k57 57 (W.setCell ⟨g, i, none⟩ x) base (fun k => True ∧ k ≠ g) v ys := Kd.S_far (p := ⟨g, i, none⟩) h (fun _ hk => hk.2) x
theorem sf2 {g g1 i : Nat} {x : Value} (h : Kd.S k57 57 W base (fun k => (True ∧ k ≠ g) ∧ k ≠ g1) v ys) : Kd.S k57 57 (W.setCell ⟨g, i, none⟩ x) base (fun k => (True ∧ k ≠ g) ∧ k ≠ g1) v ys := Kd.S_far (p := ⟨g, i, none⟩) h (fun _ hk => hk.1.2) x
theorem sf3 {g g1 i : Nat} {x : Value} (h : Kd.S k57 57 W base (fun k => (True ∧ k ≠ g1) ∧ k ≠ g) v ys) : Kd.S k57 57 (W.setCell ⟨g, i, none⟩ x) base (fun k => (True ∧ k ≠ g1) ∧ k ≠ g) v ys := Kd.S_far (p := ⟨g, i, none⟩) h (fun _ hk => hk.2) x
theorem if1 {g i : Nat} {x : Value} (h : Kd.R (Kd.int .u64) 22 W base (fun k => True ∧ k ≠ g) v zs) : Kd.R (Kd.int .u64) 22 (W.setCell ⟨g, i, none⟩ x) base (fun k => True ∧ k ≠ g) v zs := Kd.R_far (p := ⟨g, i, none⟩) h (fun _ hk => hk.2) x
theorem if2 {g g1 i : Nat} {x : Value} (h : Kd.R (Kd.int .u64) 22 W base (fun k => (True ∧ k ≠ g) ∧ k ≠ g1) v zs) : Kd.R (Kd.int .u64) 22 (W.setCell ⟨g, i, none⟩ x) base (fun k => (True ∧ k ≠ g) ∧ k ≠ g1) v zs := Kd.R_far (p := ⟨g, i, none⟩) h (fun _ hk => hk.1.2) x
theorem if3 {g g1 i : Nat} {x : Value} (h : Kd.R (Kd.int .u64) 22 W base (fun k => (True ∧ k ≠ g1) ∧ k ≠ g) v zs) : Kd.R (Kd.int .u64) 22 (W.setCell ⟨g, i, none⟩ x) base (fun k => (True ∧ k ≠ g1) ∧ k ≠ g) v zs := Kd.R_far (p := ⟨g, i, none⟩) h (fun _ hk => hk.2) x
variable {g g1 : Nat} {t t1 : TypeId} {cs cs1 : Array Value}
theorem sX1 (h : Aside0 (Kd.S k57 57 W base (fun _ => True) v ys)) (K : Aside0 (W.heap[g]? = some (.cells cs t (0, 0))))
    (f : Kd.S k57 57 W base (fun k => True ∧ k ≠ g) v ys → Kd.S k57 57 W1 base (fun k => True ∧ k ≠ g) v ys := by intro h_; (with_reducible repeat (first | exact h_ | apply Kd.S_alloc | apply Kd.S_drewN | apply Kd.S_drew | apply Go.Proofs.Ytpcgjdllgdkobaa.RDW.sf1)))
    (ht : ∀ q, q ∈ 57 :: k57.E → q ≠ t := by decide) : Kd.S k57 57 W1 base (fun _ => True) v ys := Kd.S_mono (f (Kd.S_types h.out K.out ht)) fun _ _ => trivial
theorem sX2 (h : Aside0 (Kd.S k57 57 W base (fun _ => True) v ys)) (K : Aside0 (W.heap[g]? = some (.cells cs t (0, 0)))) (K1 : Aside0 (W.heap[g1]? = some (.cells cs1 t1 (0, 0))))
    (f : Kd.S k57 57 W base (fun k => (True ∧ k ≠ g) ∧ k ≠ g1) v ys → Kd.S k57 57 W1 base (fun k => (True ∧ k ≠ g) ∧ k ≠ g1) v ys := by intro h_; (with_reducible repeat (first | exact h_ | apply Kd.S_alloc | apply Kd.S_drewN | apply Kd.S_drew | apply Go.Proofs.Ytpcgjdllgdkobaa.RDW.sf2 | apply Go.Proofs.Ytpcgjdllgdkobaa.RDW.sf3)))
    (ht : ∀ q, q ∈ 57 :: k57.E → q ≠ t := by decide) (ht1 : ∀ q, q ∈ 57 :: k57.E → q ≠ t1 := by decide) : Kd.S k57 57 W1 base (fun _ => True) v ys := Kd.S_mono (f (Kd.S_types (Kd.S_types h.out K.out ht) K1.out ht1)) fun _ _ => trivial
theorem iX1 (h : Aside0 (Kd.R (Kd.int .u64) 22 W base (fun _ => True) v zs)) (K : Aside0 (W.heap[g]? = some (.cells cs t (0, 0))))
    (f : Kd.R (Kd.int .u64) 22 W base (fun k => True ∧ k ≠ g) v zs → Kd.R (Kd.int .u64) 22 W1 base (fun k => True ∧ k ≠ g) v zs := by intro h_; (with_reducible repeat (first | exact h_ | apply Kd.R_alloc | apply Kd.R_drewN | apply Kd.R_drew | apply Go.Proofs.Ytpcgjdllgdkobaa.RDW.if1)))
    (ht : ∀ q, q ∈ 22 :: (Kd.int .u64).E → q ≠ t := by decide) : Kd.R (Kd.int .u64) 22 W1 base (fun _ => True) v zs := Kd.R_mono (f (Kd.R_types h.out K.out ht)) fun _ _ => trivial
theorem iX2 (h : Aside0 (Kd.R (Kd.int .u64) 22 W base (fun _ => True) v zs)) (K : Aside0 (W.heap[g]? = some (.cells cs t (0, 0)))) (K1 : Aside0 (W.heap[g1]? = some (.cells cs1 t1 (0, 0))))
    (f : Kd.R (Kd.int .u64) 22 W base (fun k => (True ∧ k ≠ g) ∧ k ≠ g1) v zs → Kd.R (Kd.int .u64) 22 W1 base (fun k => (True ∧ k ≠ g) ∧ k ≠ g1) v zs := by intro h_; (with_reducible repeat (first | exact h_ | apply Kd.R_alloc | apply Kd.R_drewN | apply Kd.R_drew | apply Go.Proofs.Ytpcgjdllgdkobaa.RDW.if2 | apply Go.Proofs.Ytpcgjdllgdkobaa.RDW.if3)))
    (ht : ∀ q, q ∈ 22 :: (Kd.int .u64).E → q ≠ t := by decide) (ht1 : ∀ q, q ∈ 22 :: (Kd.int .u64).E → q ≠ t1 := by decide) : Kd.R (Kd.int .u64) 22 W1 base (fun _ => True) v zs := Kd.R_mono (f (Kd.R_types (Kd.R_types h.out K.out ht) K1.out ht1)) fun _ _ => trivial
theorem rS1 {w1 : World} {v : Value} {xs : List S61} (hw : w1 = W1) (h : Aside0 (RD W base v xs)) (K : Aside0 (W.heap[g]? = some (.cells cs t (0, 0)))) (G : base ≤ g)
    (f : RF W base (fun k => True ∧ k ≠ g) v xs → RF W1 base (fun k => True ∧ k ≠ g) v xs := by intro h_; (with_reducible repeat (first | exact h_ | apply Go.Proofs.Ytpcgjdllgdkobaa.RDW.RF.alloc | apply Go.Proofs.Ytpcgjdllgdkobaa.RDW.RF.drewN | apply Go.Proofs.Ytpcgjdllgdkobaa.RDW.RF.drew | apply Go.Proofs.Ytpcgjdllgdkobaa.RDW.RF.far1)))
    (ht : t ≠ 61 := by decide) : Aside0 (RD w1 base v xs) := ⟨by rw [hw]; exact rX1 h K G f ht⟩
theorem sS1 {w1 : World} (hw : w1 = W1) (h : Aside0 (Kd.S k57 57 W base (fun _ => True) v ys)) (K : Aside0 (W.heap[g]? = some (.cells cs t (0, 0))))
    (f : Kd.S k57 57 W base (fun k => True ∧ k ≠ g) v ys → Kd.S k57 57 W1 base (fun k => True ∧ k ≠ g) v ys := by intro h_; (with_reducible repeat (first | exact h_ | apply Kd.S_alloc | apply Kd.S_drewN | apply Kd.S_drew | apply Go.Proofs.Ytpcgjdllgdkobaa.RDW.sf1)))
    (ht : ∀ q, q ∈ 57 :: k57.E → q ≠ t := by decide) : Aside0 (Kd.S k57 57 w1 base (fun _ => True) v ys) := ⟨by rw [hw]; exact sX1 h K f ht⟩
theorem iS1 {w1 : World} (hw : w1 = W1) (h : Aside0 (Kd.R (Kd.int .u64) 22 W base (fun _ => True) v zs)) (K : Aside0 (W.heap[g]? = some (.cells cs t (0, 0))))
    (f : Kd.R (Kd.int .u64) 22 W base (fun k => True ∧ k ≠ g) v zs → Kd.R (Kd.int .u64) 22 W1 base (fun k => True ∧ k ≠ g) v zs := by intro h_; (with_reducible repeat (first | exact h_ | apply Kd.R_alloc | apply Kd.R_drewN | apply Kd.R_drew | apply Go.Proofs.Ytpcgjdllgdkobaa.RDW.if1)))
    (ht : ∀ q, q ∈ 22 :: (Kd.int .u64).E → q ≠ t := by decide) : Aside0 (Kd.R (Kd.int .u64) 22 w1 base (fun _ => True) v zs) := ⟨by rw [hw]; exact iX1 h K f ht⟩
end
end Go.Proofs.Ytpcgjdllgdkobaa.RDW
