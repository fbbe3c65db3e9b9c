/- A map (map[int]int) of the call's own whose n-th key was stored with n: its facts and laws for a printed walk. -/
import Derived.Test.YtgmjlhpigfaicaaXRx0
import Derived.Maps.OwnSet
import Derived.Maps.OwnOps
namespace Go.Proofs.Ytgmjlhpigfaicaa.MapW
open Go.RowKit Go.Maps Go.Proofs.YtgmjlhpigfaicaaW.PrintWords
def okKey (a : Int) : Bool := decide (-9223372036854775808 ≤ a) && decide (a ≤ 9223372036854775807)
theorem okKey_wf {a : Int} (h : okKey a = true) : (Lit.int .i64 a).wf = true := by
  simp only [okKey, Bool.and_eq_true, decide_eq_true_eq] at h
  simp only [Lit.wf, Bool.and_eq_true, decide_eq_true_eq, show IntKind.i64.min = -9223372036854775808 from rfl, show IntKind.i64.max = 9223372036854775807 from rfl]; omega
def hasI (l : List Int) (a : Int) : Bool := decide (a ∈ l)
/-- a's place in the list that is told backwards; 0 where it stands nowhere. -/
def idxR : List Int → Int → Int
  | [], _ => 0
  | x :: r, a => if a = x then r.length else idxR r a
def idxI (l : List Int) (a : Int) : Int := idxR l.reverse a
def DR : List Int → DataW Unit
  | [] => .map []
  | x :: r => (DR r).put (.int .i64 x) (.lit (.int .i64 r.length))
def D (l : List Int) : DataW Unit := DR l.reverse
theorem D_snoc (l : List Int) (x : Int) : D (l ++ [x]) = (D l).put (.int .i64 x) (.lit (.int .i64 l.length)) := by
  simp [D, DR]
theorem DR_map : ∀ l, IsMap (DR l)
  | [] => isMap_empty
  | _ :: r => (DR_map r).put _ _
theorem has_DR (a : Int) : ∀ l, has (DR l) (.int .i64 a) = decide (a ∈ l)
  | [] => by simp [DR, has]
  | x :: r => by
    unfold DR
    by_cases e : a = x
    · subst e
      rw [has_put_same (k := .int .i64 a) (DR_map r) (by simp [WideAt.IsKeyLit])]
      simp
    · rw [has_put_other (by intro h; injection h with _ h; exact e h), has_DR a r]
      simp [e]
theorem at_DR (a : Int) : ∀ l, (DR l).atKey (.int .i64 a) (.lit (.int .i64 0)) = .lit (.int .i64 (idxR l a))
  | [] => by simp [DR, DataW.atKey, idxR]
  | x :: r => by
    unfold DR idxR
    by_cases e : a = x
    · subst e
      rw [atKey_put_same (k := .int .i64 a) (DR_map r) (by simp [WideAt.IsKeyLit]), if_pos rfl]
    · rw [atKey_put_other (by intro h; injection h with _ h; exact e h), at_DR a r, if_neg e]
theorem has_D (l : List Int) (a : Int) : has (D l) (.int .i64 a) = hasI l a := by
  unfold D hasI; rw [has_DR]; simp
theorem at_D (l : List Int) (a : Int) : (D l).atKey (.int .i64 a) (.lit (.int .i64 0)) = .lit (.int .i64 (idxI l a)) := at_DR a _
def MapF (W : World) (base : Nat) (S : Nat → Prop) (v : Value) (xs : List Int) : Prop := ∃ bm, v = .map (some bm) ∧ base ≤ bm ∧ S bm ∧ W.ownsMap Try.prog 3 (plainElem (H := Unit) Try.prog 3) bm xs.length (D xs)
def MapR (W : World) (base : Nat) (v : Value) (xs : List Int) : Prop := MapF W base (fun _ => True) v xs
section
variable {W W' w1 : World} {base : Nat} {S : Nat → Prop} {v : Value} {xs : List Int}
theorem MapF.move (h : MapF W base S v xs) (hm : ∀ k, S k → k < W.heap.size → (∃ es c, W.heap[k]? = some (.map es c)) → W'.heap[k]? = W.heap[k]?) : MapF W' base S v xs := by
  obtain ⟨bm, rfl, hb, hs, es, c, hh, hf⟩ := h
  exact ⟨bm, rfl, hb, hs, es, c, (hm bm hs (Array.getElem?_eq_some_iff.1 hh).1 ⟨es, c, hh⟩).trans hh, hf⟩
theorem MapR.val (h : MapR W base v xs) : ∃ bm, v = .map (some bm) := let ⟨bm, e, _⟩ := h; ⟨bm, e⟩
theorem MapR.drewN (h : MapR W base v xs) {n : Nat} : MapR (W.drewN n) base v xs := MapF.move h fun _ _ _ _ => by simp [World.drewN]
theorem MapR.drew (h : MapR W base v xs) : MapR W.drew base v xs := MapF.move h fun _ _ _ _ => rfl
theorem MapR.alloc (h : MapR W base v xs) {o : Obj} : MapR (W.alloc o) base v xs := MapF.move h fun k _ hk _ => Below.heap_alloc W o k hk
theorem MapF.drewN (h : MapF W base S v xs) {n : Nat} : MapF (W.drewN n) base S v xs := MapF.move h fun _ _ _ _ => by simp [World.drewN]
theorem MapF.drew (h : MapF W base S v xs) : MapF W.drew base S v xs := MapF.move h fun _ _ _ _ => rfl
theorem MapF.alloc (h : MapF W base S v xs) {o : Obj} : MapF (W.alloc o) base S v xs := MapF.move h fun k _ hk _ => Below.heap_alloc W o k hk
theorem MapR.below (h : MapR W base v xs) (hb : Below W.heap.size W W') : MapR W' base v xs := MapF.move h fun k _ hk _ => hb.block k hk
theorem MapR.lower (h : MapR W base v xs) {b : Nat} (hb : b ≤ base) : MapR W b v xs := let ⟨bm, e, h1, h2⟩ := h; ⟨bm, e, Nat.le_trans hb h1, h2⟩
theorem MapF.far {p : Addr} (h : MapF W base S v xs) (hp : ∀ k, S k → k ≠ p.block) (u : Value) : MapF (W.setCell p u) base S v xs := MapF.move h fun k hs _ _ => Below.heap_setCell W p u k (hp k hs)
theorem MapF.farA {g g' i : Nat} (h : MapF W base (fun k => (True ∧ k ≠ g) ∧ k ≠ g') v xs) {u : Value} : MapF (W.setCell ⟨g', i, none⟩ u) base (fun k => (True ∧ k ≠ g) ∧ k ≠ g') v xs := h.far (fun _ hk => hk.2) u
theorem MapF.farB {g g' i : Nat} (h : MapF W base (fun k => (True ∧ k ≠ g') ∧ k ≠ g) v xs) {u : Value} : MapF (W.setCell ⟨g', i, none⟩ u) base (fun k => (True ∧ k ≠ g') ∧ k ≠ g) v xs := h.far (fun _ hk => hk.1.2) u
theorem MapF.and {g : Nat} {t : TypeId} {cells : Array Value} (h : MapF W base S v xs) (K : W.heap[g]? = some (.cells cells t (0, 0))) : MapF W base (fun k => S k ∧ k ≠ g) v xs := by
  obtain ⟨bm, rfl, hb, hs, es, c, hh, hf⟩ := h
  refine ⟨bm, rfl, hb, ⟨hs, fun e => ?_⟩, es, c, hh, hf⟩
  subst e; rw [K] at hh; cases hh
theorem MapF.mono {S' : Nat → Prop} (h : MapF W base S v xs) (hs : ∀ k, S k → S' k) : MapF W base S' v xs := let ⟨bm, e, h1, h2, h3⟩ := h; ⟨bm, e, h1, hs _ h2, h3⟩
theorem MapR.over (h : MapR W base v xs) {u : Value} {e : TypeId} (hty : ∀ k, u.ownBlock = some k → ∃ cells, W.heap[k]? = some (.cells cells e (0, 0))) (hg : W.grownBy w1 u.ownBlock) : MapR w1 base v xs :=
  MapF.move h fun k _ hk hm => hg.block k hk fun e' => by
    obtain ⟨cells, hc⟩ := hty k e'.symm
    obtain ⟨es, c, hh⟩ := hm
    rw [hc] at hh; cases hh
end
theorem mR {p q : Prop} (h : Aside0 q) (f : q → p := by intro h_; (with_reducible repeat (first | apply Go.Proofs.Ytgmjlhpigfaicaa.MapW.MapR.alloc | apply Go.Proofs.Ytgmjlhpigfaicaa.MapW.MapR.drewN | apply Go.Proofs.Ytgmjlhpigfaicaa.MapW.MapR.drew)); exact h_) : p := f h.out
theorem mRb {base : Nat} {v : Value} {xs : List Int} {W w w1 : World} (h : Aside0 (MapR W base v xs)) (hb : Below w.heap.size w w1) (f : MapR W base v xs → MapR w base v xs := by (intro h_; (with_reducible repeat (first | apply Go.Proofs.Ytgmjlhpigfaicaa.MapW.MapR.alloc | apply Go.Proofs.Ytgmjlhpigfaicaa.MapW.MapR.drewN | apply Go.Proofs.Ytgmjlhpigfaicaa.MapW.MapR.drew)); exact h_)) : Aside0 (MapR w1 base v xs) := ⟨MapR.below (f h.out) hb⟩
theorem mRf {base g : Nat} {t : TypeId} {cells : Array Value} {v : Value} {xs : List Int} {W W1 : World} (h : Aside0 (MapR W base v xs)) (K : Aside0 (W.heap[g]? = some (.cells cells t (0, 0))))
    (f : MapF W base (fun k => True ∧ k ≠ g) v xs → MapF W1 base (fun k => True ∧ k ≠ g) v xs := by (intro h_; repeat (first | (with_reducible first | exact h_ | apply Go.Proofs.Ytgmjlhpigfaicaa.MapW.MapF.alloc | apply Go.Proofs.Ytgmjlhpigfaicaa.MapW.MapF.drewN | apply Go.Proofs.Ytgmjlhpigfaicaa.MapW.MapF.drew) | refine Go.Proofs.Ytgmjlhpigfaicaa.MapW.MapF.far ?_ (fun _ hk => hk.2) _))) : MapR W1 base v xs := (f (MapF.and h.out K.out)).mono fun _ _ => trivial
theorem mRf2 {base g g' : Nat} {t t' : TypeId} {cells cells' : Array Value} {v : Value} {xs : List Int} {W W1 : World} (h : Aside0 (MapR W base v xs)) (K : Aside0 (W.heap[g]? = some (.cells cells t (0, 0)))) (K' : Aside0 (W.heap[g']? = some (.cells cells' t' (0, 0))))
    (f : MapF W base (fun k => (True ∧ k ≠ g) ∧ k ≠ g') v xs → MapF W1 base (fun k => (True ∧ k ≠ g) ∧ k ≠ g') v xs := by (intro h_; with_reducible repeat (first | exact h_ | apply Go.Proofs.Ytgmjlhpigfaicaa.MapW.MapF.alloc | apply Go.Proofs.Ytgmjlhpigfaicaa.MapW.MapF.drewN | apply Go.Proofs.Ytgmjlhpigfaicaa.MapW.MapF.drew | apply Go.Proofs.Ytgmjlhpigfaicaa.MapW.MapF.farA | apply Go.Proofs.Ytgmjlhpigfaicaa.MapW.MapF.farB))) : MapR W1 base v xs := (f (MapF.and (MapF.and h.out K.out) K'.out)).mono fun _ _ => trivial
theorem law3 : Keyed Try.prog 3 := int_keyed Try.underlying3
theorem zero3 (w : World) : (zeroValue 3).run Try.prog w = .ok (.int .i64 0) w := by kernel_rfl
section
variable {w : World} {ops : Array Oper} {rest : List Oper} {o : Oper} {a : Act} {Q : Exit → Act → World → Prop}
theorem mMake {base : Nat} (hB : base ≤ w.heap.size) (hK : ∀ b w', MapR w' base (.map (some b)) [] → Below w.heap.size w w' → wpList Try.prog ops Q rest (a.put o.dst (.map (some b))) w')
    (hg : o.guard = none := by exact rfl) (hop : o.op = Op.makeMap 99 none := by exact rfl) : wpList Try.prog ops Q (o :: rest) a w := by
  refine wpList_plain hg fun K' hK' => ?_
  unfold Oper.wp
  simp only [execOp, hop]
  simp [run_makeMap, Result.andThen]
  exact hK' _ _ (hK _ _ ⟨_, rfl, hB, trivial, World.ownsMap_made _ _ _ _⟩ ((Below.refl _ _).alloc (Nat.le_refl _) _))
theorem mLook {base : Nat} {b : Nat} {xs : List Int} (hM : MapR w base (.map (some b)) xs) {key t : Int} {u : Bool} (hA : (if okKey key = true then some (idxI xs key, hasI xs key) else none) = some (t, u))
    {m x : Operand} (hK : wpList Try.prog ops Q rest (a.put o.dst (.tuple #[.int .i64 t, .bool u])) w)
    (hop : o.op = Op.lookup 99 m x true := by exact rfl) (hg : o.guard = none := by exact rfl) (hm : a.eval m = .map (some b) := by exact rfl) (hx : a.eval x = .int .i64 key := by exact rfl) : wpList Try.prog ops Q (o :: rest) a w := by
  split at hA
  · rename_i hk
    injection hA with hA
    injection hA with h1 h2
    subst h1; subst h2
    obtain ⟨bm, e, _, _, hown⟩ := hM
    injection e with e; injection e with e; subst e
    refine wpList_lookup_own_ok_int w hg m x 99 hop 3 3 .i64 law3 Try.underlying99 Try.underlying3 (zero3 _) b _ _ hm hown _ _ hx (keyOf_int_mk Try.underlying3 (okKey_wf hk)) fun c hat _ => ?_
    rw [at_D] at hat
    injection hat with hat; injection hat with _ hat; subst hat
    rw [has_D]
    exact hK
  · cases hA
theorem mStore {base : Nat} {b : Nat} {xs : List Int} (hM : MapR w base (.map (some b)) xs) {key i t : Int} {u : Bool} (hA : (if okKey key = true then some (idxI xs key, hasI xs key) else none) = some (t, u)) (hi : (xs.length : Int) = i) (hl : xs.length < 17592186044416)
    {m x y : Operand} (hK : ∀ w', MapR w' base (.map (some b)) (xs ++ [key]) → (∀ {g : Nat} {cells : Array Value} {t : TypeId}, w.heap[g]? = some (.cells cells t (0, 0)) → w'.heap[g]? = some (.cells cells t (0, 0))) →
      (∀ {w0 : World}, Below base w0 w → Below base w0 w') → wpList Try.prog ops Q rest (a.put o.dst undef) w')
    (hop : o.op = Op.mapUpdate 99 m x y := by exact rfl) (hg : o.guard = none := by exact rfl) (hm : a.eval m = .map (some b) := by exact rfl) (hx : a.eval x = .int .i64 key := by exact rfl) (hy : a.eval y = .int .i64 i := by exact rfl) : wpList Try.prog ops Q (o :: rest) a w := by
  split at hA
  · rename_i hk
    obtain ⟨bm, e, hb, _, hown⟩ := hM
    injection e with e; injection e with e; subst e
    have hw : (Lit.int .i64 i).wf = true := by subst hi; simp only [Lit.wf, Bool.and_eq_true, decide_eq_true_eq, show IntKind.i64.min = -9223372036854775808 from rfl, show IntKind.i64.max = 9223372036854775807 from rfl]; omega
    obtain ⟨es, clock, hes, _⟩ := id hown
    refine wpList_mapUpdate_own w hg m x y 99 hop 3 3 law3 Try.underlying99 _ b _ _ hm hown (by unfold maxLen; omega) _ _ _ hx hy (keyOf_int_mk Try.underlying3 (okKey_wf hk)) _ [] (plainElem_int Try.underlying3 hw) fun w' h1 h2 => ?_
    refine hK w' ⟨b, rfl, hb, trivial, ?_⟩ (fun {g cells t} hg0 => blk_grown hg0 h2 fun e => ?_) (fun {w0} h0 => ⟨h2.os.trans h0.os, h2.tape.trans h0.tape, h2.output.trans h0.output, Nat.le_trans h0.size h2.size, fun k hk0 => (h2.block k (Nat.lt_of_lt_of_le hk0 (Nat.le_trans hb (Nat.le_of_lt hown.lt))) fun e => ?_).trans (h0.block k hk0)⟩)
    · rw [D_snoc, hi]
      simpa using h1
    · injection e with e; subst e; rw [hg0] at hes; cases hes
    · injection e with e; omega
  · cases hA
end
end Go.Proofs.Ytgmjlhpigfaicaa.MapW
