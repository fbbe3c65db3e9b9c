/- A range over what delta.both hands back: the statement's law, over whatever the loop's body keeps. -/
import Derived.Test.YtpcgjdllgdkobaaZB
namespace Go.Proofs.Ytpcgjdllgdkobaa.ZD
open Go.RowKit Go.Proofs.YtpcgjdllgdkobaaW.PrintWords Go.Proofs.YtpcgjdllgdkobaaW.PrintLast Go.Proofs.YtpcgjdllgdkobaaW.PrintMore Go.Proofs.YtpcgjdllgdkobaaW.PrintZ Go.Proofs.Ytpcgjdllgdkobaa.XA
set_option linter.unusedVariables false
/-- Cells that are neither of the two boxes lie as they lay, and so does all below a bound. -/
structure Soft (base Ba Bb : Nat) (W W' : World) : Prop where
  below : Below base W W'
  same : ∀ (k : Nat) cs t fr, W.heap[k]? = some (.cells cs t fr) → k ≠ Ba → k ≠ Bb → W'.heap[k]? = some (.cells cs t fr)
theorem Stab.soft {base Ba Bb : Nat} {W W' : World} (h : Stab base Ba Bb W W') : Soft base Ba Bb W W' := ⟨h.below, fun k cs t fr hk h1 h2 => h.same k _ hk h1 h2⟩
theorem Soft.alloc {base Ba Bb : Nat} {W : World} (o : Obj) (hs : base ≤ W.heap.size) : Soft base Ba Bb W (W.alloc o) :=
  ⟨(Below.refl _ _).alloc hs o, fun k cs t fr hk _ _ => (Below.heap_alloc W o k (Array.getElem?_eq_some_iff.1 hk).1).trans hk⟩
theorem Soft.trans {base Ba Bb : Nat} {A B C : World} (h : Soft base Ba Bb A B) (k : Soft base Ba Bb B C) : Soft base Ba Bb A C :=
  ⟨h.below.trans k.below, fun j cs t fr hj h1 h2 => k.same j cs t fr (h.same j cs t fr hj h1 h2) h1 h2⟩
theorem below_putObj {base : Nat} {W : World} {l : Nat} {o' : Obj} (hb : base ≤ l) : Below base W (W.putObj l o') :=
  ⟨rfl, rfl, rfl, by simp, fun k hk => World.putObj_heap_other (by omega)⟩
theorem Soft.putObj {base Ba Bb : Nat} {W : World} {l : Nat} {o : Obj} (o' : Obj) (hb : base ≤ l) (hl : W.heap[l]? = some o) (ho : o.isCells = false) : Soft base Ba Bb W (W.putObj l o') :=
  ⟨below_putObj hb, fun k cs t fr hk _ _ => by
    by_cases e : k = l
    · subst e; rw [hk] at hl; cases hl; cases ho
    · exact (World.putObj_heap_other e).trans hk⟩
/-- What a body must leave behind. -/
def bothPost (B base Ba Bb : Nat) (I : List S61 → List S61 → World → Prop) (xs ys : List S61) (W : World) : Exit → Act → World → Prop
  | .normal, _, W' => KeepsFrom B W W' ∧ I (rx xs ys) (ry xs ys) W' ∧ W'.heap[Ba]? = W.heap[Ba]? ∧ W'.heap[Bb]? = W.heap[Bb]? ∧ Below base W W'
  | _, _, _ => False
theorem no_outR {l : Nat} {R : Ending → World → Prop} : ¬ LetsOut (roundPost Try.prog l R) := fun ⟨_, _, h⟩ => h
theorem no_outB {B base Ba Bb : Nat} {I : List S61 → List S61 → World → Prop} {xs ys : List S61} {W : World} : ¬ LetsOut (bothPost B base Ba Bb I xs ys W) := fun ⟨_, _, h⟩ => h
theorem wpIn_both {g : Operand} {ps : Array Tmp} {assign body : Code} {Q : Exit → Act → World → Prop} {a : Act} {w w0 : World} {Ba Bb : Nat}
    (hps : ps.size = 2) (hg : a.eval g = .func (.func 52) #[] #[.pointer (some ⟨Ba, 0, none⟩), .pointer (some ⟨Bb, 0, none⟩)])
    (hne : Ba ≠ Bb) (hBa : w0.heap.size ≤ Ba) (hBb : w0.heap.size ≤ Bb) (hBa2 : Ba < w.heap.size) (hBb2 : Bb < w.heap.size)
    (A0 A1 : Option Addr) (c0 c1 : Nat) (l0 l1 : List S61) (hc0 : Kd.C k61 w0 A0 l0.length l0) (hc1 : Kd.C k61 w0 A1 l1.length l1) (hl0 : l0.length ≤ c0) (hl1 : l1.length ≤ c1)
    (hb : Below w0.heap.size w0 w) (ha0 : w.heap[Ba]? = some (.cells #[.slice A0 l0.length c0] 30 (0, 0))) (hb0 : w.heap[Bb]? = some (.cells #[.slice A1 l1.length c1] 30 (0, 0)))
    (I : List S61 → List S61 → World → Prop) (hI : ∀ xs ys W W', Soft w0.heap.size Ba Bb W W' → I xs ys W → I xs ys W') (h0 : I l0 l1 w) (a₁ : Value → Value → Act)
    (hassign : ∀ (l : Nat) (x y : Value) (W : World) (K : Act → World → Prop), K (a₁ x y) W →
      assign.wpIn (Fence.wide.inRound l) 3 Try.prog (Exit.then K (fun _ _ _ => False)) { tmps := (ps.zip #[x, y]).foldl (fun t (p, v) => t.setIfInBounds p v) a.tmps, defers := [] } W)
    (hbody : ∀ (l : Nat) (xs ys : List S61) (A B : Option Addr) (W : World), I xs ys W → Below w0.heap.size w0 W → Kd.C k61 w0 A xs.length xs → Kd.C k61 w0 B ys.length ys → (xs ≠ [] ∨ ys ≠ []) →
      (∃ v, W.heap[Ba]? = some (.cells #[v] 30 (0, 0))) → (∃ v, W.heap[Bb]? = some (.cells #[v] 30 (0, 0))) →
      body.wpIn (Fence.wide.inRound l) 3 Try.prog (bothPost w.heap.size w0.heap.size Ba Bb I xs ys W) (a₁ (pt (tkx xs ys) A) (pt (tky xs ys) B)) W)
    (hdone : ∀ (D : Nat) (W : World), w.heap.size ≤ D → I [] [] W → Below w0.heap.size w0 W → W.heap[D]? = some (.deferred (some [])) → Q .normal { a with defers := { target := .collected D, args := #[] } :: a.defers } W) :
    (Code.rangeFunc g ps assign body).wpIn Fence.wide 5 Try.prog Q a w := by
  refine wpIn_rangeFunc ?_
  intro fn hfn
  obtain ⟨rec, hrec⟩ : ∃ rec : LoopState → Option Code → Loop, rec = fun st pe => { state := st, pending := pe, fn, tmps := a.tmps, params := ps, assign, body, defers := w.heap.size } := ⟨_, rfl⟩
  obtain ⟨W1, hW1⟩ : ∃ W1, (w.alloc (.deferred (some []))).alloc (.loop (rec .ready none)) = W1 := ⟨_, rfl⟩
  have hsz : W1.heap.size = w.heap.size + 2 := by rw [← hW1]; simp
  have hL1 : W1.heap[w.heap.size + 1]? = some (.loop (rec .ready none)) := by
    rw [← hW1]; have := World.alloc_heap_new (w.alloc (.deferred (some []))) (.loop (rec .ready none)); rwa [World.size_alloc] at this
  have hK1 : W1.heap[w.heap.size]? = some (.deferred (some [])) := by
    rw [← hW1]; exact (Below.heap_alloc _ _ _ (by simp)).trans (World.alloc_heap_new w _)
  have hbs := hb.size
  have hS1 : Soft w0.heap.size Ba Bb w W1 := by rw [← hW1]; exact (Soft.alloc _ hbs).trans (Soft.alloc _ (by simp; omega))
  have hI1 : I l0 l1 W1 := hI _ _ _ _ hS1 h0
  have hb1 : Below w0.heap.size w0 W1 := hb.trans hS1.below
  have hold : ∀ (k : Nat) (o : Obj), w.heap[k]? = some o → W1.heap[k]? = some o := fun k o hk => by
    have hlt := (Array.getElem?_eq_some_iff.1 hk).1
    rw [← hW1]; exact ((Below.heap_alloc _ _ _ (by simp; omega)).trans (Below.heap_alloc _ _ _ hlt)).trans hk
  have ha1 := hold _ _ ha0
  have hbb1 := hold _ _ hb0
  refine ⟨w.heap.size + 1, [{ target := .collected w.heap.size, args := #[] }], W1, { target := .fn (.func 52) #[.pointer (some ⟨Ba, 0, none⟩), .pointer (some ⟨Bb, 0, none⟩)], args := #[.func (.yield (w.heap.size + 1)) #[] #[]] }, W1, 52,
    #[.func (.yield (w.heap.size + 1)) #[] #[]] ++ #[.pointer (some ⟨Ba, 0, none⟩), .pointer (some ⟨Bb, 0, none⟩)], W1, ?_, ?_, ?_, ?_, (by intro h; cases h), ?_⟩
  · rw [← hW1, hrec]; exact run_enterLoop_outer _ _ _ _ _
  · simp only [resolve, hg]
    simp [go_sem]
  · intro f' hf'; trivial
  · have eg : ∀ args w, (callFunc 52 args).run Try.prog w = .ok (.enter 52 args) w := enters_ Try.func52 (by kernel_rfl) rfl
    simp [invoke, go_sem, eg]
  · refine (both1_in (w.heap.size + 1) Ba Bb w0 hne hBa hBb
      (fun xs ys W => I xs ys W ∧ W.heap[w.heap.size + 1]? = some (.loop (rec .ready none)) ∧ W.heap[w.heap.size]? = some (.deferred (some [])))
      ?_ ?_ A0 A1 c0 c1 l0 l1 hc0 hc1 hl0 hl1 W1 hb1 ha1 hbb1 ⟨hI1, hL1, hK1⟩).mono ?_
    · intro xs ys W W' hS ⟨hi, hl, hk⟩
      exact ⟨hI _ _ _ _ hS.soft hi, hS.same _ _ hl (by omega) (by omega), hS.same _ _ hk (by omega) (by omega)⟩
    · rintro xs ys A B W ⟨hi, hl, hk⟩ hbw hA hB hnon hxa hxb
      have hlt : w.heap.size + 1 < W.heap.size := (Array.getElem?_eq_some_iff.1 hl).1
      have hy := run_yield (P := Try.prog) (args := #[pt (tkx xs ys) A, pt (tky xs ys) B]) hl (by rw [hrec]; exact hps.symm)
      rw [hrec] at hy
      refine ⟨fn, _, assign, body, hy, roundIn_of_wpIn hfn (hassign _ _ _ W _ ⟨_, run_beginRound hl (by rw [hrec]), ?_⟩)⟩
      obtain ⟨W2, hW2⟩ : ∃ W2, W.putObj (w.heap.size + 1) (.loop { rec .ready none with state := .busy }) = W2 := ⟨_, rfl⟩
      rw [hW2]
      have hl2 : W2.heap[w.heap.size + 1]? = some (.loop { rec .ready none with state := .busy }) := by rw [← hW2]; exact World.putObj_heap_same hlt
      have hk2 : W2.heap[w.heap.size]? = some (.deferred (some [])) := by rw [← hW2]; exact (World.putObj_heap_other (by omega)).trans hk
      have hS2 : Soft w0.heap.size Ba Bb W W2 := by rw [← hW2]; exact Soft.putObj _ (by omega) hl rfl
      obtain ⟨va, hxa⟩ := hxa
      obtain ⟨vb, hxb⟩ := hxb
      have hxa2 : W2.heap[Ba]? = some (.cells #[va] 30 (0, 0)) := by rw [← hW2]; exact (World.putObj_heap_other (by omega)).trans hxa
      have hxb2 : W2.heap[Bb]? = some (.cells #[vb] 30 (0, 0)) := by rw [← hW2]; exact (World.putObj_heap_other (by omega)).trans hxb
      refine wpIn_mono (hbody _ xs ys A B W2 (hI _ _ _ _ hS2 hi) (hbw.trans hS2.below) hA hB hnon ⟨_, hxa2⟩ ⟨_, hxb2⟩) ?_
      rintro e a3 W3 hp
      cases e with
      | normal =>
        obtain ⟨hk3, hi3, hba3, hbb3, hbl3⟩ := hp
        have hl3 := hk3.same _ _ (by omega) hl2 rfl
        have hkk3 := hk3.same _ _ (by omega) hk2 rfl
        have hend := run_endRound (P := Try.prog) none hl3
        have hlt3 := (Array.getElem?_eq_some_iff.1 hl3).1
        rw [hrec] at hend
        refine ⟨_, _, hend, rfl, ⟨hI _ _ _ _ (Soft.putObj _ (by omega) hl3 rfl) hi3, ?_, (World.putObj_heap_other (by omega)).trans hkk3⟩, ?_, ?_, ?_⟩
        · rw [hrec]; exact World.putObj_heap_same hlt3
        · exact ((World.putObj_heap_other (by omega)).trans hba3).trans (hxa2.trans hxa.symm)
        · exact ((World.putObj_heap_other (by omega)).trans hbb3).trans (hxb2.trans hxb.symm)
        · exact (hS2.below.trans hbl3).trans (below_putObj (by omega))
      | exit id => exact hp.elim
      | goto t => exact hp.elim
      | ret => exact hp.elim
      | panic ch => exact hp.elim
      | outgrown => exact hp.elim
    · rintro e W2 ⟨⟨v, rfl⟩, ⟨hi, hl, hk⟩, hbw⟩
      have hend := run_endLoop (P := Try.prog) hl (by rw [hrec]; simp)
      have hlt := (Array.getElem?_eq_some_iff.1 hl).1
      refine ⟨none, _, by rw [hrec] at hend; exact hend, ?_⟩
      exact hdone _ _ (Nat.le_refl _) (hI _ _ _ _ (Soft.putObj _ (by omega) hl rfl) hi) (hbw.trans (below_putObj (by omega))) ((World.putObj_heap_other (by omega)).trans hk)
end Go.Proofs.Ytpcgjdllgdkobaa.ZD
