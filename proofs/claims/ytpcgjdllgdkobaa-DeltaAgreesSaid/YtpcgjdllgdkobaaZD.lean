/- delta.diff and delta.merge: what they hand back, of lists side by side. -/
import Derived.Test.YtpcgjdllgdkobaaZC
import Derived.Test.YtpcgjdllgdkobaaXAx2
import Derived.Test.YtpcgjdllgdkobaaXAx8
import Derived.Test.YtpcgjdllgdkobaaXAx9
namespace Go.Proofs.Ytpcgjdllgdkobaa.ZD
open Go.RowKit Go.Proofs.YtpcgjdllgdkobaaW.PrintWords Go.Proofs.YtpcgjdllgdkobaaW.PrintLast Go.Proofs.YtpcgjdllgdkobaaW.PrintMore Go.Proofs.YtpcgjdllgdkobaaW.PrintZ Go.Proofs.Ytpcgjdllgdkobaa.XA
set_option linter.unusedVariables false
set_option linter.unusedSimpArgs false
attribute [local go_sem] Oper.semAt_some
/-- What a round's body keeps. -/
structure BR (base Ba Bb B : Nat) (W W' : World) : Prop where
  size : W.heap.size ≤ W'.heap.size
  same : ∀ (k : Nat) (o : Obj), W.heap[k]? = some o → o.isCells = false → W'.heap[k]? = some o
  a : W'.heap[Ba]? = W.heap[Ba]?
  b : W'.heap[Bb]? = W.heap[Bb]?
  below0 : Below base W W'
theorem BR.refl (base Ba Bb B : Nat) (W : World) : BR base Ba Bb B W W := ⟨Nat.le_refl _, fun _ _ h _ => h, rfl, rfl, Below.refl _ _⟩
theorem BR.drew {base Ba Bb B : Nat} {W W' : World} (h : BR base Ba Bb B W W') : BR base Ba Bb B W W'.drew := ⟨h.size, h.same, h.a, h.b, h.below0.drew⟩
theorem BR.keeps {base Ba Bb B : Nat} {W W' : World} (h : BR base Ba Bb B W W') : KeepsFrom B W W' := ⟨h.size, fun k o _ hk ho => h.same k o hk ho⟩
theorem BR.next {base Ba Bb B : Nat} {W W' W2 : World} (h : BR base Ba Bb B W W') (hb : Below W'.heap.size W' W2) (hs : base ≤ W.heap.size) (hA : Ba < W.heap.size) (hB : Bb < W.heap.size) : BR base Ba Bb B W W2 :=
  ⟨Nat.le_trans h.size hb.size, fun k o hk ho => by have h1 := h.same k o hk ho; exact (hb.block k (Array.getElem?_eq_some_iff.1 h1).1).trans h1,
   (hb.block Ba (Nat.lt_of_lt_of_le hA h.size)).trans h.a, (hb.block Bb (Nat.lt_of_lt_of_le hB h.size)).trans h.b, h.below0.trans (hb.mono (Nat.le_trans hs h.size))⟩
theorem own_known {w W : World} {ok : Nat → Prop} {v : Value} {out : List S61} (h : Kd.R k61 61 W w.heap.size ok v out) {k : Nat} (hk : v.ownBlock = some k) : w.heap.size ≤ k ∧ ok k ∧ ∃ cells, W.heap[k]? = some (.cells cells 61 (0, 0)) := by
  have hb := Kd.R_bound h
  obtain ⟨h1, h2, h3, q, hq, cells, hc⟩ := hb.1 k hk
  refine ⟨h2, h1, cells, ?_⟩
  have : q = 61 := by
    have hE : k61.E = [] := rfl
    rw [hE] at hq
    simpa using hq
  rw [← this]; exact hc
theorem BR.grown {w W W' w1 : World} {Ba Bb B : Nat} {v : Value} {out : List S61} (h : BR w.heap.size Ba Bb B W W') (hR : Kd.R k61 61 W' w.heap.size (fun k => k ≠ Ba ∧ k ≠ Bb) v out) (hg : W'.grownBy w1 v.ownBlock) (hA : Ba < W.heap.size) (hB : Bb < W.heap.size) (hs : w.heap.size ≤ W.heap.size) :
    BR w.heap.size Ba Bb B W w1 := by
  refine ⟨Nat.le_trans h.size hg.size, fun k o hk ho => ?_, ?_, ?_, ?_⟩
  · have h1 := h.same k o hk ho
    refine (hg.block k (Array.getElem?_eq_some_iff.1 h1).1 fun e => ?_).trans h1
    obtain ⟨_, _, cells, hc⟩ := own_known hR e.symm
    rw [h1] at hc; cases hc; cases ho
  · exact (hg.block Ba (Nat.lt_of_lt_of_le hA h.size) fun e => (own_known hR e.symm).2.1.1 rfl).trans h.a
  · exact (hg.block Bb (Nat.lt_of_lt_of_le hB h.size) fun e => (own_known hR e.symm).2.1.2 rfl).trans h.b
  · refine h.below0.trans ⟨hg.os, hg.tape, hg.output, hg.size, fun k hk => hg.block k (by have := h.size; omega) fun e => ?_⟩
    have := (own_known hR e.symm).1
    omega
theorem box_grown {w W w1 : World} {ok : Nat → Prop} {G : Nat} {v u : Value} {out : List S61} (hG : W.heap[G]? = some (.cells #[u] 30 (0, 0))) (hR : Kd.R k61 61 W w.heap.size ok v out) (hg : W.grownBy w1 v.ownBlock) : w1.heap[G]? = some (.cells #[u] 30 (0, 0)) := by
  refine (hg.block G (blk_lt hG) fun e => ?_).trans hG
  obtain ⟨_, _, cells, hc⟩ := own_known hR e.symm
  rw [hG] at hc; cases hc
theorem cell_old {w W w1 : World} {o : Obj} {ok : Nat → Prop} {a : Addr} {v u : Value} {out : List S61} (hR : Kd.R k61 61 W w.heap.size ok v out) (hg : W.grownBy w1 v.ownBlock) (hs : w.heap.size ≤ W.heap.size) (h : (W.alloc o).cell? a = some u) (hl : a.block < w.heap.size) : w1.cell? a = some u := by
  have h1 : w1.heap[a.block]? = W.heap[a.block]? := hg.block _ (by omega) fun e => by have := (own_known hR e.symm).1; omega
  have h2 : (W.alloc o).heap[a.block]? = W.heap[a.block]? := Below.heap_alloc W o _ (by omega)
  exact (World.cell?_of_block (h1.trans h2.symm)).trans h
theorem R_setG {w W : World} {ok : Nat → Prop} {G : Nat} {v u u' : Value} {out : List S61} (hG : W.heap[G]? = some (.cells #[u] 30 (0, 0))) (hR : Kd.R k61 61 W w.heap.size ok v out) : Kd.R k61 61 (W.setCell ⟨G, 0, none⟩ u') w.heap.size ok v out := by
  refine Kd.R_mono (Kd.R_move (Kd.R_bound hR) fun k hk => ?_) (fun _ hk => hk.1)
  obtain ⟨_, _, _, q, hq, cells, hc⟩ := hk
  refine Below.heap_setCell W ⟨G, 0, none⟩ u' k fun e => ?_
  have h61 : q = 61 := by
    have hE : k61.E = [] := rfl
    rw [hE] at hq
    simpa using hq
  subst h61
  have e' : k = G := e
  subst e'
  rw [hG] at hc; cases hc
theorem BR.setG {base Ba Bb B G : Nat} {W W' : World} {u u' : Value} (h : BR base Ba Bb B W W') (hG : W'.heap[G]? = some (.cells #[u] 30 (0, 0))) (hA : Ba ≠ G) (hB : Bb ≠ G) (hb : base ≤ G) : BR base Ba Bb B W (W'.setCell ⟨G, 0, none⟩ u') := by
  have hd := Below.heap_setCell W' ⟨G, 0, none⟩ u'
  refine ⟨by have := h.size; simpa [World.setCell] using this, fun k o hk ho => ?_, (hd Ba hA).trans h.a, (hd Bb hB).trans h.b, h.below0.setCell hb _⟩
  have h1 := h.same k o hk ho
  refine (hd k fun e => ?_).trans h1
  have e' : k = G := e
  subst e'
  rw [hG] at h1; cases h1; cases ho
theorem cell_box {W : World} {G : Nat} {v : Value} {t : TypeId} (h : W.heap[G]? = some (.cells #[v] t (0, 0))) : W.cell? ⟨G, 0, none⟩ = some v := (blk_cell h 0).trans rfl
theorem R_soft {base Ba Bb : Nat} {w W W' : World} {v : Value} {out : List S61} (hS : Soft base Ba Bb W W') (h : Kd.R k61 61 W w.heap.size (fun k => k ≠ Ba ∧ k ≠ Bb) v out) : Kd.R k61 61 W' w.heap.size (fun k => k ≠ Ba ∧ k ≠ Bb) v out := by
  refine Kd.R_mono (Kd.R_move (Kd.R_bound h) fun k hk => ?_) (fun _ hk => hk.1)
  obtain ⟨hok, _, _, q, hq, cells, hc⟩ := hk
  exact (hS.same k _ _ _ hc hok.1 hok.2).trans hc.symm
theorem bothPost_mk {B base Ba Bb : Nat} {I : List S61 → List S61 → World → Prop} {xs ys : List S61} {W W' : World} {a : Act} (h : BR base Ba Bb B W W') (hI : I (rx xs ys) (ry xs ys) W') : bothPost B base Ba Bb I xs ys W .normal a W' :=
  ⟨h.keeps, hI, h.a, h.b, h.below0⟩
def gone (x : S61) : S61 := ⟨x.f0, x.f1, ffrom 9218868437227405312, 0, 0⟩
def sameB (x y : S61) : Bool := decide (x.f0 = y.f0) && decide (x.f1 = y.f1) && decide (x.f4 = y.f4) && decide (fbits x.f2 = fbits y.f2) && decide (fbits x.f3 = fbits y.f3)
theorem same_f (x y : S61) : delta_same.f x.f0 x.f1 x.f2 x.f3 x.f4 y.f0 y.f1 y.f2 y.f3 y.f4 = some (sameB x y) := by
  unfold delta_same.f sameB
  by_cases h1 : x.f0 = y.f0
  · by_cases h2 : x.f1 = y.f1
    · by_cases h3 : x.f4 = y.f4
      · by_cases h4 : fbits x.f2 = fbits y.f2
        · simp only [h1, h2, h3, h4, if_true]
          congr 1
        · simp [h1, h2, h3, h4]
      · simp [h1, h2, h3]
    · simp [h1, h2]
  · simp [h1]
def diffL : List S61 → List S61 → List S61
  | [], [] => []
  | x :: xs, [] => gone x :: diffL xs []
  | [], y :: ys => y :: diffL [] ys
  | x :: xs, y :: ys => if ahB y x then y :: diffL (x :: xs) ys else if ahB x y then gone x :: diffL xs (y :: ys) else if sameB x y then diffL xs ys else y :: diffL xs ys
termination_by xs ys => xs.length + ys.length
def infB (y : S61) : Bool := flt 9218868437227405311 y.f2
def mergeL : List S61 → List S61 → List S61
  | [], [] => []
  | x :: xs, [] => x :: mergeL xs []
  | [], y :: ys => if infB y then mergeL [] ys else y :: mergeL [] ys
  | x :: xs, y :: ys => if ahB y x then (if infB y then mergeL (x :: xs) ys else y :: mergeL (x :: xs) ys) else if ahB x y then x :: mergeL xs (y :: ys) else if infB y then mergeL xs ys else y :: mergeL xs ys
termination_by xs ys => xs.length + ys.length
theorem fold2 (x y : Value) (t : Array Value) : ((#[11, 12] : Array Tmp).zip #[x, y]).foldl (fun t (p, v) => t.setIfInBounds p v) t = (t.setIfInBounds 11 x).setIfInBounds 12 y := by simp
def dif.T6 : Bool × List (List Nat × List Nat) := (true, [([], []), ([], []), ([1], [1]), ([2], [2]), ([3], [3]), ([], []), ([5], [5]), ([6], [6]), ([7], [7]), ([], []), ([4, 8, 9], [4, 8, 9]), ([10], [10]), ([0, 11, 9], [0, 11]), ([12, 12, 0, 1, 2, 3, 4, 5, 6, 7, 8, 9, 10, 11, 12], [12])])
def dif.B6 : List Nat := [0, 0, 2, 6, 14, 0, 32, 96, 224, 0, 1022, 2046, 4095, 8191]
theorem dif.tab6 : rtab .any (opsOf Try.f31 6) = dif.T6 := by kernel_rfl
theorem dif.bits6 : waitsOk dif.T6.2 dif.B6 = true := by kernel_rfl
def dif.T7 : Bool × List (List Nat × List Nat) := (true, [([], []), ([0], [0]), ([1], [1]), ([2], [2]), ([3, 2], [2, 3]), ([4, 2], [2, 4]), ([2], [2]), ([6, 2], [2, 6]), ([7, 2], [2, 7]), ([5, 8, 2, 2], [2, 5, 8]), ([9, 2], [2, 9]), ([2, 10], [2, 10]), ([11, 9], [11])])
def dif.B7 : List Nat := [0, 1, 3, 7, 15, 31, 7, 71, 199, 511, 1023, 2047, 4095]
theorem dif.tab7 : rtab .any (opsOf Try.f31 7) = dif.T7 := by kernel_rfl
theorem dif.bits7 : waitsOk dif.T7.2 dif.B7 = true := by kernel_rfl
def dif.T8 : Bool × List (List Nat × List Nat) := (true, [([], []), ([], []), ([1], [1]), ([2], [2]), ([3], [3]), ([0, 4], [0, 4]), ([5, 5, 0, 1, 2, 3, 4, 5], [5])])
def dif.B8 : List Nat := [0, 0, 2, 6, 14, 31, 63]
theorem dif.tab8 : rtab .any (opsOf Try.f31 8) = dif.T8 := by kernel_rfl
theorem dif.bits8 : waitsOk dif.T8.2 dif.B8 = true := by kernel_rfl
def mer.T6 : Bool × List (List Nat × List Nat) := (true, [([], []), ([], []), ([1], [1]), ([2], [2]), ([3], [3]), ([0, 4], [0, 4]), ([5, 5, 0, 1, 2, 3, 4, 5], [5])])
def mer.B6 : List Nat := [0, 0, 2, 6, 14, 31, 63]
theorem mer.tab6 : rtab .any (opsOf Try.f34 6) = mer.T6 := by kernel_rfl
theorem mer.bits6 : waitsOk mer.T6.2 mer.B6 = true := by kernel_rfl
def mer.T8 : Bool × List (List Nat × List Nat) := (true, [([], []), ([], []), ([1], [1]), ([2], [2]), ([3], [3]), ([0, 4], [0, 4]), ([5, 5, 0, 1, 2, 3, 4, 5], [5])])
def mer.B8 : List Nat := [0, 0, 2, 6, 14, 31, 63]
theorem mer.tab8 : rtab .any (opsOf Try.f34 8) = mer.T8 := by kernel_rfl
theorem mer.bits8 : waitsOk mer.T8.2 mer.B8 = true := by kernel_rfl
set_option maxRecDepth 100000 in
set_option maxHeartbeats 8000000 in
theorem diff_calls (A0 : Option Addr) (c0 : Nat) (l0 : List S61) (A1 : Option Addr) (c1 : Nat) (l1 : List S61) (w : World) (hr0 : Kd.C k61 w A0 l0.length l0) (hc0 : l0.length ≤ c0) (hr1 : Kd.C k61 w A1 l1.length l1) (hc1 : l1.length ≤ c1) (hbnd : l0.length + l1.length < 3518437208882) :
    Calls Try.prog 31 #[.slice A0 l0.length c0, .slice A1 l1.length c1] w fun e w' => ∃ v0_ : Value, e = .returned v0_ ∧ Kd.R k61 61 w' w.heap.size (fun _ => True) v0_ (diffL l0 l1) ∧ Below w.heap.size w w' := by
  refine (callsIn_wide (n := 5)).1 ?_
  refine callsIn_of_wp_marks Try.func31 rfl trivial ?_ rfl
  simp only [Try.ntmps31, List.size_toArray, List.length_cons, List.length_nil, Nat.reduceAdd, Nat.reduceSub, Array.replicate_succ, Array.replicate_zero, List.push_toArray, List.append_toArray, List.nil_append, List.cons_append]
  gi_wp2_with (refine ⟨trivial, ?_⟩; gi_at_call 43; refine (callsIn_wide.2 (both_any _ _ _ _ _ _ _)).mono ?_; rintro e w' ⟨rfl, rfl⟩)
  obtain ⟨Ba, hBa⟩ : ∃ Ba, Ba = w.heap.size + 1 := ⟨_, rfl⟩
  obtain ⟨Bb, hBb⟩ : ∃ Bb, Bb = w.heap.size + 1 + 1 := ⟨_, rfl⟩
  obtain ⟨W0, hW0⟩ : ∃ W0, ((w.alloc (.cells #[.slice none 0 0] 30)).alloc (.cells #[.slice A0 l0.length c0] 30)).alloc (.cells #[.slice A1 l1.length c1] 30) = W0 := ⟨_, rfl⟩
  have b0 : W0.heap[w.heap.size]? = some (.cells #[.slice none 0 0] 30 (0, 0)) := by
    rw [← hW0]; exact (Below.heap_alloc _ _ _ (by simp; omega)).trans ((Below.heap_alloc _ _ _ (by simp)).trans (blk_new w _))
  have b1 : W0.heap[Ba]? = some (.cells #[.slice A0 l0.length c0] 30 (0, 0)) := by
    rw [← hW0, hBa]; refine (Below.heap_alloc _ _ _ (by simp)).trans ?_
    have h_ := blk_new (w.alloc (.cells #[.slice none 0 0] 30)) (.cells #[.slice A0 l0.length c0] 30)
    rwa [World.size_alloc] at h_
  have b2 : W0.heap[Bb]? = some (.cells #[.slice A1 l1.length c1] 30 (0, 0)) := by
    rw [← hW0, hBb]
    have h_ := blk_new ((w.alloc (.cells #[.slice none 0 0] 30)).alloc (.cells #[.slice A0 l0.length c0] 30)) (.cells #[.slice A1 l1.length c1] 30)
    rwa [World.size_alloc, World.size_alloc] at h_
  have hbW : Below w.heap.size w W0 := by rw [← hW0]; exact below_alloc (below_alloc (below_alloc (Below.refl _ _) _) _) _
  have hs0 : W0.heap.size = w.heap.size + 3 := by rw [← hW0]; simp
  rw [hW0]
  refine wpIn_both (w0 := w) (Ba := w.heap.size + 1) (Bb := w.heap.size + 1 + 1) rfl rfl (by omega) (by omega) (by omega) (by omega) (by omega) A0 A1 c0 c1 l0 l1 hr0 hr1 hc0 hc1 hbW (hBa ▸ b1) (hBb ▸ b2)
    (fun xs ys W => ∃ v out, W.heap[w.heap.size]? = some (.cells #[v] 30 (0, 0)) ∧ Kd.R k61 61 W w.heap.size (fun k => k ≠ Ba ∧ k ≠ Bb) v out ∧ out ++ diffL xs ys = diffL l0 l1 ∧ out.length + (xs.length + ys.length) ≤ l0.length + l1.length)
    ?hI ⟨_, [], b0, Kd.R_nil _ _ _ _ _, by simp, by simp⟩
    (fun x y => { tmps := #[Value.slice A0 l0.length c0, Value.slice A1 l1.length c1, undef, undef, Value.slice none 0 0, Value.pointer (some ⟨w.heap.size, 0, none⟩), x, y, Value.slice A0 l0.length c0, Value.slice A1 l1.length c1, Value.func (Fn.func 52) #[] #[.pointer (some ⟨w.heap.size + 1, 0, none⟩), .pointer (some ⟨w.heap.size + 1 + 1, 0, none⟩)], x, y, undef, undef, undef, undef, undef, undef, undef, undef, undef, undef, undef, undef, undef, undef, undef, undef, undef, undef, undef, undef, undef, undef, undef, undef, undef, undef, undef, undef, undef, undef, undef, undef, undef, undef, undef, undef], defers := [] }) ?assign ?body ?done
  case hI =>
    rintro xs ys W W' hS ⟨v, out, h1, h2, h3⟩
    rw [← hBb, ← hBa] at hS
    exact ⟨v, out, hS.same _ _ _ _ h1 (by omega) (by omega), R_soft hS h2, h3⟩
  case assign =>
    intro l x y W K hK
    rw [fold2]
    gi_wp2
    exact hK
  case done =>
    rintro D W hD ⟨v, out, h1, h2, h3, h4⟩ hb hK
    obtain ⟨A_, c_, e_⟩ := Kd.R_slice h2
    subst e_
    have hc_ := cell_box h1
    have H3 := Aside0.mk h3
    have HDD := Aside0.mk (show w.heap.size ≤ D by omega)
    clear h3 h4 b0 b1 b2 hs0
    gi_wp2
    refine ⟨by simp, .inl ⟨_, _, rfl, run_takeDeferred hK, ?_⟩⟩
    refine ⟨_, results_tmp rfl _ _ _, _, rfl, ?_, hb.trans (below_putObj HDD.out)⟩
    have h5 : out = diffL l0 l1 := by have h6 := H3.out; simpa [diffL] using h6
    rw [← h5]
    exact Kd.R_mono (R_soft (Soft.putObj (base := w.heap.size) _ HDD.out hK rfl) h2) (fun _ _ => trivial)
  case body =>
    rintro l xs ys A B W ⟨v, out, hG, hR, hout, hlen⟩ hbw hA hB hnon ⟨va, hxa⟩ ⟨vb, hxb⟩
    rw [← hBb] at hxb
    rw [← hBa] at hxa
    rw [← hBb, ← hBa]
    have HBW := Aside0.mk hbw
    have HSZ := Aside0.mk hbw.size
    have HLA := Aside0.mk (blk_lt hxa)
    have HLB := Aside0.mk (blk_lt hxb)
    have HNA := Aside0.mk (show Ba ≠ w.heap.size by omega)
    have HNB := Aside0.mk (show Bb ≠ w.heap.size by omega)
    have KG := Aside0.mk hG
    have KR := Aside0.mk hR
    have KB := Aside0.mk (BR.refl w.heap.size Ba Bb W0.heap.size W)
    have HOUT := Aside0.mk hout
    have HLEN2 := Aside0.mk hlen
    have e0 := cell_box hG
    have HNON := Aside0.mk hnon
    have HLEN : Aside0 ((out.length + 1) * 40 ≤ 140737488355328) := ⟨by
      have : 1 ≤ xs.length + ys.length := by
        rcases hnon with h | h
        · have := List.length_pos_iff.2 h; omega
        · have := List.length_pos_iff.2 h; omega
      omega⟩
    clear hbw hxa hxb hG hR hout hlen hnon b0 b1 b2 hbW hs0 hW0 hr0 hr1 hc0 hc1 hbnd hBa hBb
    cases xs with
    | nil =>
      cases ys with
      | nil => exact absurd HNON.out (by simp)
      | cons y ys =>
        obtain ⟨ady, rfl, hy0, hy1, hy2, hy3, hy4⟩ := at_T61 hB 0 (by decide) (by simp)
        have LTy := Aside0.mk (show ady.block < w.heap.size from World.block_lt_of_cell? w _ hy0)
        have cy0 : W.cell? ady = some (.int .i64 y.f0) := zh HBW hy0
        have cy1 : W.cell? ⟨ady.block, ady.off + 1, none⟩ = some (.int .i64 y.f1) := zh HBW hy1
        have cy2 : W.cell? ⟨ady.block, ady.off + 2, none⟩ = some (.float .f64 y.f2) := zh HBW hy2
        have cy3 : W.cell? ⟨ady.block, ady.off + 3, none⟩ = some (.float .f64 y.f3) := zh HBW hy3
        have cy4 : W.cell? ⟨ady.block, ady.off + 4, none⟩ = some (.int .i64 y.f4) := zh HBW hy4
        clear hy0 hy1 hy2 hy3 hy4
        clear hA hB
        simp only [pt, tkx, tky, if_true, Bool.false_eq_true, if_false, List.drop_zero]
        gi_wp2
        refine startR (n := 3) (m := 13) (S := fun w' => w'.cell? ⟨w.heap.size, 0, none⟩ = some v ∧ w'.cell? ady = some (.int .i64 y.f0) ∧ w'.cell? ⟨ady.block, ady.off + 1, none⟩ = some (.int .i64 y.f1) ∧ w'.cell? ⟨ady.block, ady.off + 2, none⟩ = some (.float .f64 y.f2) ∧ w'.cell? ⟨ady.block, ady.off + 3, none⟩ = some (.float .f64 y.f3) ∧ w'.cell? ⟨ady.block, ady.off + 4, none⟩ = some (.int .i64 y.f4)) (ds := []) #[false, false, false, false, false, false, false, false, false, false, false, false, false] (by kernel_rfl) (by kernel_rfl) rfl rfl ⟨e0, cy0, cy1, cy2, cy3, cy4⟩ (fun ⟨_, _, h_⟩ => h_) (fun hHeld => ?_)
        refine with_tabW dif.tab7 dif.bits7 (fun HT_ HW_ => ?_)
        have GD := KG.out
        have RD := KR.out
        have BD := KB.out
        replace GD : (World.drew W).heap[w.heap.size]? = some (.cells #[v] 30 (0, 0)) := GD
        replace RD : Kd.R k61 61 (World.drew W) w.heap.size (fun k => k ≠ Ba ∧ k ≠ Bb) v out := Kd.R_drew RD
        replace BD : BR w.heap.size Ba Bb W0.heap.size W (World.drew W) := BD.drew
        generalize World.drew W = wd at hHeld GD RD BD ⊢
        refine pz 0 30 #[true, false, false, false, false, false, false, false, false, false, false, false, false] HT_.1 ?_
        refine pz 1 31 #[true, true, false, false, false, false, false, false, false, false, false, false, false] HT_.1 ?_
        refine pz 2 32 #[true, true, true, false, false, false, false, false, false, false, false, false, false] HT_.1 ?_
        refine pu 3 33 #[true, true, true, true, false, false, false, false, false, false, false, false, false] HT_.1 ?_
        refine pu 4 34 #[true, true, true, true, true, false, false, false, false, false, false, false, false] HT_.1 ?_
        refine pu 5 35 #[true, true, true, true, true, true, false, false, false, false, false, false, false] HT_.1 ?_
        refine pu 6 36 #[true, true, true, true, true, true, true, false, false, false, false, false, false] HT_.1 ?_
        refine pu 7 37 #[true, true, true, true, true, true, true, true, false, false, false, false, false] HT_.1 ?_
        refine pu 8 38 #[true, true, true, true, true, true, true, true, true, false, false, false, false] HT_.1 ?_
        refine pu 9 39 #[true, true, true, true, true, true, true, true, true, true, false, false, false] HT_.1 ?_
        refine pu 10 40 #[true, true, true, true, true, true, true, true, true, true, true, false, false] HT_.1 ?_
        refine pz 11 41 #[true, true, true, true, true, true, true, true, true, true, true, true, false] HT_.1 ?_
        refine pz 12 29 #[true, true, true, true, true, true, true, true, true, true, true, true, true] HT_.1 ?_
        refine done_ (done_of HT_.out (by kernel_rfl)) ?_
        have KG := Aside0.mk GD
        have KR := Aside0.mk RD
        have KB := Aside0.mk BD
        clear GD RD BD e0 cy0 cy1 cy2 cy3 cy4
        obtain ⟨e0, cy0, cy1, cy2, cy3, cy4⟩ := hHeld
        gi_wp2
        refine startR (n := 3) (m := 7) (S := fun w' => w'.cell? ⟨w.heap.size, 0, none⟩ = some v ∧ w'.cell? ady = some (.int .i64 y.f0) ∧ w'.cell? ⟨ady.block, ady.off + 1, none⟩ = some (.int .i64 y.f1) ∧ w'.cell? ⟨ady.block, ady.off + 2, none⟩ = some (.float .f64 y.f2) ∧ w'.cell? ⟨ady.block, ady.off + 3, none⟩ = some (.float .f64 y.f3) ∧ w'.cell? ⟨ady.block, ady.off + 4, none⟩ = some (.int .i64 y.f4)) (ds := [6]) #[false, false, false, false, false, false, false] (by kernel_rfl) (by kernel_rfl) rfl rfl ⟨e0, cy0, cy1, cy2, cy3, cy4⟩ (fun ⟨_, _, h_⟩ => h_) (fun hHeld => ?_)
        refine with_tabW dif.tab8 dif.bits8 (fun HT_ HW_ => ?_)
        have GD := KG.out
        have RD := KR.out
        have BD := KB.out
        replace GD : (World.drew wd).heap[w.heap.size]? = some (.cells #[v] 30 (0, 0)) := GD
        replace RD : Kd.R k61 61 (World.drew wd) w.heap.size (fun k => k ≠ Ba ∧ k ≠ Bb) v out := Kd.R_drew RD
        replace BD : BR w.heap.size Ba Bb W0.heap.size W (World.drew wd) := BD.drew
        generalize World.drew wd = we at hHeld GD RD BD ⊢
        refine tz 0 42 #[true, false, false, false, false, false, false] HT_.1 HW_.1 hHeld ?_
        refine pz 1 43 #[true, true, false, false, false, false, false] HT_.1 ?_
        refine pz 2 44 #[true, true, true, false, false, false, false] HT_.1 ?_
        refine tz 3 45 #[true, true, true, true, false, false, false] HT_.1 HW_.1 hHeld ?_
        refine one_ (i := 4) (N := some 46) #[true, true, true, true, true, false, false] rfl rfl (one_of HT_.out (by kernel_rfl)) (by decide) (fun K hK => ?_)
        refine event_step (v := .slice (some ⟨we.heap.size, 0, none⟩) 1 1) (w1 := we.alloc (.cells #[.int .i64 y.f0, .int .i64 y.f1, .float .f64 y.f2, .float .f64 y.f3, .int .i64 y.f4] 61)) (by rfl) (by go_simp) ?_
        obtain ⟨z0, z1, z2, z3, z4, z5⟩ := hHeld
        have HBA := Aside0.mk (below_alloc (Below.refl we.heap.size we) (.cells #[.int .i64 y.f0, .int .i64 y.f1, .float .f64 y.f2, .float .f64 y.f3, .int .i64 y.f4] 61))
        refine hK.out _ _ ⟨zh HBA z0, zh HBA z1, zh HBA z2, zh HBA z3, zh HBA z4, zh HBA z5⟩ (fun hHeld => ?_)
        clear hK K HBA z0 z1 z2 z3 z4 z5
        refine nz 46 ?_
        refine one_ (i := 5) (N := some 47) #[true, true, true, true, true, true, false] rfl rfl (one_of HT_.out (by kernel_rfl)) (by decide) (fun K hK => ?_)
        refine Kd.R_append_step k61 (w0 := w) w.heap.size (by rfl) (.tmp 42) (.tmp 46) 30 61 (.agg #[(.int .i64 0), (.int .i64 0), (.float .f64 0), (.float .f64 0), (.int .i64 0)]) 40 rfl Try.underlying30 info61 rfl (by decide) (by omega) v out (y) [.int .i64 y.f0, .int .i64 y.f1, .float .f64 y.f2, .float .f64 y.f3, .int .i64 y.f4] (fun k => k ≠ Ba ∧ k ≠ Bb) (fun _ => False) rfl rfl (k61_mkM _ _ _ _) (fun _ hk => hk.elim) (fun k_ hk => ⟨by have := HLA.out; have := BD.size; omega, by have := HLB.out; have := BD.size; omega⟩) RD (HBW.out.trans BD.below0) (Nat.le_trans HSZ.out BD.size) (by have := HLEN.out; omega) ?_
        intro v1 w1 ho hb1 hg hat
        have GA := box_grown GD RD hg
        have BA := BD.grown RD hg HLA.out HLB.out HSZ.out
        obtain ⟨z0, z1, z2, z3, z4, z5⟩ := hHeld
        refine hK.out _ _ ⟨cell_box GA, cell_old RD hg (Nat.le_trans HSZ.out BD.size) z1 LTy.out, cell_old RD hg (Nat.le_trans HSZ.out BD.size) z2 LTy.out, cell_old RD hg (Nat.le_trans HSZ.out BD.size) z3 LTy.out, cell_old RD hg (Nat.le_trans HSZ.out BD.size) z4 LTy.out, cell_old RD hg (Nat.le_trans HSZ.out BD.size) z5 LTy.out⟩ (fun hHeld => ?_)
        clear hK K z0 z1 z2 z3 z4 z5
        refine nz 47 ?_
        refine last_ (i := 6) (N := none) #[true, true, true, true, true, true, true] rfl rfl (one_of HT_.out (by kernel_rfl)) (by decide) (fun K hK => ?_)
        have hs_ := cell_box GA
        have hf_ := blk_frozen GA 0
        obtain ⟨A1_, c1_, e1_⟩ := Kd.R_slice ho
        refine skip_ (w1 := w1.setCell ⟨w.heap.size, 0, none⟩ v1) (by rfl) rfl (by subst e1_; go_simp) ?_
        refine hK.out _ _ ?_
        clear hK K
        refine done_ (done_of HT_.out (by kernel_rfl)) ?_
        try dsimp only [Exit.inBlock]
        refine bothPost_mk (BA.setG GA HNA.out HNB.out (Nat.le_refl _)) ?_
        refine ⟨v1, out ++ [y], box_set _ GA, R_setG GA ho, ?_, ?_⟩
        · have h_ := HOUT.out
          rw [← h_]; (conv => rhs; rw [diffL]); simp [rx, ry, tkx, tky]
        · have h_ := HLEN2.out
          simp only [rx, ry, pt, tkx, tky, if_true, Bool.false_eq_true, if_false, List.drop_zero, List.drop_succ_cons, List.drop_zero, List.length_cons, List.length_nil, List.length_append] at h_ ⊢
          omega
    | cons x xs =>
      cases ys with
      | nil =>
        obtain ⟨adx, rfl, hx0, hx1, hx2, hx3, hx4⟩ := at_T61 hA 0 (by decide) (by simp)
        have LTx := Aside0.mk (show adx.block < w.heap.size from World.block_lt_of_cell? w _ hx0)
        have cx0 : W.cell? adx = some (.int .i64 x.f0) := zh HBW hx0
        have cx1 : W.cell? ⟨adx.block, adx.off + 1, none⟩ = some (.int .i64 x.f1) := zh HBW hx1
        have cx2 : W.cell? ⟨adx.block, adx.off + 2, none⟩ = some (.float .f64 x.f2) := zh HBW hx2
        have cx3 : W.cell? ⟨adx.block, adx.off + 3, none⟩ = some (.float .f64 x.f3) := zh HBW hx3
        have cx4 : W.cell? ⟨adx.block, adx.off + 4, none⟩ = some (.int .i64 x.f4) := zh HBW hx4
        clear hx0 hx1 hx2 hx3 hx4
        clear hA hB
        simp only [pt, tkx, tky, if_true, Bool.false_eq_true, if_false]
        gi_wp2
        refine startR (n := 3) (m := 14) (S := fun w' => w'.cell? ⟨w.heap.size, 0, none⟩ = some v ∧ w'.cell? adx = some (.int .i64 x.f0) ∧ w'.cell? ⟨adx.block, adx.off + 1, none⟩ = some (.int .i64 x.f1) ∧ w'.cell? ⟨adx.block, adx.off + 2, none⟩ = some (.float .f64 x.f2) ∧ w'.cell? ⟨adx.block, adx.off + 3, none⟩ = some (.float .f64 x.f3) ∧ w'.cell? ⟨adx.block, adx.off + 4, none⟩ = some (.int .i64 x.f4)) (ds := [13]) #[false, false, false, false, false, false, false, false, false, false, false, false, false, false] (by kernel_rfl) (by kernel_rfl) rfl rfl ⟨e0, cx0, cx1, cx2, cx3, cx4⟩ (fun ⟨_, _, h_⟩ => h_) (fun hHeld => ?_)
        refine with_tabW dif.tab6 dif.bits6 (fun HT_ HW_ => ?_)
        have GD := KG.out
        have RD := KR.out
        have BD := KB.out
        replace GD : (World.drew W).heap[w.heap.size]? = some (.cells #[v] 30 (0, 0)) := GD
        replace RD : Kd.R k61 61 (World.drew W) w.heap.size (fun k => k ≠ Ba ∧ k ≠ Bb) v out := Kd.R_drew RD
        replace BD : BR w.heap.size Ba Bb W0.heap.size W (World.drew W) := BD.drew
        generalize World.drew W = wd at hHeld GD RD BD ⊢
        refine tz 0 16 #[true, false, false, false, false, false, false, false, false, false, false, false, false, false] HT_.1 HW_.1 hHeld ?_
        refine pz 1 17 #[true, true, false, false, false, false, false, false, false, false, false, false, false, false] HT_.1 ?_
        refine pz 2 18 #[true, true, true, false, false, false, false, false, false, false, false, false, false, false] HT_.1 ?_
        refine pz 3 19 #[true, true, true, true, false, false, false, false, false, false, false, false, false, false] HT_.1 ?_
        refine tz 4 20 #[true, true, true, true, true, false, false, false, false, false, false, false, false, false] HT_.1 HW_.1 hHeld ?_
        refine pz 5 21 #[true, true, true, true, true, true, false, false, false, false, false, false, false, false] HT_.1 ?_
        refine pz 6 22 #[true, true, true, true, true, true, true, false, false, false, false, false, false, false] HT_.1 ?_
        refine pz 7 23 #[true, true, true, true, true, true, true, true, false, false, false, false, false, false] HT_.1 ?_
        refine tz 8 24 #[true, true, true, true, true, true, true, true, true, false, false, false, false, false] HT_.1 HW_.1 hHeld ?_
        refine one_ (i := 9) (N := some 25) #[true, true, true, true, true, true, true, true, true, true, false, false, false, false] rfl rfl (one_of HT_.out (by kernel_rfl)) (by decide) (fun K hK => ?_)
        refine zo_ Try.func44 #[.int .i64 1] ?_
        refine (math_Inf.calls 1 (ffrom 9218868437227405312) _ (by simp [math_Inf.f])).mono ?_
        rintro e wc1 ⟨rfl, hdr⟩
        have HBE := Aside0.mk (hdr.below)
        clear hdr
        refine ⟨_, rfl, ?_⟩
        obtain ⟨z0, z1, z2, z3, z4, z5⟩ := hHeld
        have BDn := BD.next HBE.out HSZ.out HLA.out HLB.out
        have GDn := (HBE.out.block _ (blk_lt GD)).trans GD
        have RDn := Kd.R_below RD HBE.out
        clear BD GD RD
        have BD := BDn
        have GD := GDn
        have RD := RDn
        clear BDn GDn RDn
        refine hK.out _ _ ⟨zh HBE z0, zh HBE z1, zh HBE z2, zh HBE z3, zh HBE z4, zh HBE z5⟩ (fun hHeld => ?_)
        clear hK K HBE z0 z1 z2 z3 z4 z5
        refine nz 25 ?_
        refine pz 10 26 #[true, true, true, true, true, true, true, true, true, true, true, false, false, false] HT_.1 ?_
        refine one_ (i := 11) (N := some 27) #[true, true, true, true, true, true, true, true, true, true, true, true, false, false] rfl rfl (one_of HT_.out (by kernel_rfl)) (by decide) (fun K hK => ?_)
        refine event_step (v := .slice (some ⟨wc1.heap.size, 0, none⟩) 1 1) (w1 := wc1.alloc (.cells #[.int .i64 x.f0, .int .i64 x.f1, .float .f64 (ffrom 9218868437227405312), .float .f64 0, .int .i64 0] 61)) (by rfl) (by go_simp) ?_
        obtain ⟨z0, z1, z2, z3, z4, z5⟩ := hHeld
        have HBA := Aside0.mk (below_alloc (Below.refl wc1.heap.size wc1) (.cells #[.int .i64 x.f0, .int .i64 x.f1, .float .f64 (ffrom 9218868437227405312), .float .f64 0, .int .i64 0] 61))
        refine hK.out _ _ ⟨zh HBA z0, zh HBA z1, zh HBA z2, zh HBA z3, zh HBA z4, zh HBA z5⟩ (fun hHeld => ?_)
        clear hK K HBA z0 z1 z2 z3 z4 z5
        refine nz 27 ?_
        refine one_ (i := 12) (N := some 28) #[true, true, true, true, true, true, true, true, true, true, true, true, true, false] rfl rfl (one_of HT_.out (by kernel_rfl)) (by decide) (fun K hK => ?_)
        refine Kd.R_append_step k61 (w0 := w) w.heap.size (by rfl) (.tmp 16) (.tmp 27) 30 61 (.agg #[(.int .i64 0), (.int .i64 0), (.float .f64 0), (.float .f64 0), (.int .i64 0)]) 40 rfl Try.underlying30 info61 rfl (by decide) (by omega) v out (gone x) [.int .i64 x.f0, .int .i64 x.f1, .float .f64 (ffrom 9218868437227405312), .float .f64 0, .int .i64 0] (fun k => k ≠ Ba ∧ k ≠ Bb) (fun _ => False) rfl rfl (k61_mkM _ _ _ _) (fun _ hk => hk.elim) (fun k_ hk => ⟨by have := HLA.out; have := BD.size; omega, by have := HLB.out; have := BD.size; omega⟩) RD (HBW.out.trans BD.below0) (Nat.le_trans HSZ.out BD.size) (by have := HLEN.out; omega) ?_
        intro v1 w1 ho hb1 hg hat
        have GA := box_grown GD RD hg
        have BA := BD.grown RD hg HLA.out HLB.out HSZ.out
        obtain ⟨z0, z1, z2, z3, z4, z5⟩ := hHeld
        refine hK.out _ _ ⟨cell_box GA, cell_old RD hg (Nat.le_trans HSZ.out BD.size) z1 LTx.out, cell_old RD hg (Nat.le_trans HSZ.out BD.size) z2 LTx.out, cell_old RD hg (Nat.le_trans HSZ.out BD.size) z3 LTx.out, cell_old RD hg (Nat.le_trans HSZ.out BD.size) z4 LTx.out, cell_old RD hg (Nat.le_trans HSZ.out BD.size) z5 LTx.out⟩ (fun hHeld => ?_)
        clear hK K z0 z1 z2 z3 z4 z5
        refine nz 28 ?_
        refine last_ (i := 13) (N := none) #[true, true, true, true, true, true, true, true, true, true, true, true, true, true] rfl rfl (one_of HT_.out (by kernel_rfl)) (by decide) (fun K hK => ?_)
        have hs_ := cell_box GA
        have hf_ := blk_frozen GA 0
        obtain ⟨A1_, c1_, e1_⟩ := Kd.R_slice ho
        refine skip_ (w1 := w1.setCell ⟨w.heap.size, 0, none⟩ v1) (by rfl) rfl (by subst e1_; go_simp) ?_
        refine hK.out _ _ ?_
        clear hK K
        refine done_ (done_of HT_.out (by kernel_rfl)) ?_
        try dsimp only [Exit.inBlock]
        refine bothPost_mk (BA.setG GA HNA.out HNB.out (Nat.le_refl _)) ?_
        refine ⟨v1, out ++ [gone x], box_set _ GA, R_setG GA ho, ?_, ?_⟩
        · have h_ := HOUT.out
          rw [← h_]; (conv => rhs; rw [diffL]); simp [rx, ry, tkx, tky]
        · have h_ := HLEN2.out
          simp only [rx, ry, pt, tkx, tky, if_true, Bool.false_eq_true, if_false, List.drop_succ_cons, List.drop_zero, List.length_cons, List.length_nil, List.length_append] at h_ ⊢
          omega
      | cons y ys =>
        cases hyx : ahB y x
        · cases hxy : ahB x y
          · cases hsm : sameB x y
            · have HSM := Aside0.mk hsm
              clear hsm
              have HYX := Aside0.mk hyx
              have HXY := Aside0.mk hxy
              clear hyx hxy
              obtain ⟨adx, rfl, hx0, hx1, hx2, hx3, hx4⟩ := at_T61 hA 0 (by decide) (by simp)
              have LTx := Aside0.mk (show adx.block < w.heap.size from World.block_lt_of_cell? w _ hx0)
              have cx0 : W.cell? adx = some (.int .i64 x.f0) := zh HBW hx0
              have cx1 : W.cell? ⟨adx.block, adx.off + 1, none⟩ = some (.int .i64 x.f1) := zh HBW hx1
              have cx2 : W.cell? ⟨adx.block, adx.off + 2, none⟩ = some (.float .f64 x.f2) := zh HBW hx2
              have cx3 : W.cell? ⟨adx.block, adx.off + 3, none⟩ = some (.float .f64 x.f3) := zh HBW hx3
              have cx4 : W.cell? ⟨adx.block, adx.off + 4, none⟩ = some (.int .i64 x.f4) := zh HBW hx4
              clear hx0 hx1 hx2 hx3 hx4
              obtain ⟨ady, rfl, hy0, hy1, hy2, hy3, hy4⟩ := at_T61 hB 0 (by decide) (by simp)
              have LTy := Aside0.mk (show ady.block < w.heap.size from World.block_lt_of_cell? w _ hy0)
              have cy0 : W.cell? ady = some (.int .i64 y.f0) := zh HBW hy0
              have cy1 : W.cell? ⟨ady.block, ady.off + 1, none⟩ = some (.int .i64 y.f1) := zh HBW hy1
              have cy2 : W.cell? ⟨ady.block, ady.off + 2, none⟩ = some (.float .f64 y.f2) := zh HBW hy2
              have cy3 : W.cell? ⟨ady.block, ady.off + 3, none⟩ = some (.float .f64 y.f3) := zh HBW hy3
              have cy4 : W.cell? ⟨ady.block, ady.off + 4, none⟩ = some (.int .i64 y.f4) := zh HBW hy4
              clear hy0 hy1 hy2 hy3 hy4
              clear hA hB
              simp only [pt, tkx, tky, if_true, Bool.false_eq_true, if_false, HYX.out, HXY.out, Bool.not_true, Bool.not_false]
              gi_wp2
              refine startR (n := 3) (m := 13) (S := fun w' => w'.cell? ⟨w.heap.size, 0, none⟩ = some v ∧ w'.cell? adx = some (.int .i64 x.f0) ∧ w'.cell? ⟨adx.block, adx.off + 1, none⟩ = some (.int .i64 x.f1) ∧ w'.cell? ⟨adx.block, adx.off + 2, none⟩ = some (.float .f64 x.f2) ∧ w'.cell? ⟨adx.block, adx.off + 3, none⟩ = some (.float .f64 x.f3) ∧ w'.cell? ⟨adx.block, adx.off + 4, none⟩ = some (.int .i64 x.f4) ∧ w'.cell? ady = some (.int .i64 y.f0) ∧ w'.cell? ⟨ady.block, ady.off + 1, none⟩ = some (.int .i64 y.f1) ∧ w'.cell? ⟨ady.block, ady.off + 2, none⟩ = some (.float .f64 y.f2) ∧ w'.cell? ⟨ady.block, ady.off + 3, none⟩ = some (.float .f64 y.f3) ∧ w'.cell? ⟨ady.block, ady.off + 4, none⟩ = some (.int .i64 y.f4)) (ds := []) #[false, false, false, false, false, false, false, false, false, false, false, false, false] (by kernel_rfl) (by kernel_rfl) rfl rfl ⟨e0, cx0, cx1, cx2, cx3, cx4, cy0, cy1, cy2, cy3, cy4⟩ (fun ⟨_, _, h_⟩ => h_) (fun hHeld => ?_)
              refine with_tabW dif.tab7 dif.bits7 (fun HT_ HW_ => ?_)
              have GD := KG.out
              have RD := KR.out
              have BD := KB.out
              replace GD : (World.drew W).heap[w.heap.size]? = some (.cells #[v] 30 (0, 0)) := GD
              replace RD : Kd.R k61 61 (World.drew W) w.heap.size (fun k => k ≠ Ba ∧ k ≠ Bb) v out := Kd.R_drew RD
              replace BD : BR w.heap.size Ba Bb W0.heap.size W (World.drew W) := BD.drew
              generalize World.drew W = wd at hHeld GD RD BD ⊢
              refine pz 0 30 #[true, false, false, false, false, false, false, false, false, false, false, false, false] HT_.1 ?_
              refine pz 1 31 #[true, true, false, false, false, false, false, false, false, false, false, false, false] HT_.1 ?_
              refine pz 2 32 #[true, true, true, false, false, false, false, false, false, false, false, false, false] HT_.1 ?_
              refine pz 3 33 #[true, true, true, true, false, false, false, false, false, false, false, false, false] HT_.1 ?_
              refine pz 4 34 #[true, true, true, true, true, false, false, false, false, false, false, false, false] HT_.1 ?_
              refine tz 5 35 #[true, true, true, true, true, true, false, false, false, false, false, false, false] HT_.1 HW_.1 hHeld ?_
              refine pz 6 36 #[true, true, true, true, true, true, true, false, false, false, false, false, false] HT_.1 ?_
              refine pz 7 37 #[true, true, true, true, true, true, true, true, false, false, false, false, false] HT_.1 ?_
              refine tz 8 38 #[true, true, true, true, true, true, true, true, true, false, false, false, false] HT_.1 HW_.1 hHeld ?_
              refine one_ (i := 9) (N := some 39) #[true, true, true, true, true, true, true, true, true, true, false, false, false] rfl rfl (one_of HT_.out (by kernel_rfl)) (by decide) (fun K hK => ?_)
              refine zo_ Try.func41 #[.agg #[.int .i64 x.f0, .int .i64 x.f1, .float .f64 x.f2, .float .f64 x.f3, .int .i64 x.f4], .agg #[.int .i64 y.f0, .int .i64 y.f1, .float .f64 y.f2, .float .f64 y.f3, .int .i64 y.f4]] ?_
              refine (delta_same.calls x.f0 x.f1 x.f2 x.f3 x.f4 y.f0 y.f1 y.f2 y.f3 y.f4 false _ (by rw [same_f, HSM.out])).mono ?_
              rintro e wc1 ⟨rfl, hbE⟩
              have HBE := Aside0.mk hbE
              clear hbE
              refine ⟨_, rfl, ?_⟩
              obtain ⟨z0, z1, z2, z3, z4, z5, z6, z7, z8, z9, z10⟩ := hHeld
              have BDn := BD.next HBE.out HSZ.out HLA.out HLB.out
              have GDn := (HBE.out.block _ (blk_lt GD)).trans GD
              have RDn := Kd.R_below RD HBE.out
              clear BD GD RD
              have BD := BDn
              have GD := GDn
              have RD := RDn
              clear BDn GDn RDn
              refine hK.out _ _ ⟨zh HBE z0, zh HBE z1, zh HBE z2, zh HBE z3, zh HBE z4, zh HBE z5, zh HBE z6, zh HBE z7, zh HBE z8, zh HBE z9, zh HBE z10⟩ (fun hHeld => ?_)
              clear hK K HBE z0 z1 z2 z3 z4 z5 z6 z7 z8 z9 z10
              refine nz 39 ?_
              refine pz 10 40 #[true, true, true, true, true, true, true, true, true, true, true, false, false] HT_.1 ?_
              refine pz 11 41 #[true, true, true, true, true, true, true, true, true, true, true, true, false] HT_.1 ?_
              refine pz 12 29 #[true, true, true, true, true, true, true, true, true, true, true, true, true] HT_.1 ?_
              refine done_ (done_of HT_.out (by kernel_rfl)) ?_
              have KG := Aside0.mk GD
              have KR := Aside0.mk RD
              have KB := Aside0.mk BD
              clear GD RD BD e0 cx0 cx1 cx2 cx3 cx4 cy0 cy1 cy2 cy3 cy4
              obtain ⟨e0, cx0, cx1, cx2, cx3, cx4, cy0, cy1, cy2, cy3, cy4⟩ := hHeld
              gi_wp2
              clear cx0 cx1 cx2 cx3 cx4
              refine startR (n := 3) (m := 7) (S := fun w' => w'.cell? ⟨w.heap.size, 0, none⟩ = some v ∧ w'.cell? ady = some (.int .i64 y.f0) ∧ w'.cell? ⟨ady.block, ady.off + 1, none⟩ = some (.int .i64 y.f1) ∧ w'.cell? ⟨ady.block, ady.off + 2, none⟩ = some (.float .f64 y.f2) ∧ w'.cell? ⟨ady.block, ady.off + 3, none⟩ = some (.float .f64 y.f3) ∧ w'.cell? ⟨ady.block, ady.off + 4, none⟩ = some (.int .i64 y.f4)) (ds := [6]) #[false, false, false, false, false, false, false] (by kernel_rfl) (by kernel_rfl) rfl rfl ⟨e0, cy0, cy1, cy2, cy3, cy4⟩ (fun ⟨_, _, h_⟩ => h_) (fun hHeld => ?_)
              refine with_tabW dif.tab8 dif.bits8 (fun HT_ HW_ => ?_)
              have GD := KG.out
              have RD := KR.out
              have BD := KB.out
              replace GD : (World.drew wc1).heap[w.heap.size]? = some (.cells #[v] 30 (0, 0)) := GD
              replace RD : Kd.R k61 61 (World.drew wc1) w.heap.size (fun k => k ≠ Ba ∧ k ≠ Bb) v out := Kd.R_drew RD
              replace BD : BR w.heap.size Ba Bb W0.heap.size W (World.drew wc1) := BD.drew
              generalize World.drew wc1 = we at hHeld GD RD BD ⊢
              refine tz 0 42 #[true, false, false, false, false, false, false] HT_.1 HW_.1 hHeld ?_
              refine pz 1 43 #[true, true, false, false, false, false, false] HT_.1 ?_
              refine pz 2 44 #[true, true, true, false, false, false, false] HT_.1 ?_
              refine tz 3 45 #[true, true, true, true, false, false, false] HT_.1 HW_.1 hHeld ?_
              refine one_ (i := 4) (N := some 46) #[true, true, true, true, true, false, false] rfl rfl (one_of HT_.out (by kernel_rfl)) (by decide) (fun K hK => ?_)
              refine event_step (v := .slice (some ⟨we.heap.size, 0, none⟩) 1 1) (w1 := we.alloc (.cells #[.int .i64 y.f0, .int .i64 y.f1, .float .f64 y.f2, .float .f64 y.f3, .int .i64 y.f4] 61)) (by rfl) (by go_simp) ?_
              obtain ⟨z0, z1, z2, z3, z4, z5⟩ := hHeld
              have HBA := Aside0.mk (below_alloc (Below.refl we.heap.size we) (.cells #[.int .i64 y.f0, .int .i64 y.f1, .float .f64 y.f2, .float .f64 y.f3, .int .i64 y.f4] 61))
              refine hK.out _ _ ⟨zh HBA z0, zh HBA z1, zh HBA z2, zh HBA z3, zh HBA z4, zh HBA z5⟩ (fun hHeld => ?_)
              clear hK K HBA z0 z1 z2 z3 z4 z5
              refine nz 46 ?_
              refine one_ (i := 5) (N := some 47) #[true, true, true, true, true, true, false] rfl rfl (one_of HT_.out (by kernel_rfl)) (by decide) (fun K hK => ?_)
              refine Kd.R_append_step k61 (w0 := w) w.heap.size (by rfl) (.tmp 42) (.tmp 46) 30 61 (.agg #[(.int .i64 0), (.int .i64 0), (.float .f64 0), (.float .f64 0), (.int .i64 0)]) 40 rfl Try.underlying30 info61 rfl (by decide) (by omega) v out (y) [.int .i64 y.f0, .int .i64 y.f1, .float .f64 y.f2, .float .f64 y.f3, .int .i64 y.f4] (fun k => k ≠ Ba ∧ k ≠ Bb) (fun _ => False) rfl rfl (k61_mkM _ _ _ _) (fun _ hk => hk.elim) (fun k_ hk => ⟨by have := HLA.out; have := BD.size; omega, by have := HLB.out; have := BD.size; omega⟩) RD (HBW.out.trans BD.below0) (Nat.le_trans HSZ.out BD.size) (by have := HLEN.out; omega) ?_
              intro v1 w1 ho hb1 hg hat
              have GA := box_grown GD RD hg
              have BA := BD.grown RD hg HLA.out HLB.out HSZ.out
              obtain ⟨z0, z1, z2, z3, z4, z5⟩ := hHeld
              refine hK.out _ _ ⟨cell_box GA, cell_old RD hg (Nat.le_trans HSZ.out BD.size) z1 LTy.out, cell_old RD hg (Nat.le_trans HSZ.out BD.size) z2 LTy.out, cell_old RD hg (Nat.le_trans HSZ.out BD.size) z3 LTy.out, cell_old RD hg (Nat.le_trans HSZ.out BD.size) z4 LTy.out, cell_old RD hg (Nat.le_trans HSZ.out BD.size) z5 LTy.out⟩ (fun hHeld => ?_)
              clear hK K z0 z1 z2 z3 z4 z5
              refine nz 47 ?_
              refine last_ (i := 6) (N := none) #[true, true, true, true, true, true, true] rfl rfl (one_of HT_.out (by kernel_rfl)) (by decide) (fun K hK => ?_)
              have hs_ := cell_box GA
              have hf_ := blk_frozen GA 0
              obtain ⟨A1_, c1_, e1_⟩ := Kd.R_slice ho
              refine skip_ (w1 := w1.setCell ⟨w.heap.size, 0, none⟩ v1) (by rfl) rfl (by subst e1_; go_simp) ?_
              refine hK.out _ _ ?_
              clear hK K
              refine done_ (done_of HT_.out (by kernel_rfl)) ?_
              try dsimp only [Exit.inBlock]
              refine bothPost_mk (BA.setG GA HNA.out HNB.out (Nat.le_refl _)) ?_
              refine ⟨v1, out ++ [y], box_set _ GA, R_setG GA ho, ?_, ?_⟩
              · have h_ := HOUT.out
                rw [← h_]; (conv => rhs; rw [diffL]); simp [rx, ry, tkx, tky, HYX.out, HXY.out, HSM.out]
              · have h_ := HLEN2.out
                simp only [rx, ry, pt, tkx, tky, if_true, Bool.false_eq_true, if_false, HYX.out, HXY.out, Bool.not_true, Bool.not_false, List.drop_succ_cons, List.drop_zero, List.length_cons, List.length_nil, List.length_append] at h_ ⊢
                omega
            · have HSM := Aside0.mk hsm
              clear hsm
              have HYX := Aside0.mk hyx
              have HXY := Aside0.mk hxy
              clear hyx hxy
              obtain ⟨adx, rfl, hx0, hx1, hx2, hx3, hx4⟩ := at_T61 hA 0 (by decide) (by simp)
              have LTx := Aside0.mk (show adx.block < w.heap.size from World.block_lt_of_cell? w _ hx0)
              have cx0 : W.cell? adx = some (.int .i64 x.f0) := zh HBW hx0
              have cx1 : W.cell? ⟨adx.block, adx.off + 1, none⟩ = some (.int .i64 x.f1) := zh HBW hx1
              have cx2 : W.cell? ⟨adx.block, adx.off + 2, none⟩ = some (.float .f64 x.f2) := zh HBW hx2
              have cx3 : W.cell? ⟨adx.block, adx.off + 3, none⟩ = some (.float .f64 x.f3) := zh HBW hx3
              have cx4 : W.cell? ⟨adx.block, adx.off + 4, none⟩ = some (.int .i64 x.f4) := zh HBW hx4
              clear hx0 hx1 hx2 hx3 hx4
              obtain ⟨ady, rfl, hy0, hy1, hy2, hy3, hy4⟩ := at_T61 hB 0 (by decide) (by simp)
              have LTy := Aside0.mk (show ady.block < w.heap.size from World.block_lt_of_cell? w _ hy0)
              have cy0 : W.cell? ady = some (.int .i64 y.f0) := zh HBW hy0
              have cy1 : W.cell? ⟨ady.block, ady.off + 1, none⟩ = some (.int .i64 y.f1) := zh HBW hy1
              have cy2 : W.cell? ⟨ady.block, ady.off + 2, none⟩ = some (.float .f64 y.f2) := zh HBW hy2
              have cy3 : W.cell? ⟨ady.block, ady.off + 3, none⟩ = some (.float .f64 y.f3) := zh HBW hy3
              have cy4 : W.cell? ⟨ady.block, ady.off + 4, none⟩ = some (.int .i64 y.f4) := zh HBW hy4
              clear hy0 hy1 hy2 hy3 hy4
              clear hA hB
              simp only [pt, tkx, tky, if_true, Bool.false_eq_true, if_false, HYX.out, HXY.out, Bool.not_true, Bool.not_false]
              gi_wp2
              refine startR (n := 3) (m := 13) (S := fun w' => w'.cell? ⟨w.heap.size, 0, none⟩ = some v ∧ w'.cell? adx = some (.int .i64 x.f0) ∧ w'.cell? ⟨adx.block, adx.off + 1, none⟩ = some (.int .i64 x.f1) ∧ w'.cell? ⟨adx.block, adx.off + 2, none⟩ = some (.float .f64 x.f2) ∧ w'.cell? ⟨adx.block, adx.off + 3, none⟩ = some (.float .f64 x.f3) ∧ w'.cell? ⟨adx.block, adx.off + 4, none⟩ = some (.int .i64 x.f4) ∧ w'.cell? ady = some (.int .i64 y.f0) ∧ w'.cell? ⟨ady.block, ady.off + 1, none⟩ = some (.int .i64 y.f1) ∧ w'.cell? ⟨ady.block, ady.off + 2, none⟩ = some (.float .f64 y.f2) ∧ w'.cell? ⟨ady.block, ady.off + 3, none⟩ = some (.float .f64 y.f3) ∧ w'.cell? ⟨ady.block, ady.off + 4, none⟩ = some (.int .i64 y.f4)) (ds := []) #[false, false, false, false, false, false, false, false, false, false, false, false, false] (by kernel_rfl) (by kernel_rfl) rfl rfl ⟨e0, cx0, cx1, cx2, cx3, cx4, cy0, cy1, cy2, cy3, cy4⟩ (fun ⟨_, _, h_⟩ => h_) (fun hHeld => ?_)
              refine with_tabW dif.tab7 dif.bits7 (fun HT_ HW_ => ?_)
              have GD := KG.out
              have RD := KR.out
              have BD := KB.out
              replace GD : (World.drew W).heap[w.heap.size]? = some (.cells #[v] 30 (0, 0)) := GD
              replace RD : Kd.R k61 61 (World.drew W) w.heap.size (fun k => k ≠ Ba ∧ k ≠ Bb) v out := Kd.R_drew RD
              replace BD : BR w.heap.size Ba Bb W0.heap.size W (World.drew W) := BD.drew
              generalize World.drew W = wd at hHeld GD RD BD ⊢
              refine pz 0 30 #[true, false, false, false, false, false, false, false, false, false, false, false, false] HT_.1 ?_
              refine pz 1 31 #[true, true, false, false, false, false, false, false, false, false, false, false, false] HT_.1 ?_
              refine pz 2 32 #[true, true, true, false, false, false, false, false, false, false, false, false, false] HT_.1 ?_
              refine pz 3 33 #[true, true, true, true, false, false, false, false, false, false, false, false, false] HT_.1 ?_
              refine pz 4 34 #[true, true, true, true, true, false, false, false, false, false, false, false, false] HT_.1 ?_
              refine tz 5 35 #[true, true, true, true, true, true, false, false, false, false, false, false, false] HT_.1 HW_.1 hHeld ?_
              refine pz 6 36 #[true, true, true, true, true, true, true, false, false, false, false, false, false] HT_.1 ?_
              refine pz 7 37 #[true, true, true, true, true, true, true, true, false, false, false, false, false] HT_.1 ?_
              refine tz 8 38 #[true, true, true, true, true, true, true, true, true, false, false, false, false] HT_.1 HW_.1 hHeld ?_
              refine one_ (i := 9) (N := some 39) #[true, true, true, true, true, true, true, true, true, true, false, false, false] rfl rfl (one_of HT_.out (by kernel_rfl)) (by decide) (fun K hK => ?_)
              refine zo_ Try.func41 #[.agg #[.int .i64 x.f0, .int .i64 x.f1, .float .f64 x.f2, .float .f64 x.f3, .int .i64 x.f4], .agg #[.int .i64 y.f0, .int .i64 y.f1, .float .f64 y.f2, .float .f64 y.f3, .int .i64 y.f4]] ?_
              refine (delta_same.calls x.f0 x.f1 x.f2 x.f3 x.f4 y.f0 y.f1 y.f2 y.f3 y.f4 true _ (by rw [same_f, HSM.out])).mono ?_
              rintro e wc1 ⟨rfl, hbE⟩
              have HBE := Aside0.mk hbE
              clear hbE
              refine ⟨_, rfl, ?_⟩
              obtain ⟨z0, z1, z2, z3, z4, z5, z6, z7, z8, z9, z10⟩ := hHeld
              have BDn := BD.next HBE.out HSZ.out HLA.out HLB.out
              have GDn := (HBE.out.block _ (blk_lt GD)).trans GD
              have RDn := Kd.R_below RD HBE.out
              clear BD GD RD
              have BD := BDn
              have GD := GDn
              have RD := RDn
              clear BDn GDn RDn
              refine hK.out _ _ ⟨zh HBE z0, zh HBE z1, zh HBE z2, zh HBE z3, zh HBE z4, zh HBE z5, zh HBE z6, zh HBE z7, zh HBE z8, zh HBE z9, zh HBE z10⟩ (fun hHeld => ?_)
              clear hK K HBE z0 z1 z2 z3 z4 z5 z6 z7 z8 z9 z10
              refine nz 39 ?_
              refine pz 10 40 #[true, true, true, true, true, true, true, true, true, true, true, false, false] HT_.1 ?_
              refine pz 11 41 #[true, true, true, true, true, true, true, true, true, true, true, true, false] HT_.1 ?_
              refine pz 12 29 #[true, true, true, true, true, true, true, true, true, true, true, true, true] HT_.1 ?_
              refine done_ (done_of HT_.out (by kernel_rfl)) ?_
              have KG := Aside0.mk GD
              have KR := Aside0.mk RD
              have KB := Aside0.mk BD
              clear GD RD BD e0 cx0 cx1 cx2 cx3 cx4 cy0 cy1 cy2 cy3 cy4
              obtain ⟨e0, cx0, cx1, cx2, cx3, cx4, cy0, cy1, cy2, cy3, cy4⟩ := hHeld
              gi_wp2
              try dsimp only [Exit.inBlock]
              refine bothPost_mk KB.out ?_
              refine ⟨v, out, KG.out, KR.out, ?_, ?_⟩
              · have h_ := HOUT.out
                rw [← h_]; (conv => rhs; rw [diffL]); simp [rx, ry, tkx, tky, HYX.out, HXY.out, HSM.out]
              · have h_ := HLEN2.out
                simp only [rx, ry, pt, tkx, tky, if_true, Bool.false_eq_true, if_false, HYX.out, HXY.out, Bool.not_true, Bool.not_false, List.drop_succ_cons, List.drop_zero, List.length_cons, List.length_nil, List.length_append] at h_ ⊢
                omega
          · have HYX := Aside0.mk hyx
            have HXY := Aside0.mk hxy
            clear hyx hxy
            obtain ⟨adx, rfl, hx0, hx1, hx2, hx3, hx4⟩ := at_T61 hA 0 (by decide) (by simp)
            have LTx := Aside0.mk (show adx.block < w.heap.size from World.block_lt_of_cell? w _ hx0)
            have cx0 : W.cell? adx = some (.int .i64 x.f0) := zh HBW hx0
            have cx1 : W.cell? ⟨adx.block, adx.off + 1, none⟩ = some (.int .i64 x.f1) := zh HBW hx1
            have cx2 : W.cell? ⟨adx.block, adx.off + 2, none⟩ = some (.float .f64 x.f2) := zh HBW hx2
            have cx3 : W.cell? ⟨adx.block, adx.off + 3, none⟩ = some (.float .f64 x.f3) := zh HBW hx3
            have cx4 : W.cell? ⟨adx.block, adx.off + 4, none⟩ = some (.int .i64 x.f4) := zh HBW hx4
            clear hx0 hx1 hx2 hx3 hx4
            clear hA hB
            simp only [pt, tkx, tky, if_true, Bool.false_eq_true, if_false, HYX.out, HXY.out, Bool.not_true, Bool.not_false]
            gi_wp2
            refine startR (n := 3) (m := 14) (S := fun w' => w'.cell? ⟨w.heap.size, 0, none⟩ = some v ∧ w'.cell? adx = some (.int .i64 x.f0) ∧ w'.cell? ⟨adx.block, adx.off + 1, none⟩ = some (.int .i64 x.f1) ∧ w'.cell? ⟨adx.block, adx.off + 2, none⟩ = some (.float .f64 x.f2) ∧ w'.cell? ⟨adx.block, adx.off + 3, none⟩ = some (.float .f64 x.f3) ∧ w'.cell? ⟨adx.block, adx.off + 4, none⟩ = some (.int .i64 x.f4)) (ds := [13]) #[false, false, false, false, false, false, false, false, false, false, false, false, false, false] (by kernel_rfl) (by kernel_rfl) rfl rfl ⟨e0, cx0, cx1, cx2, cx3, cx4⟩ (fun ⟨_, _, h_⟩ => h_) (fun hHeld => ?_)
            refine with_tabW dif.tab6 dif.bits6 (fun HT_ HW_ => ?_)
            have GD := KG.out
            have RD := KR.out
            have BD := KB.out
            replace GD : (World.drew W).heap[w.heap.size]? = some (.cells #[v] 30 (0, 0)) := GD
            replace RD : Kd.R k61 61 (World.drew W) w.heap.size (fun k => k ≠ Ba ∧ k ≠ Bb) v out := Kd.R_drew RD
            replace BD : BR w.heap.size Ba Bb W0.heap.size W (World.drew W) := BD.drew
            generalize World.drew W = wd at hHeld GD RD BD ⊢
            refine tz 0 16 #[true, false, false, false, false, false, false, false, false, false, false, false, false, false] HT_.1 HW_.1 hHeld ?_
            refine pz 1 17 #[true, true, false, false, false, false, false, false, false, false, false, false, false, false] HT_.1 ?_
            refine pz 2 18 #[true, true, true, false, false, false, false, false, false, false, false, false, false, false] HT_.1 ?_
            refine pz 3 19 #[true, true, true, true, false, false, false, false, false, false, false, false, false, false] HT_.1 ?_
            refine tz 4 20 #[true, true, true, true, true, false, false, false, false, false, false, false, false, false] HT_.1 HW_.1 hHeld ?_
            refine pz 5 21 #[true, true, true, true, true, true, false, false, false, false, false, false, false, false] HT_.1 ?_
            refine pz 6 22 #[true, true, true, true, true, true, true, false, false, false, false, false, false, false] HT_.1 ?_
            refine pz 7 23 #[true, true, true, true, true, true, true, true, false, false, false, false, false, false] HT_.1 ?_
            refine tz 8 24 #[true, true, true, true, true, true, true, true, true, false, false, false, false, false] HT_.1 HW_.1 hHeld ?_
            refine one_ (i := 9) (N := some 25) #[true, true, true, true, true, true, true, true, true, true, false, false, false, false] rfl rfl (one_of HT_.out (by kernel_rfl)) (by decide) (fun K hK => ?_)
            refine zo_ Try.func44 #[.int .i64 1] ?_
            refine (math_Inf.calls 1 (ffrom 9218868437227405312) _ (by simp [math_Inf.f])).mono ?_
            rintro e wc1 ⟨rfl, hdr⟩
            have HBE := Aside0.mk (hdr.below)
            clear hdr
            refine ⟨_, rfl, ?_⟩
            obtain ⟨z0, z1, z2, z3, z4, z5⟩ := hHeld
            have BDn := BD.next HBE.out HSZ.out HLA.out HLB.out
            have GDn := (HBE.out.block _ (blk_lt GD)).trans GD
            have RDn := Kd.R_below RD HBE.out
            clear BD GD RD
            have BD := BDn
            have GD := GDn
            have RD := RDn
            clear BDn GDn RDn
            refine hK.out _ _ ⟨zh HBE z0, zh HBE z1, zh HBE z2, zh HBE z3, zh HBE z4, zh HBE z5⟩ (fun hHeld => ?_)
            clear hK K HBE z0 z1 z2 z3 z4 z5
            refine nz 25 ?_
            refine pz 10 26 #[true, true, true, true, true, true, true, true, true, true, true, false, false, false] HT_.1 ?_
            refine one_ (i := 11) (N := some 27) #[true, true, true, true, true, true, true, true, true, true, true, true, false, false] rfl rfl (one_of HT_.out (by kernel_rfl)) (by decide) (fun K hK => ?_)
            refine event_step (v := .slice (some ⟨wc1.heap.size, 0, none⟩) 1 1) (w1 := wc1.alloc (.cells #[.int .i64 x.f0, .int .i64 x.f1, .float .f64 (ffrom 9218868437227405312), .float .f64 0, .int .i64 0] 61)) (by rfl) (by go_simp) ?_
            obtain ⟨z0, z1, z2, z3, z4, z5⟩ := hHeld
            have HBA := Aside0.mk (below_alloc (Below.refl wc1.heap.size wc1) (.cells #[.int .i64 x.f0, .int .i64 x.f1, .float .f64 (ffrom 9218868437227405312), .float .f64 0, .int .i64 0] 61))
            refine hK.out _ _ ⟨zh HBA z0, zh HBA z1, zh HBA z2, zh HBA z3, zh HBA z4, zh HBA z5⟩ (fun hHeld => ?_)
            clear hK K HBA z0 z1 z2 z3 z4 z5
            refine nz 27 ?_
            refine one_ (i := 12) (N := some 28) #[true, true, true, true, true, true, true, true, true, true, true, true, true, false] rfl rfl (one_of HT_.out (by kernel_rfl)) (by decide) (fun K hK => ?_)
            refine Kd.R_append_step k61 (w0 := w) w.heap.size (by rfl) (.tmp 16) (.tmp 27) 30 61 (.agg #[(.int .i64 0), (.int .i64 0), (.float .f64 0), (.float .f64 0), (.int .i64 0)]) 40 rfl Try.underlying30 info61 rfl (by decide) (by omega) v out (gone x) [.int .i64 x.f0, .int .i64 x.f1, .float .f64 (ffrom 9218868437227405312), .float .f64 0, .int .i64 0] (fun k => k ≠ Ba ∧ k ≠ Bb) (fun _ => False) rfl rfl (k61_mkM _ _ _ _) (fun _ hk => hk.elim) (fun k_ hk => ⟨by have := HLA.out; have := BD.size; omega, by have := HLB.out; have := BD.size; omega⟩) RD (HBW.out.trans BD.below0) (Nat.le_trans HSZ.out BD.size) (by have := HLEN.out; omega) ?_
            intro v1 w1 ho hb1 hg hat
            have GA := box_grown GD RD hg
            have BA := BD.grown RD hg HLA.out HLB.out HSZ.out
            obtain ⟨z0, z1, z2, z3, z4, z5⟩ := hHeld
            refine hK.out _ _ ⟨cell_box GA, cell_old RD hg (Nat.le_trans HSZ.out BD.size) z1 LTx.out, cell_old RD hg (Nat.le_trans HSZ.out BD.size) z2 LTx.out, cell_old RD hg (Nat.le_trans HSZ.out BD.size) z3 LTx.out, cell_old RD hg (Nat.le_trans HSZ.out BD.size) z4 LTx.out, cell_old RD hg (Nat.le_trans HSZ.out BD.size) z5 LTx.out⟩ (fun hHeld => ?_)
            clear hK K z0 z1 z2 z3 z4 z5
            refine nz 28 ?_
            refine last_ (i := 13) (N := none) #[true, true, true, true, true, true, true, true, true, true, true, true, true, true] rfl rfl (one_of HT_.out (by kernel_rfl)) (by decide) (fun K hK => ?_)
            have hs_ := cell_box GA
            have hf_ := blk_frozen GA 0
            obtain ⟨A1_, c1_, e1_⟩ := Kd.R_slice ho
            refine skip_ (w1 := w1.setCell ⟨w.heap.size, 0, none⟩ v1) (by rfl) rfl (by subst e1_; go_simp) ?_
            refine hK.out _ _ ?_
            clear hK K
            refine done_ (done_of HT_.out (by kernel_rfl)) ?_
            try dsimp only [Exit.inBlock]
            refine bothPost_mk (BA.setG GA HNA.out HNB.out (Nat.le_refl _)) ?_
            refine ⟨v1, out ++ [gone x], box_set _ GA, R_setG GA ho, ?_, ?_⟩
            · have h_ := HOUT.out
              rw [← h_]; (conv => rhs; rw [diffL]); simp [rx, ry, tkx, tky, HYX.out, HXY.out]
            · have h_ := HLEN2.out
              simp only [rx, ry, pt, tkx, tky, if_true, Bool.false_eq_true, if_false, HYX.out, HXY.out, Bool.not_true, Bool.not_false, List.drop_succ_cons, List.drop_zero, List.length_cons, List.length_nil, List.length_append] at h_ ⊢
              omega
        · have hxy := ahB_asymm hyx
          have HYX := Aside0.mk hyx
          have HXY := Aside0.mk hxy
          clear hyx hxy
          obtain ⟨ady, rfl, hy0, hy1, hy2, hy3, hy4⟩ := at_T61 hB 0 (by decide) (by simp)
          have LTy := Aside0.mk (show ady.block < w.heap.size from World.block_lt_of_cell? w _ hy0)
          have cy0 : W.cell? ady = some (.int .i64 y.f0) := zh HBW hy0
          have cy1 : W.cell? ⟨ady.block, ady.off + 1, none⟩ = some (.int .i64 y.f1) := zh HBW hy1
          have cy2 : W.cell? ⟨ady.block, ady.off + 2, none⟩ = some (.float .f64 y.f2) := zh HBW hy2
          have cy3 : W.cell? ⟨ady.block, ady.off + 3, none⟩ = some (.float .f64 y.f3) := zh HBW hy3
          have cy4 : W.cell? ⟨ady.block, ady.off + 4, none⟩ = some (.int .i64 y.f4) := zh HBW hy4
          clear hy0 hy1 hy2 hy3 hy4
          clear hA hB
          simp only [pt, tkx, tky, if_true, Bool.false_eq_true, if_false, HYX.out, HXY.out, Bool.not_true, Bool.not_false]
          gi_wp2
          refine startR (n := 3) (m := 13) (S := fun w' => w'.cell? ⟨w.heap.size, 0, none⟩ = some v ∧ w'.cell? ady = some (.int .i64 y.f0) ∧ w'.cell? ⟨ady.block, ady.off + 1, none⟩ = some (.int .i64 y.f1) ∧ w'.cell? ⟨ady.block, ady.off + 2, none⟩ = some (.float .f64 y.f2) ∧ w'.cell? ⟨ady.block, ady.off + 3, none⟩ = some (.float .f64 y.f3) ∧ w'.cell? ⟨ady.block, ady.off + 4, none⟩ = some (.int .i64 y.f4)) (ds := []) #[false, false, false, false, false, false, false, false, false, false, false, false, false] (by kernel_rfl) (by kernel_rfl) rfl rfl ⟨e0, cy0, cy1, cy2, cy3, cy4⟩ (fun ⟨_, _, h_⟩ => h_) (fun hHeld => ?_)
          refine with_tabW dif.tab7 dif.bits7 (fun HT_ HW_ => ?_)
          have GD := KG.out
          have RD := KR.out
          have BD := KB.out
          replace GD : (World.drew W).heap[w.heap.size]? = some (.cells #[v] 30 (0, 0)) := GD
          replace RD : Kd.R k61 61 (World.drew W) w.heap.size (fun k => k ≠ Ba ∧ k ≠ Bb) v out := Kd.R_drew RD
          replace BD : BR w.heap.size Ba Bb W0.heap.size W (World.drew W) := BD.drew
          generalize World.drew W = wd at hHeld GD RD BD ⊢
          refine pz 0 30 #[true, false, false, false, false, false, false, false, false, false, false, false, false] HT_.1 ?_
          refine pz 1 31 #[true, true, false, false, false, false, false, false, false, false, false, false, false] HT_.1 ?_
          refine pz 2 32 #[true, true, true, false, false, false, false, false, false, false, false, false, false] HT_.1 ?_
          refine pu 3 33 #[true, true, true, true, false, false, false, false, false, false, false, false, false] HT_.1 ?_
          refine pu 4 34 #[true, true, true, true, true, false, false, false, false, false, false, false, false] HT_.1 ?_
          refine pu 5 35 #[true, true, true, true, true, true, false, false, false, false, false, false, false] HT_.1 ?_
          refine pu 6 36 #[true, true, true, true, true, true, true, false, false, false, false, false, false] HT_.1 ?_
          refine pu 7 37 #[true, true, true, true, true, true, true, true, false, false, false, false, false] HT_.1 ?_
          refine pu 8 38 #[true, true, true, true, true, true, true, true, true, false, false, false, false] HT_.1 ?_
          refine pu 9 39 #[true, true, true, true, true, true, true, true, true, true, false, false, false] HT_.1 ?_
          refine pu 10 40 #[true, true, true, true, true, true, true, true, true, true, true, false, false] HT_.1 ?_
          refine pz 11 41 #[true, true, true, true, true, true, true, true, true, true, true, true, false] HT_.1 ?_
          refine pz 12 29 #[true, true, true, true, true, true, true, true, true, true, true, true, true] HT_.1 ?_
          refine done_ (done_of HT_.out (by kernel_rfl)) ?_
          have KG := Aside0.mk GD
          have KR := Aside0.mk RD
          have KB := Aside0.mk BD
          clear GD RD BD e0 cy0 cy1 cy2 cy3 cy4
          obtain ⟨e0, cy0, cy1, cy2, cy3, cy4⟩ := hHeld
          gi_wp2
          refine startR (n := 3) (m := 7) (S := fun w' => w'.cell? ⟨w.heap.size, 0, none⟩ = some v ∧ w'.cell? ady = some (.int .i64 y.f0) ∧ w'.cell? ⟨ady.block, ady.off + 1, none⟩ = some (.int .i64 y.f1) ∧ w'.cell? ⟨ady.block, ady.off + 2, none⟩ = some (.float .f64 y.f2) ∧ w'.cell? ⟨ady.block, ady.off + 3, none⟩ = some (.float .f64 y.f3) ∧ w'.cell? ⟨ady.block, ady.off + 4, none⟩ = some (.int .i64 y.f4)) (ds := [6]) #[false, false, false, false, false, false, false] (by kernel_rfl) (by kernel_rfl) rfl rfl ⟨e0, cy0, cy1, cy2, cy3, cy4⟩ (fun ⟨_, _, h_⟩ => h_) (fun hHeld => ?_)
          refine with_tabW dif.tab8 dif.bits8 (fun HT_ HW_ => ?_)
          have GD := KG.out
          have RD := KR.out
          have BD := KB.out
          replace GD : (World.drew wd).heap[w.heap.size]? = some (.cells #[v] 30 (0, 0)) := GD
          replace RD : Kd.R k61 61 (World.drew wd) w.heap.size (fun k => k ≠ Ba ∧ k ≠ Bb) v out := Kd.R_drew RD
          replace BD : BR w.heap.size Ba Bb W0.heap.size W (World.drew wd) := BD.drew
          generalize World.drew wd = we at hHeld GD RD BD ⊢
          refine tz 0 42 #[true, false, false, false, false, false, false] HT_.1 HW_.1 hHeld ?_
          refine pz 1 43 #[true, true, false, false, false, false, false] HT_.1 ?_
          refine pz 2 44 #[true, true, true, false, false, false, false] HT_.1 ?_
          refine tz 3 45 #[true, true, true, true, false, false, false] HT_.1 HW_.1 hHeld ?_
          refine one_ (i := 4) (N := some 46) #[true, true, true, true, true, false, false] rfl rfl (one_of HT_.out (by kernel_rfl)) (by decide) (fun K hK => ?_)
          refine event_step (v := .slice (some ⟨we.heap.size, 0, none⟩) 1 1) (w1 := we.alloc (.cells #[.int .i64 y.f0, .int .i64 y.f1, .float .f64 y.f2, .float .f64 y.f3, .int .i64 y.f4] 61)) (by rfl) (by go_simp) ?_
          obtain ⟨z0, z1, z2, z3, z4, z5⟩ := hHeld
          have HBA := Aside0.mk (below_alloc (Below.refl we.heap.size we) (.cells #[.int .i64 y.f0, .int .i64 y.f1, .float .f64 y.f2, .float .f64 y.f3, .int .i64 y.f4] 61))
          refine hK.out _ _ ⟨zh HBA z0, zh HBA z1, zh HBA z2, zh HBA z3, zh HBA z4, zh HBA z5⟩ (fun hHeld => ?_)
          clear hK K HBA z0 z1 z2 z3 z4 z5
          refine nz 46 ?_
          refine one_ (i := 5) (N := some 47) #[true, true, true, true, true, true, false] rfl rfl (one_of HT_.out (by kernel_rfl)) (by decide) (fun K hK => ?_)
          refine Kd.R_append_step k61 (w0 := w) w.heap.size (by rfl) (.tmp 42) (.tmp 46) 30 61 (.agg #[(.int .i64 0), (.int .i64 0), (.float .f64 0), (.float .f64 0), (.int .i64 0)]) 40 rfl Try.underlying30 info61 rfl (by decide) (by omega) v out (y) [.int .i64 y.f0, .int .i64 y.f1, .float .f64 y.f2, .float .f64 y.f3, .int .i64 y.f4] (fun k => k ≠ Ba ∧ k ≠ Bb) (fun _ => False) rfl rfl (k61_mkM _ _ _ _) (fun _ hk => hk.elim) (fun k_ hk => ⟨by have := HLA.out; have := BD.size; omega, by have := HLB.out; have := BD.size; omega⟩) RD (HBW.out.trans BD.below0) (Nat.le_trans HSZ.out BD.size) (by have := HLEN.out; omega) ?_
          intro v1 w1 ho hb1 hg hat
          have GA := box_grown GD RD hg
          have BA := BD.grown RD hg HLA.out HLB.out HSZ.out
          obtain ⟨z0, z1, z2, z3, z4, z5⟩ := hHeld
          refine hK.out _ _ ⟨cell_box GA, cell_old RD hg (Nat.le_trans HSZ.out BD.size) z1 LTy.out, cell_old RD hg (Nat.le_trans HSZ.out BD.size) z2 LTy.out, cell_old RD hg (Nat.le_trans HSZ.out BD.size) z3 LTy.out, cell_old RD hg (Nat.le_trans HSZ.out BD.size) z4 LTy.out, cell_old RD hg (Nat.le_trans HSZ.out BD.size) z5 LTy.out⟩ (fun hHeld => ?_)
          clear hK K z0 z1 z2 z3 z4 z5
          refine nz 47 ?_
          refine last_ (i := 6) (N := none) #[true, true, true, true, true, true, true] rfl rfl (one_of HT_.out (by kernel_rfl)) (by decide) (fun K hK => ?_)
          have hs_ := cell_box GA
          have hf_ := blk_frozen GA 0
          obtain ⟨A1_, c1_, e1_⟩ := Kd.R_slice ho
          refine skip_ (w1 := w1.setCell ⟨w.heap.size, 0, none⟩ v1) (by rfl) rfl (by subst e1_; go_simp) ?_
          refine hK.out _ _ ?_
          clear hK K
          refine done_ (done_of HT_.out (by kernel_rfl)) ?_
          try dsimp only [Exit.inBlock]
          refine bothPost_mk (BA.setG GA HNA.out HNB.out (Nat.le_refl _)) ?_
          refine ⟨v1, out ++ [y], box_set _ GA, R_setG GA ho, ?_, ?_⟩
          · have h_ := HOUT.out
            rw [← h_]; (conv => rhs; rw [diffL]); simp [rx, ry, tkx, tky, HYX.out, HXY.out]
          · have h_ := HLEN2.out
            simp only [rx, ry, pt, tkx, tky, if_true, Bool.false_eq_true, if_false, HYX.out, HXY.out, Bool.not_true, Bool.not_false, List.drop_succ_cons, List.drop_zero, List.length_cons, List.length_nil, List.length_append] at h_ ⊢
            omega
set_option maxRecDepth 100000 in
set_option maxHeartbeats 8000000 in
theorem merge_calls (A0 : Option Addr) (c0 : Nat) (l0 : List S61) (A1 : Option Addr) (c1 : Nat) (l1 : List S61) (w : World) (hr0 : Kd.C k61 w A0 l0.length l0) (hc0 : l0.length ≤ c0) (hr1 : Kd.C k61 w A1 l1.length l1) (hc1 : l1.length ≤ c1) (hbnd : l0.length + l1.length < 3518437208882) :
    Calls Try.prog 34 #[.slice A0 l0.length c0, .slice A1 l1.length c1] w fun e w' => ∃ v0_ : Value, e = .returned v0_ ∧ Kd.R k61 61 w' w.heap.size (fun _ => True) v0_ (mergeL l0 l1) ∧ Below w.heap.size w w' := by
  refine (callsIn_wide (n := 5)).1 ?_
  refine callsIn_of_wp_marks Try.func34 rfl trivial ?_ rfl
  simp only [Try.ntmps34, List.size_toArray, List.length_cons, List.length_nil, Nat.reduceAdd, Nat.reduceSub, Array.replicate_succ, Array.replicate_zero, List.push_toArray, List.append_toArray, List.nil_append, List.cons_append]
  gi_wp2_with (refine ⟨trivial, ?_⟩; gi_at_call 43; refine (callsIn_wide.2 (both_any _ _ _ _ _ _ _)).mono ?_; rintro e w' ⟨rfl, rfl⟩)
  obtain ⟨Ba, hBa⟩ : ∃ Ba, Ba = w.heap.size + 1 := ⟨_, rfl⟩
  obtain ⟨Bb, hBb⟩ : ∃ Bb, Bb = w.heap.size + 1 + 1 := ⟨_, rfl⟩
  obtain ⟨W0, hW0⟩ : ∃ W0, ((w.alloc (.cells #[.slice none 0 0] 30)).alloc (.cells #[.slice A0 l0.length c0] 30)).alloc (.cells #[.slice A1 l1.length c1] 30) = W0 := ⟨_, rfl⟩
  have b0 : W0.heap[w.heap.size]? = some (.cells #[.slice none 0 0] 30 (0, 0)) := by
    rw [← hW0]; exact (Below.heap_alloc _ _ _ (by simp; omega)).trans ((Below.heap_alloc _ _ _ (by simp)).trans (blk_new w _))
  have b1 : W0.heap[Ba]? = some (.cells #[.slice A0 l0.length c0] 30 (0, 0)) := by
    rw [← hW0, hBa]; refine (Below.heap_alloc _ _ _ (by simp)).trans ?_
    have h_ := blk_new (w.alloc (.cells #[.slice none 0 0] 30)) (.cells #[.slice A0 l0.length c0] 30)
    rwa [World.size_alloc] at h_
  have b2 : W0.heap[Bb]? = some (.cells #[.slice A1 l1.length c1] 30 (0, 0)) := by
    rw [← hW0, hBb]
    have h_ := blk_new ((w.alloc (.cells #[.slice none 0 0] 30)).alloc (.cells #[.slice A0 l0.length c0] 30)) (.cells #[.slice A1 l1.length c1] 30)
    rwa [World.size_alloc, World.size_alloc] at h_
  have hbW : Below w.heap.size w W0 := by rw [← hW0]; exact below_alloc (below_alloc (below_alloc (Below.refl _ _) _) _) _
  have hs0 : W0.heap.size = w.heap.size + 3 := by rw [← hW0]; simp
  rw [hW0]
  refine wpIn_both (w0 := w) (Ba := w.heap.size + 1) (Bb := w.heap.size + 1 + 1) rfl rfl (by omega) (by omega) (by omega) (by omega) (by omega) A0 A1 c0 c1 l0 l1 hr0 hr1 hc0 hc1 hbW (hBa ▸ b1) (hBb ▸ b2)
    (fun xs ys W => ∃ v out, W.heap[w.heap.size]? = some (.cells #[v] 30 (0, 0)) ∧ Kd.R k61 61 W w.heap.size (fun k => k ≠ Ba ∧ k ≠ Bb) v out ∧ out ++ mergeL xs ys = mergeL l0 l1 ∧ out.length + (xs.length + ys.length) ≤ l0.length + l1.length)
    ?hI ⟨_, [], b0, Kd.R_nil _ _ _ _ _, by simp, by simp⟩
    (fun x y => { tmps := #[Value.slice A0 l0.length c0, Value.slice A1 l1.length c1, undef, undef, Value.slice none 0 0, Value.pointer (some ⟨w.heap.size, 0, none⟩), x, y, Value.slice A0 l0.length c0, Value.slice A1 l1.length c1, Value.func (Fn.func 52) #[] #[.pointer (some ⟨w.heap.size + 1, 0, none⟩), .pointer (some ⟨w.heap.size + 1 + 1, 0, none⟩)], x, y, undef, undef, undef, undef, undef, undef, undef, undef, undef, undef, undef, undef, undef, undef, undef, undef, undef, undef, undef, undef, undef, undef, undef], defers := [] }) ?assign ?body ?done
  case hI =>
    rintro xs ys W W' hS ⟨v, out, h1, h2, h3⟩
    rw [← hBb, ← hBa] at hS
    exact ⟨v, out, hS.same _ _ _ _ h1 (by omega) (by omega), R_soft hS h2, h3⟩
  case assign =>
    intro l x y W K hK
    rw [fold2]
    gi_wp2
    exact hK
  case done =>
    rintro D W hD ⟨v, out, h1, h2, h3, h4⟩ hb hK
    obtain ⟨A_, c_, e_⟩ := Kd.R_slice h2
    subst e_
    have hc_ := cell_box h1
    have H3 := Aside0.mk h3
    have HDD := Aside0.mk (show w.heap.size ≤ D by omega)
    clear h3 h4 b0 b1 b2 hs0
    gi_wp2
    refine ⟨by simp, .inl ⟨_, _, rfl, run_takeDeferred hK, ?_⟩⟩
    refine ⟨_, results_tmp rfl _ _ _, _, rfl, ?_, hb.trans (below_putObj HDD.out)⟩
    have h5 : out = mergeL l0 l1 := by have h6 := H3.out; simpa [mergeL] using h6
    rw [← h5]
    exact Kd.R_mono (R_soft (Soft.putObj (base := w.heap.size) _ HDD.out hK rfl) h2) (fun _ _ => trivial)
  case body =>
    rintro l xs ys A B W ⟨v, out, hG, hR, hout, hlen⟩ hbw hA hB hnon ⟨va, hxa⟩ ⟨vb, hxb⟩
    rw [← hBb] at hxb
    rw [← hBa] at hxa
    rw [← hBb, ← hBa]
    have HBW := Aside0.mk hbw
    have HSZ := Aside0.mk hbw.size
    have HLA := Aside0.mk (blk_lt hxa)
    have HLB := Aside0.mk (blk_lt hxb)
    have HNA := Aside0.mk (show Ba ≠ w.heap.size by omega)
    have HNB := Aside0.mk (show Bb ≠ w.heap.size by omega)
    have KG := Aside0.mk hG
    have KR := Aside0.mk hR
    have KB := Aside0.mk (BR.refl w.heap.size Ba Bb W0.heap.size W)
    have HOUT := Aside0.mk hout
    have HLEN2 := Aside0.mk hlen
    have e0 := cell_box hG
    have HNON := Aside0.mk hnon
    have HLEN : Aside0 ((out.length + 1) * 40 ≤ 140737488355328) := ⟨by
      have : 1 ≤ xs.length + ys.length := by
        rcases hnon with h | h
        · have := List.length_pos_iff.2 h; omega
        · have := List.length_pos_iff.2 h; omega
      omega⟩
    clear hbw hxa hxb hG hR hout hlen hnon b0 b1 b2 hbW hs0 hW0 hr0 hr1 hc0 hc1 hbnd hBa hBb
    cases xs with
    | nil =>
      cases ys with
      | nil => exact absurd HNON.out (by simp)
      | cons y ys =>
        cases hin : infB y
        · have HIN := Aside0.mk hin
          clear hin
          obtain ⟨ady, rfl, hy0, hy1, hy2, hy3, hy4⟩ := at_T61 hB 0 (by decide) (by simp)
          have LTy := Aside0.mk (show ady.block < w.heap.size from World.block_lt_of_cell? w _ hy0)
          have cy0 : W.cell? ady = some (.int .i64 y.f0) := zh HBW hy0
          have cy1 : W.cell? ⟨ady.block, ady.off + 1, none⟩ = some (.int .i64 y.f1) := zh HBW hy1
          have cy2 : W.cell? ⟨ady.block, ady.off + 2, none⟩ = some (.float .f64 y.f2) := zh HBW hy2
          have cy3 : W.cell? ⟨ady.block, ady.off + 3, none⟩ = some (.float .f64 y.f3) := zh HBW hy3
          have cy4 : W.cell? ⟨ady.block, ady.off + 4, none⟩ = some (.int .i64 y.f4) := zh HBW hy4
          clear hy0 hy1 hy2 hy3 hy4
          clear hA hB
          simp only [pt, tkx, tky, if_true, Bool.false_eq_true, if_false]
          gi_wp2_with (refine ⟨trivial, ?_⟩; gi_at_call 38; refine (callsR (math_IsInf.calls y.f2 1 false _ (by have h_ := HIN.out; unfold infB at h_; simp [math_IsInf.f, h_]))).mono ?_; rintro e w' ⟨rfl, ⟨nd, rfl⟩⟩)
          have HBE := Aside0.mk (pw_below_drewN (Below.refl W.heap.size W) nd)
          have GD := (HBE.out.block _ (blk_lt KG.out)).trans KG.out
          have RD := Kd.R_below KR.out HBE.out
          have BD := KB.out.next HBE.out HSZ.out HLA.out HLB.out
          have f0_ := zh HBE e0
          have d0 := zh HBE cy0
          have d1 := zh HBE cy1
          have d2 := zh HBE cy2
          have d3 := zh HBE cy3
          have d4 := zh HBE cy4
          clear e0 cy0 cy1 cy2 cy3 cy4
          have e0 := f0_
          clear f0_
          have cy0 := d0
          have cy1 := d1
          have cy2 := d2
          have cy3 := d3
          have cy4 := d4
          clear d0 d1 d2 d3 d4
          clear KG KR KB HBE
          have KG := Aside0.mk GD
          have KR := Aside0.mk RD
          have KB := Aside0.mk BD
          clear GD RD BD
          generalize World.drewN W nd = wv at *
          refine startR (n := 3) (m := 7) (S := fun w' => w'.cell? ⟨w.heap.size, 0, none⟩ = some v ∧ w'.cell? ady = some (.int .i64 y.f0) ∧ w'.cell? ⟨ady.block, ady.off + 1, none⟩ = some (.int .i64 y.f1) ∧ w'.cell? ⟨ady.block, ady.off + 2, none⟩ = some (.float .f64 y.f2) ∧ w'.cell? ⟨ady.block, ady.off + 3, none⟩ = some (.float .f64 y.f3) ∧ w'.cell? ⟨ady.block, ady.off + 4, none⟩ = some (.int .i64 y.f4)) (ds := [6]) #[false, false, false, false, false, false, false] (by kernel_rfl) (by kernel_rfl) rfl rfl ⟨e0, cy0, cy1, cy2, cy3, cy4⟩ (fun ⟨_, _, h_⟩ => h_) (fun hHeld => ?_)
          refine with_tabW mer.tab8 mer.bits8 (fun HT_ HW_ => ?_)
          have GD := KG.out
          have RD := KR.out
          have BD := KB.out
          replace GD : (World.drew wv).heap[w.heap.size]? = some (.cells #[v] 30 (0, 0)) := GD
          replace RD : Kd.R k61 61 (World.drew wv) w.heap.size (fun k => k ≠ Ba ∧ k ≠ Bb) v out := Kd.R_drew RD
          replace BD : BR w.heap.size Ba Bb W0.heap.size W (World.drew wv) := BD.drew
          generalize World.drew wv = we at hHeld GD RD BD ⊢
          refine tz 0 29 #[true, false, false, false, false, false, false] HT_.1 HW_.1 hHeld ?_
          refine pz 1 30 #[true, true, false, false, false, false, false] HT_.1 ?_
          refine pz 2 31 #[true, true, true, false, false, false, false] HT_.1 ?_
          refine tz 3 32 #[true, true, true, true, false, false, false] HT_.1 HW_.1 hHeld ?_
          refine one_ (i := 4) (N := some 33) #[true, true, true, true, true, false, false] rfl rfl (one_of HT_.out (by kernel_rfl)) (by decide) (fun K hK => ?_)
          refine event_step (v := .slice (some ⟨we.heap.size, 0, none⟩) 1 1) (w1 := we.alloc (.cells #[.int .i64 y.f0, .int .i64 y.f1, .float .f64 y.f2, .float .f64 y.f3, .int .i64 y.f4] 61)) (by rfl) (by go_simp) ?_
          obtain ⟨z0, z1, z2, z3, z4, z5⟩ := hHeld
          have HBA := Aside0.mk (below_alloc (Below.refl we.heap.size we) (.cells #[.int .i64 y.f0, .int .i64 y.f1, .float .f64 y.f2, .float .f64 y.f3, .int .i64 y.f4] 61))
          refine hK.out _ _ ⟨zh HBA z0, zh HBA z1, zh HBA z2, zh HBA z3, zh HBA z4, zh HBA z5⟩ (fun hHeld => ?_)
          clear hK K HBA z0 z1 z2 z3 z4 z5
          refine nz 33 ?_
          refine one_ (i := 5) (N := some 34) #[true, true, true, true, true, true, false] rfl rfl (one_of HT_.out (by kernel_rfl)) (by decide) (fun K hK => ?_)
          refine Kd.R_append_step k61 (w0 := w) w.heap.size (by rfl) (.tmp 29) (.tmp 33) 30 61 (.agg #[(.int .i64 0), (.int .i64 0), (.float .f64 0), (.float .f64 0), (.int .i64 0)]) 40 rfl Try.underlying30 info61 rfl (by decide) (by omega) v out (y) [.int .i64 y.f0, .int .i64 y.f1, .float .f64 y.f2, .float .f64 y.f3, .int .i64 y.f4] (fun k => k ≠ Ba ∧ k ≠ Bb) (fun _ => False) rfl rfl (k61_mkM _ _ _ _) (fun _ hk => hk.elim) (fun k_ hk => ⟨by have := HLA.out; have := BD.size; omega, by have := HLB.out; have := BD.size; omega⟩) RD (HBW.out.trans BD.below0) (Nat.le_trans HSZ.out BD.size) (by have := HLEN.out; omega) ?_
          intro v1 w1 ho hb1 hg hat
          have GA := box_grown GD RD hg
          have BA := BD.grown RD hg HLA.out HLB.out HSZ.out
          obtain ⟨z0, z1, z2, z3, z4, z5⟩ := hHeld
          refine hK.out _ _ ⟨cell_box GA, cell_old RD hg (Nat.le_trans HSZ.out BD.size) z1 LTy.out, cell_old RD hg (Nat.le_trans HSZ.out BD.size) z2 LTy.out, cell_old RD hg (Nat.le_trans HSZ.out BD.size) z3 LTy.out, cell_old RD hg (Nat.le_trans HSZ.out BD.size) z4 LTy.out, cell_old RD hg (Nat.le_trans HSZ.out BD.size) z5 LTy.out⟩ (fun hHeld => ?_)
          clear hK K z0 z1 z2 z3 z4 z5
          refine nz 34 ?_
          refine last_ (i := 6) (N := none) #[true, true, true, true, true, true, true] rfl rfl (one_of HT_.out (by kernel_rfl)) (by decide) (fun K hK => ?_)
          have hs_ := cell_box GA
          have hf_ := blk_frozen GA 0
          obtain ⟨A1_, c1_, e1_⟩ := Kd.R_slice ho
          refine skip_ (w1 := w1.setCell ⟨w.heap.size, 0, none⟩ v1) (by rfl) rfl (by subst e1_; go_simp) ?_
          refine hK.out _ _ ?_
          clear hK K
          refine done_ (done_of HT_.out (by kernel_rfl)) ?_
          try dsimp only [Exit.inBlock]
          refine bothPost_mk (BA.setG GA HNA.out HNB.out (Nat.le_refl _)) ?_
          refine ⟨v1, out ++ [y], box_set _ GA, R_setG GA ho, ?_, ?_⟩
          · have h_ := HOUT.out
            rw [← h_]; (conv => rhs; rw [mergeL]); simp [rx, ry, tkx, tky, HIN.out]
          · have h_ := HLEN2.out
            simp only [rx, ry, pt, tkx, tky, if_true, Bool.false_eq_true, if_false, List.drop_succ_cons, List.drop_zero, List.length_cons, List.length_nil, List.length_append] at h_ ⊢
            omega
        · have HIN := Aside0.mk hin
          clear hin
          obtain ⟨ady, rfl, hy0, hy1, hy2, hy3, hy4⟩ := at_T61 hB 0 (by decide) (by simp)
          have LTy := Aside0.mk (show ady.block < w.heap.size from World.block_lt_of_cell? w _ hy0)
          have cy0 : W.cell? ady = some (.int .i64 y.f0) := zh HBW hy0
          have cy1 : W.cell? ⟨ady.block, ady.off + 1, none⟩ = some (.int .i64 y.f1) := zh HBW hy1
          have cy2 : W.cell? ⟨ady.block, ady.off + 2, none⟩ = some (.float .f64 y.f2) := zh HBW hy2
          have cy3 : W.cell? ⟨ady.block, ady.off + 3, none⟩ = some (.float .f64 y.f3) := zh HBW hy3
          have cy4 : W.cell? ⟨ady.block, ady.off + 4, none⟩ = some (.int .i64 y.f4) := zh HBW hy4
          clear hy0 hy1 hy2 hy3 hy4
          clear hA hB
          simp only [pt, tkx, tky, if_true, Bool.false_eq_true, if_false]
          gi_wp2_with (refine ⟨trivial, ?_⟩; gi_at_call 38; refine (callsR (math_IsInf.calls y.f2 1 true _ (by have h_ := HIN.out; unfold infB at h_; simp [math_IsInf.f, h_]))).mono ?_; rintro e w' ⟨rfl, ⟨nd, rfl⟩⟩)
          try dsimp only [Exit.inBlock]
          refine bothPost_mk (KB.out.next (pw_below_drewN (Below.refl _ _) _) HSZ.out HLA.out HLB.out) ?_
          refine ⟨v, out, KG.out, Kd.R_below KR.out (pw_below_drewN (Below.refl _ _) _), ?_, ?_⟩
          · have h_ := HOUT.out
            rw [← h_]; (conv => rhs; rw [mergeL]); simp [rx, ry, tkx, tky, HIN.out]
          · have h_ := HLEN2.out
            simp only [rx, ry, pt, tkx, tky, if_true, Bool.false_eq_true, if_false, List.drop_succ_cons, List.drop_zero, List.length_cons, List.length_nil, List.length_append] at h_ ⊢
            omega
    | cons x xs =>
      cases ys with
      | nil =>
        obtain ⟨adx, rfl, hx0, hx1, hx2, hx3, hx4⟩ := at_T61 hA 0 (by decide) (by simp)
        have LTx := Aside0.mk (show adx.block < w.heap.size from World.block_lt_of_cell? w _ hx0)
        have cx0 : W.cell? adx = some (.int .i64 x.f0) := zh HBW hx0
        have cx1 : W.cell? ⟨adx.block, adx.off + 1, none⟩ = some (.int .i64 x.f1) := zh HBW hx1
        have cx2 : W.cell? ⟨adx.block, adx.off + 2, none⟩ = some (.float .f64 x.f2) := zh HBW hx2
        have cx3 : W.cell? ⟨adx.block, adx.off + 3, none⟩ = some (.float .f64 x.f3) := zh HBW hx3
        have cx4 : W.cell? ⟨adx.block, adx.off + 4, none⟩ = some (.int .i64 x.f4) := zh HBW hx4
        clear hx0 hx1 hx2 hx3 hx4
        clear hA hB
        simp only [pt, tkx, tky, if_true, Bool.false_eq_true, if_false]
        gi_wp2
        refine startR (n := 3) (m := 7) (S := fun w' => w'.cell? ⟨w.heap.size, 0, none⟩ = some v ∧ w'.cell? adx = some (.int .i64 x.f0) ∧ w'.cell? ⟨adx.block, adx.off + 1, none⟩ = some (.int .i64 x.f1) ∧ w'.cell? ⟨adx.block, adx.off + 2, none⟩ = some (.float .f64 x.f2) ∧ w'.cell? ⟨adx.block, adx.off + 3, none⟩ = some (.float .f64 x.f3) ∧ w'.cell? ⟨adx.block, adx.off + 4, none⟩ = some (.int .i64 x.f4)) (ds := [6]) #[false, false, false, false, false, false, false] (by kernel_rfl) (by kernel_rfl) rfl rfl ⟨e0, cx0, cx1, cx2, cx3, cx4⟩ (fun ⟨_, _, h_⟩ => h_) (fun hHeld => ?_)
        refine with_tabW mer.tab6 mer.bits6 (fun HT_ HW_ => ?_)
        have GD := KG.out
        have RD := KR.out
        have BD := KB.out
        replace GD : (World.drew W).heap[w.heap.size]? = some (.cells #[v] 30 (0, 0)) := GD
        replace RD : Kd.R k61 61 (World.drew W) w.heap.size (fun k => k ≠ Ba ∧ k ≠ Bb) v out := Kd.R_drew RD
        replace BD : BR w.heap.size Ba Bb W0.heap.size W (World.drew W) := BD.drew
        generalize World.drew W = we at hHeld GD RD BD ⊢
        refine tz 0 16 #[true, false, false, false, false, false, false] HT_.1 HW_.1 hHeld ?_
        refine pz 1 17 #[true, true, false, false, false, false, false] HT_.1 ?_
        refine pz 2 18 #[true, true, true, false, false, false, false] HT_.1 ?_
        refine tz 3 19 #[true, true, true, true, false, false, false] HT_.1 HW_.1 hHeld ?_
        refine one_ (i := 4) (N := some 20) #[true, true, true, true, true, false, false] rfl rfl (one_of HT_.out (by kernel_rfl)) (by decide) (fun K hK => ?_)
        refine event_step (v := .slice (some ⟨we.heap.size, 0, none⟩) 1 1) (w1 := we.alloc (.cells #[.int .i64 x.f0, .int .i64 x.f1, .float .f64 x.f2, .float .f64 x.f3, .int .i64 x.f4] 61)) (by rfl) (by go_simp) ?_
        obtain ⟨z0, z1, z2, z3, z4, z5⟩ := hHeld
        have HBA := Aside0.mk (below_alloc (Below.refl we.heap.size we) (.cells #[.int .i64 x.f0, .int .i64 x.f1, .float .f64 x.f2, .float .f64 x.f3, .int .i64 x.f4] 61))
        refine hK.out _ _ ⟨zh HBA z0, zh HBA z1, zh HBA z2, zh HBA z3, zh HBA z4, zh HBA z5⟩ (fun hHeld => ?_)
        clear hK K HBA z0 z1 z2 z3 z4 z5
        refine nz 20 ?_
        refine one_ (i := 5) (N := some 21) #[true, true, true, true, true, true, false] rfl rfl (one_of HT_.out (by kernel_rfl)) (by decide) (fun K hK => ?_)
        refine Kd.R_append_step k61 (w0 := w) w.heap.size (by rfl) (.tmp 16) (.tmp 20) 30 61 (.agg #[(.int .i64 0), (.int .i64 0), (.float .f64 0), (.float .f64 0), (.int .i64 0)]) 40 rfl Try.underlying30 info61 rfl (by decide) (by omega) v out (x) [.int .i64 x.f0, .int .i64 x.f1, .float .f64 x.f2, .float .f64 x.f3, .int .i64 x.f4] (fun k => k ≠ Ba ∧ k ≠ Bb) (fun _ => False) rfl rfl (k61_mkM _ _ _ _) (fun _ hk => hk.elim) (fun k_ hk => ⟨by have := HLA.out; have := BD.size; omega, by have := HLB.out; have := BD.size; omega⟩) RD (HBW.out.trans BD.below0) (Nat.le_trans HSZ.out BD.size) (by have := HLEN.out; omega) ?_
        intro v1 w1 ho hb1 hg hat
        have GA := box_grown GD RD hg
        have BA := BD.grown RD hg HLA.out HLB.out HSZ.out
        obtain ⟨z0, z1, z2, z3, z4, z5⟩ := hHeld
        refine hK.out _ _ ⟨cell_box GA, cell_old RD hg (Nat.le_trans HSZ.out BD.size) z1 LTx.out, cell_old RD hg (Nat.le_trans HSZ.out BD.size) z2 LTx.out, cell_old RD hg (Nat.le_trans HSZ.out BD.size) z3 LTx.out, cell_old RD hg (Nat.le_trans HSZ.out BD.size) z4 LTx.out, cell_old RD hg (Nat.le_trans HSZ.out BD.size) z5 LTx.out⟩ (fun hHeld => ?_)
        clear hK K z0 z1 z2 z3 z4 z5
        refine nz 21 ?_
        refine last_ (i := 6) (N := none) #[true, true, true, true, true, true, true] rfl rfl (one_of HT_.out (by kernel_rfl)) (by decide) (fun K hK => ?_)
        have hs_ := cell_box GA
        have hf_ := blk_frozen GA 0
        obtain ⟨A1_, c1_, e1_⟩ := Kd.R_slice ho
        refine skip_ (w1 := w1.setCell ⟨w.heap.size, 0, none⟩ v1) (by rfl) rfl (by subst e1_; go_simp) ?_
        refine hK.out _ _ ?_
        clear hK K
        refine done_ (done_of HT_.out (by kernel_rfl)) ?_
        try dsimp only [Exit.inBlock]
        refine bothPost_mk (BA.setG GA HNA.out HNB.out (Nat.le_refl _)) ?_
        refine ⟨v1, out ++ [x], box_set _ GA, R_setG GA ho, ?_, ?_⟩
        · have h_ := HOUT.out
          rw [← h_]; (conv => rhs; rw [mergeL]); simp [rx, ry, tkx, tky]
        · have h_ := HLEN2.out
          simp only [rx, ry, pt, tkx, tky, if_true, Bool.false_eq_true, if_false, List.drop_succ_cons, List.drop_zero, List.length_cons, List.length_nil, List.length_append] at h_ ⊢
          omega
      | cons y ys =>
        cases hyx : ahB y x
        · cases hxy : ahB x y
          · have HYX := Aside0.mk hyx
            have HXY := Aside0.mk hxy
            clear hyx hxy
            cases hin : infB y
            · have HIN := Aside0.mk hin
              clear hin
              obtain ⟨ady, rfl, hy0, hy1, hy2, hy3, hy4⟩ := at_T61 hB 0 (by decide) (by simp)
              have LTy := Aside0.mk (show ady.block < w.heap.size from World.block_lt_of_cell? w _ hy0)
              have cy0 : W.cell? ady = some (.int .i64 y.f0) := zh HBW hy0
              have cy1 : W.cell? ⟨ady.block, ady.off + 1, none⟩ = some (.int .i64 y.f1) := zh HBW hy1
              have cy2 : W.cell? ⟨ady.block, ady.off + 2, none⟩ = some (.float .f64 y.f2) := zh HBW hy2
              have cy3 : W.cell? ⟨ady.block, ady.off + 3, none⟩ = some (.float .f64 y.f3) := zh HBW hy3
              have cy4 : W.cell? ⟨ady.block, ady.off + 4, none⟩ = some (.int .i64 y.f4) := zh HBW hy4
              clear hy0 hy1 hy2 hy3 hy4
              clear hA hB
              simp only [pt, tkx, tky, if_true, Bool.false_eq_true, if_false, HYX.out, HXY.out, Bool.not_true, Bool.not_false]
              gi_wp2_with (refine ⟨trivial, ?_⟩; gi_at_call 38; refine (callsR (math_IsInf.calls y.f2 1 false _ (by have h_ := HIN.out; unfold infB at h_; simp [math_IsInf.f, h_]))).mono ?_; rintro e w' ⟨rfl, ⟨nd, rfl⟩⟩)
              have HBE := Aside0.mk (pw_below_drewN (Below.refl W.heap.size W) nd)
              have GD := (HBE.out.block _ (blk_lt KG.out)).trans KG.out
              have RD := Kd.R_below KR.out HBE.out
              have BD := KB.out.next HBE.out HSZ.out HLA.out HLB.out
              have f0_ := zh HBE e0
              have d0 := zh HBE cy0
              have d1 := zh HBE cy1
              have d2 := zh HBE cy2
              have d3 := zh HBE cy3
              have d4 := zh HBE cy4
              clear e0 cy0 cy1 cy2 cy3 cy4
              have e0 := f0_
              clear f0_
              have cy0 := d0
              have cy1 := d1
              have cy2 := d2
              have cy3 := d3
              have cy4 := d4
              clear d0 d1 d2 d3 d4
              clear KG KR KB HBE
              have KG := Aside0.mk GD
              have KR := Aside0.mk RD
              have KB := Aside0.mk BD
              clear GD RD BD
              generalize World.drewN W nd = wv at *
              refine startR (n := 3) (m := 7) (S := fun w' => w'.cell? ⟨w.heap.size, 0, none⟩ = some v ∧ w'.cell? ady = some (.int .i64 y.f0) ∧ w'.cell? ⟨ady.block, ady.off + 1, none⟩ = some (.int .i64 y.f1) ∧ w'.cell? ⟨ady.block, ady.off + 2, none⟩ = some (.float .f64 y.f2) ∧ w'.cell? ⟨ady.block, ady.off + 3, none⟩ = some (.float .f64 y.f3) ∧ w'.cell? ⟨ady.block, ady.off + 4, none⟩ = some (.int .i64 y.f4)) (ds := [6]) #[false, false, false, false, false, false, false] (by kernel_rfl) (by kernel_rfl) rfl rfl ⟨e0, cy0, cy1, cy2, cy3, cy4⟩ (fun ⟨_, _, h_⟩ => h_) (fun hHeld => ?_)
              refine with_tabW mer.tab8 mer.bits8 (fun HT_ HW_ => ?_)
              have GD := KG.out
              have RD := KR.out
              have BD := KB.out
              replace GD : (World.drew wv).heap[w.heap.size]? = some (.cells #[v] 30 (0, 0)) := GD
              replace RD : Kd.R k61 61 (World.drew wv) w.heap.size (fun k => k ≠ Ba ∧ k ≠ Bb) v out := Kd.R_drew RD
              replace BD : BR w.heap.size Ba Bb W0.heap.size W (World.drew wv) := BD.drew
              generalize World.drew wv = we at hHeld GD RD BD ⊢
              refine tz 0 29 #[true, false, false, false, false, false, false] HT_.1 HW_.1 hHeld ?_
              refine pz 1 30 #[true, true, false, false, false, false, false] HT_.1 ?_
              refine pz 2 31 #[true, true, true, false, false, false, false] HT_.1 ?_
              refine tz 3 32 #[true, true, true, true, false, false, false] HT_.1 HW_.1 hHeld ?_
              refine one_ (i := 4) (N := some 33) #[true, true, true, true, true, false, false] rfl rfl (one_of HT_.out (by kernel_rfl)) (by decide) (fun K hK => ?_)
              refine event_step (v := .slice (some ⟨we.heap.size, 0, none⟩) 1 1) (w1 := we.alloc (.cells #[.int .i64 y.f0, .int .i64 y.f1, .float .f64 y.f2, .float .f64 y.f3, .int .i64 y.f4] 61)) (by rfl) (by go_simp) ?_
              obtain ⟨z0, z1, z2, z3, z4, z5⟩ := hHeld
              have HBA := Aside0.mk (below_alloc (Below.refl we.heap.size we) (.cells #[.int .i64 y.f0, .int .i64 y.f1, .float .f64 y.f2, .float .f64 y.f3, .int .i64 y.f4] 61))
              refine hK.out _ _ ⟨zh HBA z0, zh HBA z1, zh HBA z2, zh HBA z3, zh HBA z4, zh HBA z5⟩ (fun hHeld => ?_)
              clear hK K HBA z0 z1 z2 z3 z4 z5
              refine nz 33 ?_
              refine one_ (i := 5) (N := some 34) #[true, true, true, true, true, true, false] rfl rfl (one_of HT_.out (by kernel_rfl)) (by decide) (fun K hK => ?_)
              refine Kd.R_append_step k61 (w0 := w) w.heap.size (by rfl) (.tmp 29) (.tmp 33) 30 61 (.agg #[(.int .i64 0), (.int .i64 0), (.float .f64 0), (.float .f64 0), (.int .i64 0)]) 40 rfl Try.underlying30 info61 rfl (by decide) (by omega) v out (y) [.int .i64 y.f0, .int .i64 y.f1, .float .f64 y.f2, .float .f64 y.f3, .int .i64 y.f4] (fun k => k ≠ Ba ∧ k ≠ Bb) (fun _ => False) rfl rfl (k61_mkM _ _ _ _) (fun _ hk => hk.elim) (fun k_ hk => ⟨by have := HLA.out; have := BD.size; omega, by have := HLB.out; have := BD.size; omega⟩) RD (HBW.out.trans BD.below0) (Nat.le_trans HSZ.out BD.size) (by have := HLEN.out; omega) ?_
              intro v1 w1 ho hb1 hg hat
              have GA := box_grown GD RD hg
              have BA := BD.grown RD hg HLA.out HLB.out HSZ.out
              obtain ⟨z0, z1, z2, z3, z4, z5⟩ := hHeld
              refine hK.out _ _ ⟨cell_box GA, cell_old RD hg (Nat.le_trans HSZ.out BD.size) z1 LTy.out, cell_old RD hg (Nat.le_trans HSZ.out BD.size) z2 LTy.out, cell_old RD hg (Nat.le_trans HSZ.out BD.size) z3 LTy.out, cell_old RD hg (Nat.le_trans HSZ.out BD.size) z4 LTy.out, cell_old RD hg (Nat.le_trans HSZ.out BD.size) z5 LTy.out⟩ (fun hHeld => ?_)
              clear hK K z0 z1 z2 z3 z4 z5
              refine nz 34 ?_
              refine last_ (i := 6) (N := none) #[true, true, true, true, true, true, true] rfl rfl (one_of HT_.out (by kernel_rfl)) (by decide) (fun K hK => ?_)
              have hs_ := cell_box GA
              have hf_ := blk_frozen GA 0
              obtain ⟨A1_, c1_, e1_⟩ := Kd.R_slice ho
              refine skip_ (w1 := w1.setCell ⟨w.heap.size, 0, none⟩ v1) (by rfl) rfl (by subst e1_; go_simp) ?_
              refine hK.out _ _ ?_
              clear hK K
              refine done_ (done_of HT_.out (by kernel_rfl)) ?_
              try dsimp only [Exit.inBlock]
              refine bothPost_mk (BA.setG GA HNA.out HNB.out (Nat.le_refl _)) ?_
              refine ⟨v1, out ++ [y], box_set _ GA, R_setG GA ho, ?_, ?_⟩
              · have h_ := HOUT.out
                rw [← h_]; (conv => rhs; rw [mergeL]); simp [rx, ry, tkx, tky, HYX.out, HXY.out, HIN.out]
              · have h_ := HLEN2.out
                simp only [rx, ry, pt, tkx, tky, if_true, Bool.false_eq_true, if_false, HYX.out, HXY.out, Bool.not_true, Bool.not_false, List.drop_succ_cons, List.drop_zero, List.length_cons, List.length_nil, List.length_append] at h_ ⊢
                omega
            · have HIN := Aside0.mk hin
              clear hin
              obtain ⟨ady, rfl, hy0, hy1, hy2, hy3, hy4⟩ := at_T61 hB 0 (by decide) (by simp)
              have LTy := Aside0.mk (show ady.block < w.heap.size from World.block_lt_of_cell? w _ hy0)
              have cy0 : W.cell? ady = some (.int .i64 y.f0) := zh HBW hy0
              have cy1 : W.cell? ⟨ady.block, ady.off + 1, none⟩ = some (.int .i64 y.f1) := zh HBW hy1
              have cy2 : W.cell? ⟨ady.block, ady.off + 2, none⟩ = some (.float .f64 y.f2) := zh HBW hy2
              have cy3 : W.cell? ⟨ady.block, ady.off + 3, none⟩ = some (.float .f64 y.f3) := zh HBW hy3
              have cy4 : W.cell? ⟨ady.block, ady.off + 4, none⟩ = some (.int .i64 y.f4) := zh HBW hy4
              clear hy0 hy1 hy2 hy3 hy4
              clear hA hB
              simp only [pt, tkx, tky, if_true, Bool.false_eq_true, if_false, HYX.out, HXY.out, Bool.not_true, Bool.not_false]
              gi_wp2_with (refine ⟨trivial, ?_⟩; gi_at_call 38; refine (callsR (math_IsInf.calls y.f2 1 true _ (by have h_ := HIN.out; unfold infB at h_; simp [math_IsInf.f, h_]))).mono ?_; rintro e w' ⟨rfl, ⟨nd, rfl⟩⟩)
              try dsimp only [Exit.inBlock]
              refine bothPost_mk (KB.out.next (pw_below_drewN (Below.refl _ _) _) HSZ.out HLA.out HLB.out) ?_
              refine ⟨v, out, KG.out, Kd.R_below KR.out (pw_below_drewN (Below.refl _ _) _), ?_, ?_⟩
              · have h_ := HOUT.out
                rw [← h_]; (conv => rhs; rw [mergeL]); simp [rx, ry, tkx, tky, HYX.out, HXY.out, HIN.out]
              · have h_ := HLEN2.out
                simp only [rx, ry, pt, tkx, tky, if_true, Bool.false_eq_true, if_false, HYX.out, HXY.out, Bool.not_true, Bool.not_false, List.drop_succ_cons, List.drop_zero, List.length_cons, List.length_nil, List.length_append] at h_ ⊢
                omega
          · have HYX := Aside0.mk hyx
            have HXY := Aside0.mk hxy
            clear hyx hxy
            obtain ⟨adx, rfl, hx0, hx1, hx2, hx3, hx4⟩ := at_T61 hA 0 (by decide) (by simp)
            have LTx := Aside0.mk (show adx.block < w.heap.size from World.block_lt_of_cell? w _ hx0)
            have cx0 : W.cell? adx = some (.int .i64 x.f0) := zh HBW hx0
            have cx1 : W.cell? ⟨adx.block, adx.off + 1, none⟩ = some (.int .i64 x.f1) := zh HBW hx1
            have cx2 : W.cell? ⟨adx.block, adx.off + 2, none⟩ = some (.float .f64 x.f2) := zh HBW hx2
            have cx3 : W.cell? ⟨adx.block, adx.off + 3, none⟩ = some (.float .f64 x.f3) := zh HBW hx3
            have cx4 : W.cell? ⟨adx.block, adx.off + 4, none⟩ = some (.int .i64 x.f4) := zh HBW hx4
            clear hx0 hx1 hx2 hx3 hx4
            clear hA hB
            simp only [pt, tkx, tky, if_true, Bool.false_eq_true, if_false, HYX.out, HXY.out, Bool.not_true, Bool.not_false]
            gi_wp2
            refine startR (n := 3) (m := 7) (S := fun w' => w'.cell? ⟨w.heap.size, 0, none⟩ = some v ∧ w'.cell? adx = some (.int .i64 x.f0) ∧ w'.cell? ⟨adx.block, adx.off + 1, none⟩ = some (.int .i64 x.f1) ∧ w'.cell? ⟨adx.block, adx.off + 2, none⟩ = some (.float .f64 x.f2) ∧ w'.cell? ⟨adx.block, adx.off + 3, none⟩ = some (.float .f64 x.f3) ∧ w'.cell? ⟨adx.block, adx.off + 4, none⟩ = some (.int .i64 x.f4)) (ds := [6]) #[false, false, false, false, false, false, false] (by kernel_rfl) (by kernel_rfl) rfl rfl ⟨e0, cx0, cx1, cx2, cx3, cx4⟩ (fun ⟨_, _, h_⟩ => h_) (fun hHeld => ?_)
            refine with_tabW mer.tab6 mer.bits6 (fun HT_ HW_ => ?_)
            have GD := KG.out
            have RD := KR.out
            have BD := KB.out
            replace GD : (World.drew W).heap[w.heap.size]? = some (.cells #[v] 30 (0, 0)) := GD
            replace RD : Kd.R k61 61 (World.drew W) w.heap.size (fun k => k ≠ Ba ∧ k ≠ Bb) v out := Kd.R_drew RD
            replace BD : BR w.heap.size Ba Bb W0.heap.size W (World.drew W) := BD.drew
            generalize World.drew W = we at hHeld GD RD BD ⊢
            refine tz 0 16 #[true, false, false, false, false, false, false] HT_.1 HW_.1 hHeld ?_
            refine pz 1 17 #[true, true, false, false, false, false, false] HT_.1 ?_
            refine pz 2 18 #[true, true, true, false, false, false, false] HT_.1 ?_
            refine tz 3 19 #[true, true, true, true, false, false, false] HT_.1 HW_.1 hHeld ?_
            refine one_ (i := 4) (N := some 20) #[true, true, true, true, true, false, false] rfl rfl (one_of HT_.out (by kernel_rfl)) (by decide) (fun K hK => ?_)
            refine event_step (v := .slice (some ⟨we.heap.size, 0, none⟩) 1 1) (w1 := we.alloc (.cells #[.int .i64 x.f0, .int .i64 x.f1, .float .f64 x.f2, .float .f64 x.f3, .int .i64 x.f4] 61)) (by rfl) (by go_simp) ?_
            obtain ⟨z0, z1, z2, z3, z4, z5⟩ := hHeld
            have HBA := Aside0.mk (below_alloc (Below.refl we.heap.size we) (.cells #[.int .i64 x.f0, .int .i64 x.f1, .float .f64 x.f2, .float .f64 x.f3, .int .i64 x.f4] 61))
            refine hK.out _ _ ⟨zh HBA z0, zh HBA z1, zh HBA z2, zh HBA z3, zh HBA z4, zh HBA z5⟩ (fun hHeld => ?_)
            clear hK K HBA z0 z1 z2 z3 z4 z5
            refine nz 20 ?_
            refine one_ (i := 5) (N := some 21) #[true, true, true, true, true, true, false] rfl rfl (one_of HT_.out (by kernel_rfl)) (by decide) (fun K hK => ?_)
            refine Kd.R_append_step k61 (w0 := w) w.heap.size (by rfl) (.tmp 16) (.tmp 20) 30 61 (.agg #[(.int .i64 0), (.int .i64 0), (.float .f64 0), (.float .f64 0), (.int .i64 0)]) 40 rfl Try.underlying30 info61 rfl (by decide) (by omega) v out (x) [.int .i64 x.f0, .int .i64 x.f1, .float .f64 x.f2, .float .f64 x.f3, .int .i64 x.f4] (fun k => k ≠ Ba ∧ k ≠ Bb) (fun _ => False) rfl rfl (k61_mkM _ _ _ _) (fun _ hk => hk.elim) (fun k_ hk => ⟨by have := HLA.out; have := BD.size; omega, by have := HLB.out; have := BD.size; omega⟩) RD (HBW.out.trans BD.below0) (Nat.le_trans HSZ.out BD.size) (by have := HLEN.out; omega) ?_
            intro v1 w1 ho hb1 hg hat
            have GA := box_grown GD RD hg
            have BA := BD.grown RD hg HLA.out HLB.out HSZ.out
            obtain ⟨z0, z1, z2, z3, z4, z5⟩ := hHeld
            refine hK.out _ _ ⟨cell_box GA, cell_old RD hg (Nat.le_trans HSZ.out BD.size) z1 LTx.out, cell_old RD hg (Nat.le_trans HSZ.out BD.size) z2 LTx.out, cell_old RD hg (Nat.le_trans HSZ.out BD.size) z3 LTx.out, cell_old RD hg (Nat.le_trans HSZ.out BD.size) z4 LTx.out, cell_old RD hg (Nat.le_trans HSZ.out BD.size) z5 LTx.out⟩ (fun hHeld => ?_)
            clear hK K z0 z1 z2 z3 z4 z5
            refine nz 21 ?_
            refine last_ (i := 6) (N := none) #[true, true, true, true, true, true, true] rfl rfl (one_of HT_.out (by kernel_rfl)) (by decide) (fun K hK => ?_)
            have hs_ := cell_box GA
            have hf_ := blk_frozen GA 0
            obtain ⟨A1_, c1_, e1_⟩ := Kd.R_slice ho
            refine skip_ (w1 := w1.setCell ⟨w.heap.size, 0, none⟩ v1) (by rfl) rfl (by subst e1_; go_simp) ?_
            refine hK.out _ _ ?_
            clear hK K
            refine done_ (done_of HT_.out (by kernel_rfl)) ?_
            try dsimp only [Exit.inBlock]
            refine bothPost_mk (BA.setG GA HNA.out HNB.out (Nat.le_refl _)) ?_
            refine ⟨v1, out ++ [x], box_set _ GA, R_setG GA ho, ?_, ?_⟩
            · have h_ := HOUT.out
              rw [← h_]; (conv => rhs; rw [mergeL]); simp [rx, ry, tkx, tky, HYX.out, HXY.out]
            · have h_ := HLEN2.out
              simp only [rx, ry, pt, tkx, tky, if_true, Bool.false_eq_true, if_false, HYX.out, HXY.out, Bool.not_true, Bool.not_false, List.drop_succ_cons, List.drop_zero, List.length_cons, List.length_nil, List.length_append] at h_ ⊢
              omega
        · have hxy := ahB_asymm hyx
          have HYX := Aside0.mk hyx
          have HXY := Aside0.mk hxy
          clear hyx hxy
          cases hin : infB y
          · have HIN := Aside0.mk hin
            clear hin
            obtain ⟨ady, rfl, hy0, hy1, hy2, hy3, hy4⟩ := at_T61 hB 0 (by decide) (by simp)
            have LTy := Aside0.mk (show ady.block < w.heap.size from World.block_lt_of_cell? w _ hy0)
            have cy0 : W.cell? ady = some (.int .i64 y.f0) := zh HBW hy0
            have cy1 : W.cell? ⟨ady.block, ady.off + 1, none⟩ = some (.int .i64 y.f1) := zh HBW hy1
            have cy2 : W.cell? ⟨ady.block, ady.off + 2, none⟩ = some (.float .f64 y.f2) := zh HBW hy2
            have cy3 : W.cell? ⟨ady.block, ady.off + 3, none⟩ = some (.float .f64 y.f3) := zh HBW hy3
            have cy4 : W.cell? ⟨ady.block, ady.off + 4, none⟩ = some (.int .i64 y.f4) := zh HBW hy4
            clear hy0 hy1 hy2 hy3 hy4
            clear hA hB
            simp only [pt, tkx, tky, if_true, Bool.false_eq_true, if_false, HYX.out, HXY.out, Bool.not_true, Bool.not_false]
            gi_wp2_with (refine ⟨trivial, ?_⟩; gi_at_call 38; refine (callsR (math_IsInf.calls y.f2 1 false _ (by have h_ := HIN.out; unfold infB at h_; simp [math_IsInf.f, h_]))).mono ?_; rintro e w' ⟨rfl, ⟨nd, rfl⟩⟩)
            have HBE := Aside0.mk (pw_below_drewN (Below.refl W.heap.size W) nd)
            have GD := (HBE.out.block _ (blk_lt KG.out)).trans KG.out
            have RD := Kd.R_below KR.out HBE.out
            have BD := KB.out.next HBE.out HSZ.out HLA.out HLB.out
            have f0_ := zh HBE e0
            have d0 := zh HBE cy0
            have d1 := zh HBE cy1
            have d2 := zh HBE cy2
            have d3 := zh HBE cy3
            have d4 := zh HBE cy4
            clear e0 cy0 cy1 cy2 cy3 cy4
            have e0 := f0_
            clear f0_
            have cy0 := d0
            have cy1 := d1
            have cy2 := d2
            have cy3 := d3
            have cy4 := d4
            clear d0 d1 d2 d3 d4
            clear KG KR KB HBE
            have KG := Aside0.mk GD
            have KR := Aside0.mk RD
            have KB := Aside0.mk BD
            clear GD RD BD
            generalize World.drewN W nd = wv at *
            refine startR (n := 3) (m := 7) (S := fun w' => w'.cell? ⟨w.heap.size, 0, none⟩ = some v ∧ w'.cell? ady = some (.int .i64 y.f0) ∧ w'.cell? ⟨ady.block, ady.off + 1, none⟩ = some (.int .i64 y.f1) ∧ w'.cell? ⟨ady.block, ady.off + 2, none⟩ = some (.float .f64 y.f2) ∧ w'.cell? ⟨ady.block, ady.off + 3, none⟩ = some (.float .f64 y.f3) ∧ w'.cell? ⟨ady.block, ady.off + 4, none⟩ = some (.int .i64 y.f4)) (ds := [6]) #[false, false, false, false, false, false, false] (by kernel_rfl) (by kernel_rfl) rfl rfl ⟨e0, cy0, cy1, cy2, cy3, cy4⟩ (fun ⟨_, _, h_⟩ => h_) (fun hHeld => ?_)
            refine with_tabW mer.tab8 mer.bits8 (fun HT_ HW_ => ?_)
            have GD := KG.out
            have RD := KR.out
            have BD := KB.out
            replace GD : (World.drew wv).heap[w.heap.size]? = some (.cells #[v] 30 (0, 0)) := GD
            replace RD : Kd.R k61 61 (World.drew wv) w.heap.size (fun k => k ≠ Ba ∧ k ≠ Bb) v out := Kd.R_drew RD
            replace BD : BR w.heap.size Ba Bb W0.heap.size W (World.drew wv) := BD.drew
            generalize World.drew wv = we at hHeld GD RD BD ⊢
            refine tz 0 29 #[true, false, false, false, false, false, false] HT_.1 HW_.1 hHeld ?_
            refine pz 1 30 #[true, true, false, false, false, false, false] HT_.1 ?_
            refine pz 2 31 #[true, true, true, false, false, false, false] HT_.1 ?_
            refine tz 3 32 #[true, true, true, true, false, false, false] HT_.1 HW_.1 hHeld ?_
            refine one_ (i := 4) (N := some 33) #[true, true, true, true, true, false, false] rfl rfl (one_of HT_.out (by kernel_rfl)) (by decide) (fun K hK => ?_)
            refine event_step (v := .slice (some ⟨we.heap.size, 0, none⟩) 1 1) (w1 := we.alloc (.cells #[.int .i64 y.f0, .int .i64 y.f1, .float .f64 y.f2, .float .f64 y.f3, .int .i64 y.f4] 61)) (by rfl) (by go_simp) ?_
            obtain ⟨z0, z1, z2, z3, z4, z5⟩ := hHeld
            have HBA := Aside0.mk (below_alloc (Below.refl we.heap.size we) (.cells #[.int .i64 y.f0, .int .i64 y.f1, .float .f64 y.f2, .float .f64 y.f3, .int .i64 y.f4] 61))
            refine hK.out _ _ ⟨zh HBA z0, zh HBA z1, zh HBA z2, zh HBA z3, zh HBA z4, zh HBA z5⟩ (fun hHeld => ?_)
            clear hK K HBA z0 z1 z2 z3 z4 z5
            refine nz 33 ?_
            refine one_ (i := 5) (N := some 34) #[true, true, true, true, true, true, false] rfl rfl (one_of HT_.out (by kernel_rfl)) (by decide) (fun K hK => ?_)
            refine Kd.R_append_step k61 (w0 := w) w.heap.size (by rfl) (.tmp 29) (.tmp 33) 30 61 (.agg #[(.int .i64 0), (.int .i64 0), (.float .f64 0), (.float .f64 0), (.int .i64 0)]) 40 rfl Try.underlying30 info61 rfl (by decide) (by omega) v out (y) [.int .i64 y.f0, .int .i64 y.f1, .float .f64 y.f2, .float .f64 y.f3, .int .i64 y.f4] (fun k => k ≠ Ba ∧ k ≠ Bb) (fun _ => False) rfl rfl (k61_mkM _ _ _ _) (fun _ hk => hk.elim) (fun k_ hk => ⟨by have := HLA.out; have := BD.size; omega, by have := HLB.out; have := BD.size; omega⟩) RD (HBW.out.trans BD.below0) (Nat.le_trans HSZ.out BD.size) (by have := HLEN.out; omega) ?_
            intro v1 w1 ho hb1 hg hat
            have GA := box_grown GD RD hg
            have BA := BD.grown RD hg HLA.out HLB.out HSZ.out
            obtain ⟨z0, z1, z2, z3, z4, z5⟩ := hHeld
            refine hK.out _ _ ⟨cell_box GA, cell_old RD hg (Nat.le_trans HSZ.out BD.size) z1 LTy.out, cell_old RD hg (Nat.le_trans HSZ.out BD.size) z2 LTy.out, cell_old RD hg (Nat.le_trans HSZ.out BD.size) z3 LTy.out, cell_old RD hg (Nat.le_trans HSZ.out BD.size) z4 LTy.out, cell_old RD hg (Nat.le_trans HSZ.out BD.size) z5 LTy.out⟩ (fun hHeld => ?_)
            clear hK K z0 z1 z2 z3 z4 z5
            refine nz 34 ?_
            refine last_ (i := 6) (N := none) #[true, true, true, true, true, true, true] rfl rfl (one_of HT_.out (by kernel_rfl)) (by decide) (fun K hK => ?_)
            have hs_ := cell_box GA
            have hf_ := blk_frozen GA 0
            obtain ⟨A1_, c1_, e1_⟩ := Kd.R_slice ho
            refine skip_ (w1 := w1.setCell ⟨w.heap.size, 0, none⟩ v1) (by rfl) rfl (by subst e1_; go_simp) ?_
            refine hK.out _ _ ?_
            clear hK K
            refine done_ (done_of HT_.out (by kernel_rfl)) ?_
            try dsimp only [Exit.inBlock]
            refine bothPost_mk (BA.setG GA HNA.out HNB.out (Nat.le_refl _)) ?_
            refine ⟨v1, out ++ [y], box_set _ GA, R_setG GA ho, ?_, ?_⟩
            · have h_ := HOUT.out
              rw [← h_]; (conv => rhs; rw [mergeL]); simp [rx, ry, tkx, tky, HYX.out, HXY.out, HIN.out]
            · have h_ := HLEN2.out
              simp only [rx, ry, pt, tkx, tky, if_true, Bool.false_eq_true, if_false, HYX.out, HXY.out, Bool.not_true, Bool.not_false, List.drop_succ_cons, List.drop_zero, List.length_cons, List.length_nil, List.length_append] at h_ ⊢
              omega
          · have HIN := Aside0.mk hin
            clear hin
            obtain ⟨ady, rfl, hy0, hy1, hy2, hy3, hy4⟩ := at_T61 hB 0 (by decide) (by simp)
            have LTy := Aside0.mk (show ady.block < w.heap.size from World.block_lt_of_cell? w _ hy0)
            have cy0 : W.cell? ady = some (.int .i64 y.f0) := zh HBW hy0
            have cy1 : W.cell? ⟨ady.block, ady.off + 1, none⟩ = some (.int .i64 y.f1) := zh HBW hy1
            have cy2 : W.cell? ⟨ady.block, ady.off + 2, none⟩ = some (.float .f64 y.f2) := zh HBW hy2
            have cy3 : W.cell? ⟨ady.block, ady.off + 3, none⟩ = some (.float .f64 y.f3) := zh HBW hy3
            have cy4 : W.cell? ⟨ady.block, ady.off + 4, none⟩ = some (.int .i64 y.f4) := zh HBW hy4
            clear hy0 hy1 hy2 hy3 hy4
            clear hA hB
            simp only [pt, tkx, tky, if_true, Bool.false_eq_true, if_false, HYX.out, HXY.out, Bool.not_true, Bool.not_false]
            gi_wp2_with (refine ⟨trivial, ?_⟩; gi_at_call 38; refine (callsR (math_IsInf.calls y.f2 1 true _ (by have h_ := HIN.out; unfold infB at h_; simp [math_IsInf.f, h_]))).mono ?_; rintro e w' ⟨rfl, ⟨nd, rfl⟩⟩)
            try dsimp only [Exit.inBlock]
            refine bothPost_mk (KB.out.next (pw_below_drewN (Below.refl _ _) _) HSZ.out HLA.out HLB.out) ?_
            refine ⟨v, out, KG.out, Kd.R_below KR.out (pw_below_drewN (Below.refl _ _) _), ?_, ?_⟩
            · have h_ := HOUT.out
              rw [← h_]; (conv => rhs; rw [mergeL]); simp [rx, ry, tkx, tky, HYX.out, HXY.out, HIN.out]
            · have h_ := HLEN2.out
              simp only [rx, ry, pt, tkx, tky, if_true, Bool.false_eq_true, if_false, HYX.out, HXY.out, Bool.not_true, Bool.not_false, List.drop_succ_cons, List.drop_zero, List.length_cons, List.length_nil, List.length_append] at h_ ⊢
              omega
end Go.Proofs.Ytpcgjdllgdkobaa.ZD
