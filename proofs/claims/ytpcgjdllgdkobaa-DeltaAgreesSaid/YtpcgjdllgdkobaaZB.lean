/- Two lists side by side: what the iterator of delta.both yields. -/
import Derived.Sort.LoopGhostIn
import Derived.Sort.QuietIn
import Derived.Test.YtpcgjdllgdkobaaZI
import Derived.Test.YtpcgjdllgdkobaaXAx7
namespace Go.Proofs.Ytpcgjdllgdkobaa.ZD
open Go.RowKit Go.Proofs.YtpcgjdllgdkobaaW.PrintWords Go.Proofs.YtpcgjdllgdkobaaW.PrintLast Go.Proofs.YtpcgjdllgdkobaaW.PrintMore Go.Proofs.YtpcgjdllgdkobaaW.PrintZ Go.Proofs.Ytpcgjdllgdkobaa.XA
set_option linter.unusedSimpArgs false
set_option linter.unusedVariables false
/-- delta.both: two boxes are made, the function value has them. -/
theorem both_any (A0 A1 : Option Addr) (n0 c0 n1 c1 : Nat) (w : World) :
    Calls Try.prog 43 #[.slice A0 n0 c0, .slice A1 n1 c1] w fun e w' => e = .returned (.func (.func 52) #[] #[.pointer (some ⟨w.heap.size, 0, none⟩), .pointer (some ⟨w.heap.size + 1, 0, none⟩)]) ∧ w' = (w.alloc (.cells #[.slice A0 n0 c0] 30)).alloc (.cells #[.slice A1 n1 c1] 30) := by
  have hmf : ∀ (fn : Fn) (first cap : Array Value) (w : World), (Instr.makeFunc fn first cap).run Try.prog w = .ok (.func fn first cap) w := fun _ _ _ _ => rfl
  go_enter Try.func43, Try.ntmps43
  go_wp2
  go_ret
  exact ⟨rfl, rfl⟩
/-- What is neither of the two boxes lies as it lay, and so does all below a bound. -/
structure Stab (base Ba Bb : Nat) (W W' : World) : Prop where
  below : Below base W W'
  same : ∀ (k : Nat) (o : Obj), W.heap[k]? = some o → k ≠ Ba → k ≠ Bb → W'.heap[k]? = some o
def ahB (x y : S61) : Bool := decide (x.f1 < y.f1) || (decide (x.f1 = y.f1) && decide (x.f0 < y.f0))
theorem ahead_f (x y : S61) : delta_ahead.f x.f0 x.f1 x.f2 x.f3 x.f4 y.f0 y.f1 y.f2 y.f3 y.f4 = some (ahB x y) := by
  unfold delta_ahead.f ahB
  by_cases h1 : x.f1 < y.f1
  · simp [h1]
  · by_cases h2 : x.f1 = y.f1
    · simp [h2]
    · simp [h1, h2]
theorem ahB_asymm {x y : S61} (h : ahB x y = true) : ahB y x = false := by
  unfold ahB at h ⊢
  simp only [Bool.or_eq_true, Bool.and_eq_true, decide_eq_true_eq, Bool.or_eq_false_iff, Bool.and_eq_false_iff, decide_eq_false_iff_not] at h ⊢
  omega
/-- Is the first of xs taken? -/
def tkx : List S61 → List S61 → Bool
  | [], _ => false
  | _ :: _, [] => true
  | x :: _, y :: _ => !ahB y x
def tky : List S61 → List S61 → Bool
  | _, [] => false
  | [], _ :: _ => true
  | x :: _, y :: _ => !ahB x y
def rx (xs ys : List S61) : List S61 := if tkx xs ys then xs.drop 1 else xs
def ry (xs ys : List S61) : List S61 := if tky xs ys then ys.drop 1 else ys
def pt (t : Bool) (A : Option Addr) : Value := .pointer (if t then A else none)
theorem info61' : ∃ i, Try.prog.info? 61 = some i ∧ i.size = 5 := by
  obtain ⟨i, hi, _, h, _⟩ := info_parts info61
  exact ⟨i, hi, h⟩
theorem Stab.trans {base Ba Bb : Nat} {A B C : World} (h : Stab base Ba Bb A B) (k : Stab base Ba Bb B C) : Stab base Ba Bb A C :=
  ⟨h.below.trans k.below, fun j o hj h1 h2 => k.same j o (h.same j o hj h1 h2) h1 h2⟩
theorem Stab.drewN {base Ba Bb : Nat} {A B : World} (h : Stab base Ba Bb A B) (n : Nat) : Stab base Ba Bb A (B.drewN n) := ⟨pw_below_drewN h.below n, h.same⟩
theorem Stab.drew {base Ba Bb : Nat} {A B : World} (h : Stab base Ba Bb A B) : Stab base Ba Bb A B.drew := ⟨below_drew1 h.below, h.same⟩
theorem Stab.refl (base Ba Bb : Nat) (W : World) : Stab base Ba Bb W W := ⟨Below.refl _ _, fun _ _ h _ _ => h⟩
theorem Stab.setA {base Ba Bb : Nat} {W0 W : World} {v' : Value} (hBa : base ≤ Ba) (h : Stab base Ba Bb W0 W) : Stab base Ba Bb W0 (W.setCell ⟨Ba, 0, none⟩ v') :=
  ⟨h.below.setCell hBa _, fun k o hk h1 h2 => (Below.heap_setCell W ⟨Ba, 0, none⟩ v' k h1).trans (h.same k o hk h1 h2)⟩
theorem Stab.setB {base Ba Bb : Nat} {W0 W : World} {v' : Value} (hBb : base ≤ Bb) (h : Stab base Ba Bb W0 W) : Stab base Ba Bb W0 (W.setCell ⟨Bb, 0, none⟩ v') :=
  ⟨h.below.setCell hBb _, fun k o hk h1 h2 => (Below.heap_setCell W ⟨Bb, 0, none⟩ v' k h2).trans (h.same k o hk h1 h2)⟩
theorem box_set {W : World} {B : Nat} {v : Value} {t : TypeId} (v' : Value) (h : W.heap[B]? = some (.cells #[v] t (0, 0))) : (W.setCell ⟨B, 0, none⟩ v').heap[B]? = some (.cells #[v'] t (0, 0)) := by
  obtain ⟨hlt, hk⟩ := Array.getElem?_eq_some_iff.1 h
  show (W.heap.modify B _)[B]? = _
  rw [Array.getElem?_eq_getElem (by rw [Array.size_modify]; exact hlt), Array.getElem_modify_self, hk]
  rfl
theorem box_other {W : World} {B C : Nat} {o : Obj} (v' : Value) (hne : C ≠ B) (h : W.heap[C]? = some o) : (W.setCell ⟨B, 0, none⟩ v').heap[C]? = some o := (Below.heap_setCell W ⟨B, 0, none⟩ v' C hne).trans h
theorem stab_of_below {base Ba Bb : Nat} {W W' : World} (hs : base ≤ W.heap.size) (h : Below W.heap.size W W') : Stab base Ba Bb W W' :=
  ⟨h.mono hs, fun k o hk _ _ => (h.block k (Array.getElem?_eq_some_iff.1 hk).1).trans hk⟩
def both1.T2 : Bool × List (List Nat × List Nat) := (true, [([], []), ([0], [0]), ([1], [1]), ([2], [2]), ([3], [3]), ([4, 3], [3, 4]), ([5, 3], [3, 5]), ([6, 3, 3], [3, 6]), ([7], [7]), ([8, 7], [7, 8]), ([9, 7], [7, 9]), ([7], [7]), ([11, 7], [7, 11]), ([12, 7], [7, 12]), ([10, 13, 7, 7], [7, 10, 13]), ([14, 7], [7, 14]), ([7, 15, 3], [3, 7, 15]), ([3, 16], [3, 16])])
def both1.B2 : List Nat := [0, 1, 3, 7, 15, 31, 63, 127, 255, 511, 1023, 255, 2303, 6399, 16383, 32767, 65535, 131071]
theorem both1.tab2 : rtab .any (opsOf Try.f52 2) = both1.T2 := by kernel_rfl
theorem both1.bits2 : waitsOk both1.T2.2 both1.B2 = true := by kernel_rfl
def both1.T4 : Bool × List (List Nat × List Nat) := (true, [([], []), ([0], [0]), ([1], [1]), ([2], [2]), ([3], [3]), ([4, 3], [3, 4]), ([5, 3], [3, 5]), ([6, 3, 3], [3, 6]), ([7], [7]), ([8, 7], [7, 8]), ([9, 7], [7, 9]), ([7], [7]), ([11, 7], [7, 11]), ([12, 7], [7, 12]), ([10, 13, 7, 7], [7, 10, 13]), ([14, 7], [7, 14]), ([7, 15, 3], [3, 7, 15]), ([3, 16], [3, 16])])
def both1.B4 : List Nat := [0, 1, 3, 7, 15, 31, 63, 127, 255, 511, 1023, 255, 2303, 6399, 16383, 32767, 65535, 131071]
theorem both1.tab4 : rtab .any (opsOf Try.f52 4) = both1.T4 := by kernel_rfl
theorem both1.bits4 : waitsOk both1.T4.2 both1.B4 = true := by kernel_rfl
set_option maxRecDepth 100000 in
set_option maxHeartbeats 4000000 in
theorem both1_in (l Ba Bb : Nat) (w0 : World) (hne : Ba ≠ Bb) (hBa : w0.heap.size ≤ Ba) (hBb : w0.heap.size ≤ Bb) (J : List S61 → List S61 → World → Prop)
    (hJ : ∀ xs ys W W', Stab w0.heap.size Ba Bb W W' → J xs ys W → J xs ys W')
    (hY : ∀ xs ys A B W, J xs ys W → Below w0.heap.size w0 W → Kd.C k61 w0 A xs.length xs → Kd.C k61 w0 B ys.length ys → (xs ≠ [] ∨ ys ≠ []) →
      (∃ v, W.heap[Ba]? = some (.cells #[v] 30 (0, 0))) → (∃ v, W.heap[Bb]? = some (.cells #[v] 30 (0, 0))) →
      YieldAt Fence.wide 3 Try.prog l #[pt (tkx xs ys) A, pt (tky xs ys) B] W fun e W' => e = .returned (.bool true) ∧ J (rx xs ys) (ry xs ys) W' ∧ W'.heap[Ba]? = W.heap[Ba]? ∧ W'.heap[Bb]? = W.heap[Bb]? ∧ Below w0.heap.size W W')
    (A0 A1 : Option Addr) (c0 c1 : Nat) (l0 l1 : List S61) (hc0 : Kd.C k61 w0 A0 l0.length l0) (hc1 : Kd.C k61 w0 A1 l1.length l1) (hl0 : l0.length ≤ c0) (hl1 : l1.length ≤ c1)
    (W : World) (hb : Below w0.heap.size w0 W) (ha0 : W.heap[Ba]? = some (.cells #[.slice A0 l0.length c0] 30 (0, 0))) (hb0 : W.heap[Bb]? = some (.cells #[.slice A1 l1.length c1] 30 (0, 0))) (h0 : J l0 l1 W) :
    CallsIn Fence.wide 4 Try.prog 52 #[.func (.yield l) #[] #[], .pointer (some ⟨Ba, 0, none⟩), .pointer (some ⟨Bb, 0, none⟩)] W fun e W' => (∃ v, e = .returned v) ∧ J [] [] W' ∧ Below w0.heap.size w0 W' := by
  obtain ⟨i61, hi61, hs61⟩ := info61'
  have hu30 := Try.underlying30
  refine callsIn_of_wp Try.func52 rfl trivial ?_ rfl
  simp only [Try.ntmps52, List.size_toArray, List.length_cons, List.length_nil, Nat.reduceAdd, Nat.reduceSub, Array.replicate_succ, Array.replicate_zero, List.push_toArray, List.append_toArray, List.nil_append, List.cons_append]
  gi_wp2
  gi_loopg [] (l0.length + l1.length) (fun k wr => ∃ xs ys A c B d, k = xs.length + ys.length ∧ Kd.C k61 w0 A xs.length xs ∧ Kd.C k61 w0 B ys.length ys ∧ xs.length ≤ c ∧ ys.length ≤ d ∧ Below w0.heap.size w0 wr ∧ wr.heap[Ba]? = some (.cells #[.slice A xs.length c] 30 (0, 0)) ∧ wr.heap[Bb]? = some (.cells #[.slice B ys.length d] 30 (0, 0)) ∧ J xs ys wr)
  case atStart => exact ⟨l0, l1, A0, c0, A1, c1, rfl, hc0, hc1, hl0, hl1, hb, ha0, hb0, h0⟩
  case round =>
    obtain ⟨xs, ys, A, c, B, d, rfl, hA, hB, hxc, hyd, hbw, hca, hcb, hj⟩ := hrel
    have K0 := Aside0.mk hca
    have K1 := Aside0.mk hcb
    have J0 := Aside0.mk hj
    have B0 := Aside0.mk hbw
    have e0 : wr.cell? ⟨Ba, 0, none⟩ = some (.slice A xs.length c) := (blk_cell hca 0).trans rfl
    have e1 : wr.cell? ⟨Bb, 0, none⟩ = some (.slice B ys.length d) := (blk_cell hcb 0).trans rfl
    have f0 : wr.frozen? ⟨Ba, 0, none⟩ = false := blk_frozen hca 0
    have f1 : wr.frozen? ⟨Bb, 0, none⟩ = false := blk_frozen hcb 0
    have hC0 := Aside0.mk hA
    have hC1 := Aside0.mk hB
    have hx1 := Aside0.mk hxc
    have hy1 := Aside0.mk hyd
    clear hj hca hcb hbw hA hB hxc hyd ha0 hb0 h0 hb hc0 hc1 hl0 hl1
    cases xs with
    | nil =>
      cases ys with
      | nil =>
        simp only [List.length_nil] at e0 e1
        gi_wp2
        go_end0
        exact ⟨⟨_, rfl⟩, J0.out, B0.out⟩
      | cons y ys =>
        obtain ⟨adb, rfl, hb0, hb1, hb2, hb3, hb4⟩ := at_T61 hC1.out 0 (by decide) (by simp)
        have hclb : ys.length + 1 ≤ d := by have := hy1.out; simpa using this
        have hcutb := cut_from (P := Try.prog) 30 61 .i64 hu30 hi61 5 hs61 (some adb) (ys.length + 1) d 1 (by decide) (by omega)
        obtain ⟨Ab, hAb⟩ : ∃ A', (if d = (1 : Int).toNat then some adb else (some adb).map (·.add ((1 : Int).toNat * 5))) = A' := ⟨_, rfl⟩
        rw [hAb] at hcutb
        have hCdb := Kd.C_drop (m := 1) (c := d) hC1.out (by simp) (by simpa using hclb)
        have hCeb : Kd.C k61 w0 Ab ys.length ys := by rw [← hAb]; exact hCdb
        have HCdb := Aside0.mk hCeb
        have HAb := Aside0.mk hAb
        have HCLb := Aside0.mk hclb
        clear hCdb hCeb hAb hclb
        have tb : decide ((0 : Int) < (ys.length : Int) + 1) = true := decide_eq_true (by omega)
        have nb : ((ys.length : Int) + 1 == 0) = false := beq_eq_false_iff_ne.mpr (by omega)
        clear hb0 hb1 hb2 hb3 hb4
        simp only [List.length_nil, List.length_cons] at e0 e1
        gi_wp2
        refine wpIn_wide.2 ?_
        go_quiet (fail)
        gi_wp2
        refine wpIn_wide.2 ?_
        go_quiet (fail)
        gi_wp2
        generalize hW2 : World.setCell _ _ _ = W2
        have S2 : Stab w0.heap.size Ba Bb wr W2 := by rw [← hW2]; exact (((Stab.refl _ _ _ _).drewN _).setB hBb)
        have a2 : W2.heap[Ba]? = some (.cells #[.slice A 0 c] 30 (0, 0)) := by rw [← hW2]; exact box_other _ hne K0.out
        have b2 : W2.heap[Bb]? = some (.cells #[.slice Ab ys.length (d - 1)] 30 (0, 0)) := by rw [← hW2]; exact box_set _ K1.out
        obtain ⟨fn, tmps, assign, body, hy, hR⟩ := hY ([]) (y :: ys) (A) (some adb) W2 (hJ _ _ _ _ S2 J0.out) (B0.out.trans S2.below) hC0.out hC1.out (.inr (by simp)) ⟨_, a2⟩ ⟨_, b2⟩
        simp only [pt, tkx, tky, if_true, Bool.false_eq_true, if_false, List.drop_succ_cons, List.drop_zero] at hy
        rw [hy]
        refine ⟨fun _ => by decide, hR.mono ?_⟩
        rintro e W3 ⟨rfl, hj3, ha3, hb3, hbl⟩
        simp only [rx, ry, pt, tkx, tky, if_true, Bool.false_eq_true, if_false, List.drop_succ_cons, List.drop_zero] at hj3
        have hj4 := Aside0.mk hj3
        have ha4 := Aside0.mk (ha3.trans a2)
        have hb4 := Aside0.mk (hb3.trans b2)
        have B4 := Aside0.mk ((B0.out.trans S2.below).trans hbl)
        clear hj3 ha3 hb3 hbl a2 b2 S2 hy hR hW2 e0 e1 f0 f1
        dsimp only
        gi_wp2
        gi_roundg (0 + ys.length)
        case measure => simp
        case rel => exact ⟨[], ys, A, c, Ab, d - 1, rfl, hC0.out, HCdb.out, hx1.out, by have := HCLb.out; omega, B4.out, ha4.out, hb4.out, hj4.out⟩
    | cons x xs =>
      cases ys with
      | nil =>
        obtain ⟨ad, rfl, _⟩ := at_T61 hC0.out 0 (by decide) (by simp)
        have hcl : xs.length + 1 ≤ c := by have := hx1.out; simpa using this
        have hcut := cut_from (P := Try.prog) 30 61 .i64 hu30 hi61 5 hs61 (some ad) (xs.length + 1) c 1 (by decide) (by omega)
        obtain ⟨A', hA'⟩ : ∃ A', (if c = (1 : Int).toNat then some ad else (some ad).map (·.add ((1 : Int).toNat * 5))) = A' := ⟨_, rfl⟩
        rw [hA'] at hcut
        have hCd := Kd.C_drop (m := 1) (c := c) hC0.out (by simp) (by simpa using hcl)
        have hCd' : Kd.C k61 w0 A' xs.length xs := by rw [← hA']; exact hCd
        have HCd := Aside0.mk hCd'
        have HA' := Aside0.mk hA'
        have HCL := Aside0.mk hcl
        clear hCd hCd' hA' hcl
        have t0 : decide ((0 : Int) < (xs.length : Int) + 1) = true := decide_eq_true (by omega)
        have t2 : ((xs.length : Int) + 1 == 0) = false := beq_eq_false_iff_ne.mpr (by omega)
        simp only [List.length_nil, List.length_cons] at e0 e1
        gi_wp2
        refine wpIn_wide.2 ?_
        go_quiet (fail)
        gi_wp2
        refine wpIn_wide.2 ?_
        go_quiet (fail)
        gi_wp2
        generalize hW2 : World.setCell _ _ _ = W2
        have S2 : Stab w0.heap.size Ba Bb wr W2 := by rw [← hW2]; exact (((Stab.refl _ _ _ _).drewN _).setA hBa)
        have a2 : W2.heap[Ba]? = some (.cells #[.slice A' xs.length (c - 1)] 30 (0, 0)) := by rw [← hW2]; exact box_set _ K0.out
        have b2 : W2.heap[Bb]? = some (.cells #[.slice B 0 d] 30 (0, 0)) := by rw [← hW2]; exact box_other _ (Ne.symm hne) K1.out
        obtain ⟨fn, tmps, assign, body, hy, hR⟩ := hY (x :: xs) ([]) (some ad) (B) W2 (hJ _ _ _ _ S2 J0.out) (B0.out.trans S2.below) hC0.out hC1.out (.inl (by simp)) ⟨_, a2⟩ ⟨_, b2⟩
        simp only [pt, tkx, tky, if_true, Bool.false_eq_true, if_false, List.drop_succ_cons, List.drop_zero] at hy
        rw [hy]
        refine ⟨fun _ => by decide, hR.mono ?_⟩
        rintro e W3 ⟨rfl, hj3, ha3, hb3, hbl⟩
        simp only [rx, ry, pt, tkx, tky, if_true, Bool.false_eq_true, if_false, List.drop_succ_cons, List.drop_zero] at hj3
        have hj4 := Aside0.mk hj3
        have ha4 := Aside0.mk (ha3.trans a2)
        have hb4 := Aside0.mk (hb3.trans b2)
        have B4 := Aside0.mk ((B0.out.trans S2.below).trans hbl)
        clear hj3 ha3 hb3 hbl a2 b2 S2 hy hR hW2 e0 e1 f0 f1
        dsimp only
        gi_wp2
        gi_roundg (xs.length + 0)
        case measure => simp
        case rel => exact ⟨xs, [], A', c - 1, B, d, rfl, HCd.out, hC1.out, by have := HCL.out; omega, hy1.out, B4.out, ha4.out, hb4.out, hj4.out⟩
      | cons y ys =>
        obtain ⟨ada, rfl, ha0, ha1, ha2, ha3, ha4⟩ := at_T61 hC0.out 0 (by decide) (by simp)
        have hcla : xs.length + 1 ≤ c := by have := hx1.out; simpa using this
        have hcuta := cut_from (P := Try.prog) 30 61 .i64 hu30 hi61 5 hs61 (some ada) (xs.length + 1) c 1 (by decide) (by omega)
        obtain ⟨Aa, hAa⟩ : ∃ A', (if c = (1 : Int).toNat then some ada else (some ada).map (·.add ((1 : Int).toNat * 5))) = A' := ⟨_, rfl⟩
        rw [hAa] at hcuta
        have hCda := Kd.C_drop (m := 1) (c := c) hC0.out (by simp) (by simpa using hcla)
        have hCea : Kd.C k61 w0 Aa xs.length xs := by rw [← hAa]; exact hCda
        have HCda := Aside0.mk hCea
        have HAa := Aside0.mk hAa
        have HCLa := Aside0.mk hcla
        clear hCda hCea hAa hcla
        have ta : decide ((0 : Int) < (xs.length : Int) + 1) = true := decide_eq_true (by omega)
        have na : ((xs.length : Int) + 1 == 0) = false := beq_eq_false_iff_ne.mpr (by omega)
        obtain ⟨adb, rfl, hb0, hb1, hb2, hb3, hb4⟩ := at_T61 hC1.out 0 (by decide) (by simp)
        have hclb : ys.length + 1 ≤ d := by have := hy1.out; simpa using this
        have hcutb := cut_from (P := Try.prog) 30 61 .i64 hu30 hi61 5 hs61 (some adb) (ys.length + 1) d 1 (by decide) (by omega)
        obtain ⟨Ab, hAb⟩ : ∃ A', (if d = (1 : Int).toNat then some adb else (some adb).map (·.add ((1 : Int).toNat * 5))) = A' := ⟨_, rfl⟩
        rw [hAb] at hcutb
        have hCdb := Kd.C_drop (m := 1) (c := d) hC1.out (by simp) (by simpa using hclb)
        have hCeb : Kd.C k61 w0 Ab ys.length ys := by rw [← hAb]; exact hCdb
        have HCdb := Aside0.mk hCeb
        have HAb := Aside0.mk hAb
        have HCLb := Aside0.mk hclb
        clear hCdb hCeb hAb hclb
        have tb : decide ((0 : Int) < (ys.length : Int) + 1) = true := decide_eq_true (by omega)
        have nb : ((ys.length : Int) + 1 == 0) = false := beq_eq_false_iff_ne.mpr (by omega)
        have ca0 : wr.cell? ada = some (.int .i64 x.f0) := zh B0 ha0
        have ca1 : wr.cell? ⟨ada.block, ada.off + 1, none⟩ = some (.int .i64 x.f1) := zh B0 ha1
        have ca2 : wr.cell? ⟨ada.block, ada.off + 2, none⟩ = some (.float .f64 x.f2) := zh B0 ha2
        have ca3 : wr.cell? ⟨ada.block, ada.off + 3, none⟩ = some (.float .f64 x.f3) := zh B0 ha3
        have ca4 : wr.cell? ⟨ada.block, ada.off + 4, none⟩ = some (.int .i64 x.f4) := zh B0 ha4
        have cb0 : wr.cell? adb = some (.int .i64 y.f0) := zh B0 hb0
        have cb1 : wr.cell? ⟨adb.block, adb.off + 1, none⟩ = some (.int .i64 y.f1) := zh B0 hb1
        have cb2 : wr.cell? ⟨adb.block, adb.off + 2, none⟩ = some (.float .f64 y.f2) := zh B0 hb2
        have cb3 : wr.cell? ⟨adb.block, adb.off + 3, none⟩ = some (.float .f64 y.f3) := zh B0 hb3
        have cb4 : wr.cell? ⟨adb.block, adb.off + 4, none⟩ = some (.int .i64 y.f4) := zh B0 hb4
        clear ha0 ha1 ha2 ha3 ha4 hb0 hb1 hb2 hb3 hb4
        simp only [List.length_cons] at e0 e1
        gi_wp2
        refine wpIn_wide.2 ?_
        cases hyx : ahB y x
        · cases hxy : ahB x y
          · have fyx : delta_ahead.f y.f0 y.f1 y.f2 y.f3 y.f4 x.f0 x.f1 x.f2 x.f3 x.f4 = some false := by rw [ahead_f, hyx]
            have fxy : delta_ahead.f x.f0 x.f1 x.f2 x.f3 x.f4 y.f0 y.f1 y.f2 y.f3 y.f4 = some false := by rw [ahead_f, hxy]
            have Hyx := Aside0.mk hyx
            have Hxy := Aside0.mk hxy
            have Fyx := Aside0.mk fyx
            have Fxy := Aside0.mk fxy
            clear hyx hxy fyx fxy
            refine start_ (n := 18) (S := fun w' => w'.cell? ⟨Ba, 0, none⟩ = some (.slice (some ada) (xs.length + 1) c) ∧ w'.cell? ⟨Bb, 0, none⟩ = some (.slice (some adb) (ys.length + 1) d) ∧ w'.cell? ada = some (.int .i64 x.f0) ∧ w'.cell? ⟨ada.block, ada.off + 1, none⟩ = some (.int .i64 x.f1) ∧ w'.cell? ⟨ada.block, ada.off + 2, none⟩ = some (.float .f64 x.f2) ∧ w'.cell? ⟨ada.block, ada.off + 3, none⟩ = some (.float .f64 x.f3) ∧ w'.cell? ⟨ada.block, ada.off + 4, none⟩ = some (.int .i64 x.f4) ∧ w'.cell? adb = some (.int .i64 y.f0) ∧ w'.cell? ⟨adb.block, adb.off + 1, none⟩ = some (.int .i64 y.f1) ∧ w'.cell? ⟨adb.block, adb.off + 2, none⟩ = some (.float .f64 y.f2) ∧ w'.cell? ⟨adb.block, adb.off + 3, none⟩ = some (.float .f64 y.f3) ∧ w'.cell? ⟨adb.block, adb.off + 4, none⟩ = some (.int .i64 y.f4)) (ds := []) #[false, false, false, false, false, false, false, false, false, false, false, false, false, false, false, false, false, false] (by kernel_rfl) rfl rfl ⟨e0, e1, ca0, ca1, ca2, ca3, ca4, cb0, cb1, cb2, cb3, cb4⟩ (fun hHeld => ?_)
            refine with_tabW both1.tab2 both1.bits2 (fun HT_ HW_ => ?_)
            generalize hwd : World.drew _ = wd at hHeld ⊢
            refine tz 0 14 #[true, false, false, false, false, false, false, false, false, false, false, false, false, false, false, false, false, false] HT_.1 HW_.1 hHeld ?_
            refine pz 1 15 #[true, true, false, false, false, false, false, false, false, false, false, false, false, false, false, false, false, false] HT_.1 ?_
            refine pz 2 16 #[true, true, true, false, false, false, false, false, false, false, false, false, false, false, false, false, false, false] HT_.1 ?_
            refine pz 3 17 #[true, true, true, true, false, false, false, false, false, false, false, false, false, false, false, false, false, false] HT_.1 ?_
            refine tz 4 18 #[true, true, true, true, true, false, false, false, false, false, false, false, false, false, false, false, false, false] HT_.1 HW_.1 hHeld ?_
            refine pz 5 19 #[true, true, true, true, true, true, false, false, false, false, false, false, false, false, false, false, false, false] HT_.1 ?_
            refine pz 6 20 #[true, true, true, true, true, true, true, false, false, false, false, false, false, false, false, false, false, false] HT_.1 ?_
            refine pz 7 21 #[true, true, true, true, true, true, true, true, false, false, false, false, false, false, false, false, false, false] HT_.1 ?_
            refine tz 8 22 #[true, true, true, true, true, true, true, true, true, false, false, false, false, false, false, false, false, false] HT_.1 HW_.1 hHeld ?_
            refine pz 9 23 #[true, true, true, true, true, true, true, true, true, true, false, false, false, false, false, false, false, false] HT_.1 ?_
            refine tz 10 24 #[true, true, true, true, true, true, true, true, true, true, true, false, false, false, false, false, false, false] HT_.1 HW_.1 hHeld ?_
            refine tz 11 25 #[true, true, true, true, true, true, true, true, true, true, true, true, false, false, false, false, false, false] HT_.1 HW_.1 hHeld ?_
            refine pz 12 26 #[true, true, true, true, true, true, true, true, true, true, true, true, true, false, false, false, false, false] HT_.1 ?_
            refine tz 13 27 #[true, true, true, true, true, true, true, true, true, true, true, true, true, true, false, false, false, false] HT_.1 HW_.1 hHeld ?_
            refine one_ (i := 14) (N := some 28) #[true, true, true, true, true, true, true, true, true, true, true, true, true, true, true, false, false, false] rfl rfl (one_of HT_.out (by kernel_rfl)) (by decide) (fun K hK => ?_)
            refine zo_ Try.func48 #[.agg #[.int .i64 y.f0, .int .i64 y.f1, .float .f64 y.f2, .float .f64 y.f3, .int .i64 y.f4], .agg #[.int .i64 x.f0, .int .i64 x.f1, .float .f64 x.f2, .float .f64 x.f3, .int .i64 x.f4]] ?_
            refine (delta_ahead.calls y.f0 y.f1 y.f2 y.f3 y.f4 x.f0 x.f1 x.f2 x.f3 x.f4 false _ Fyx.out).mono ?_
            rintro e wE ⟨rfl, hbE⟩
            refine ⟨_, rfl, ?_⟩
            have HBE := Aside0.mk hbE
            obtain ⟨z0, z1, z2, z3, z4, z5, z6, z7, z8, z9, z10, z11⟩ := hHeld
            refine hK.out _ _ ⟨zh HBE z0, zh HBE z1, zh HBE z2, zh HBE z3, zh HBE z4, zh HBE z5, zh HBE z6, zh HBE z7, zh HBE z8, zh HBE z9, zh HBE z10, zh HBE z11⟩ (fun hHeld => ?_)
            clear hK K
            refine nz 28 ?_
            refine pz 15 29 #[true, true, true, true, true, true, true, true, true, true, true, true, true, true, true, true, false, false] HT_.1 ?_
            refine pz 16 30 #[true, true, true, true, true, true, true, true, true, true, true, true, true, true, true, true, true, false] HT_.1 ?_
            refine pz 17 31 #[true, true, true, true, true, true, true, true, true, true, true, true, true, true, true, true, true, true] HT_.1 ?_
            refine done_ (done_of HT_.out (by kernel_rfl)) ?_
            have Sa : Stab w0.heap.size Ba Bb wr wE := by
              rw [← hwd] at HBE
              exact (Stab.refl _ _ _ _).drew.trans (stab_of_below (by have := B0.out.size; exact this) HBE.out)
            have Ka0 : Aside0 (wE.heap[Ba]? = some (.cells #[.slice (some ada) (xs.length + 1) c] 30 (0, 0))) := by
              rw [← hwd] at HBE
              exact ⟨(HBE.out.block Ba (blk_lt K0.out)).trans K0.out⟩
            have Ka1 : Aside0 (wE.heap[Bb]? = some (.cells #[.slice (some adb) (ys.length + 1) d] 30 (0, 0))) := by
              rw [← hwd] at HBE
              exact ⟨(HBE.out.block Bb (blk_lt K1.out)).trans K1.out⟩
            have SSa := Sa
            have BW := Aside0.mk (B0.out.trans SSa.below)
            clear e0 e1 f0 f1 ca0 ca1 ca2 ca3 ca4 cb0 cb1 cb2 cb3 cb4 hbE HBE
            obtain ⟨e0, e1, ca0, ca1, ca2, ca3, ca4, cb0, cb1, cb2, cb3, cb4⟩ := hHeld
            have f0 : wE.frozen? ⟨Ba, 0, none⟩ = false := blk_frozen Ka0.out 0
            have f1 : wE.frozen? ⟨Bb, 0, none⟩ = false := blk_frozen Ka1.out 0
            clear hwd Sa
            skip
            gi_wp2
            refine wpIn_wide.2 ?_
            refine start_ (n := 18) (S := fun w' => w'.cell? ⟨Ba, 0, none⟩ = some (.slice (some ada) (xs.length + 1) c) ∧ w'.cell? ⟨Bb, 0, none⟩ = some (.slice (some adb) (ys.length + 1) d) ∧ w'.cell? ada = some (.int .i64 x.f0) ∧ w'.cell? ⟨ada.block, ada.off + 1, none⟩ = some (.int .i64 x.f1) ∧ w'.cell? ⟨ada.block, ada.off + 2, none⟩ = some (.float .f64 x.f2) ∧ w'.cell? ⟨ada.block, ada.off + 3, none⟩ = some (.float .f64 x.f3) ∧ w'.cell? ⟨ada.block, ada.off + 4, none⟩ = some (.int .i64 x.f4) ∧ w'.cell? adb = some (.int .i64 y.f0) ∧ w'.cell? ⟨adb.block, adb.off + 1, none⟩ = some (.int .i64 y.f1) ∧ w'.cell? ⟨adb.block, adb.off + 2, none⟩ = some (.float .f64 y.f2) ∧ w'.cell? ⟨adb.block, adb.off + 3, none⟩ = some (.float .f64 y.f3) ∧ w'.cell? ⟨adb.block, adb.off + 4, none⟩ = some (.int .i64 y.f4)) (ds := []) #[false, false, false, false, false, false, false, false, false, false, false, false, false, false, false, false, false, false] (by kernel_rfl) rfl rfl ⟨e0, e1, ca0, ca1, ca2, ca3, ca4, cb0, cb1, cb2, cb3, cb4⟩ (fun hHeld => ?_)
            refine with_tabW both1.tab4 both1.bits4 (fun HT_ HW_ => ?_)
            generalize hwd : World.drew _ = wd at hHeld ⊢
            refine tz 0 34 #[true, false, false, false, false, false, false, false, false, false, false, false, false, false, false, false, false, false] HT_.1 HW_.1 hHeld ?_
            refine pz 1 35 #[true, true, false, false, false, false, false, false, false, false, false, false, false, false, false, false, false, false] HT_.1 ?_
            refine pz 2 36 #[true, true, true, false, false, false, false, false, false, false, false, false, false, false, false, false, false, false] HT_.1 ?_
            refine pz 3 37 #[true, true, true, true, false, false, false, false, false, false, false, false, false, false, false, false, false, false] HT_.1 ?_
            refine tz 4 38 #[true, true, true, true, true, false, false, false, false, false, false, false, false, false, false, false, false, false] HT_.1 HW_.1 hHeld ?_
            refine pz 5 39 #[true, true, true, true, true, true, false, false, false, false, false, false, false, false, false, false, false, false] HT_.1 ?_
            refine pz 6 40 #[true, true, true, true, true, true, true, false, false, false, false, false, false, false, false, false, false, false] HT_.1 ?_
            refine pz 7 41 #[true, true, true, true, true, true, true, true, false, false, false, false, false, false, false, false, false, false] HT_.1 ?_
            refine tz 8 42 #[true, true, true, true, true, true, true, true, true, false, false, false, false, false, false, false, false, false] HT_.1 HW_.1 hHeld ?_
            refine pz 9 43 #[true, true, true, true, true, true, true, true, true, true, false, false, false, false, false, false, false, false] HT_.1 ?_
            refine tz 10 44 #[true, true, true, true, true, true, true, true, true, true, true, false, false, false, false, false, false, false] HT_.1 HW_.1 hHeld ?_
            refine tz 11 45 #[true, true, true, true, true, true, true, true, true, true, true, true, false, false, false, false, false, false] HT_.1 HW_.1 hHeld ?_
            refine pz 12 46 #[true, true, true, true, true, true, true, true, true, true, true, true, true, false, false, false, false, false] HT_.1 ?_
            refine tz 13 47 #[true, true, true, true, true, true, true, true, true, true, true, true, true, true, false, false, false, false] HT_.1 HW_.1 hHeld ?_
            refine one_ (i := 14) (N := some 48) #[true, true, true, true, true, true, true, true, true, true, true, true, true, true, true, false, false, false] rfl rfl (one_of HT_.out (by kernel_rfl)) (by decide) (fun K hK => ?_)
            refine zo_ Try.func48 #[.agg #[.int .i64 x.f0, .int .i64 x.f1, .float .f64 x.f2, .float .f64 x.f3, .int .i64 x.f4], .agg #[.int .i64 y.f0, .int .i64 y.f1, .float .f64 y.f2, .float .f64 y.f3, .int .i64 y.f4]] ?_
            refine (delta_ahead.calls x.f0 x.f1 x.f2 x.f3 x.f4 y.f0 y.f1 y.f2 y.f3 y.f4 false _ Fxy.out).mono ?_
            rintro e wF ⟨rfl, hbE⟩
            refine ⟨_, rfl, ?_⟩
            have HBE := Aside0.mk hbE
            obtain ⟨z0, z1, z2, z3, z4, z5, z6, z7, z8, z9, z10, z11⟩ := hHeld
            refine hK.out _ _ ⟨zh HBE z0, zh HBE z1, zh HBE z2, zh HBE z3, zh HBE z4, zh HBE z5, zh HBE z6, zh HBE z7, zh HBE z8, zh HBE z9, zh HBE z10, zh HBE z11⟩ (fun hHeld => ?_)
            clear hK K
            refine nz 48 ?_
            refine pz 15 49 #[true, true, true, true, true, true, true, true, true, true, true, true, true, true, true, true, false, false] HT_.1 ?_
            refine pz 16 50 #[true, true, true, true, true, true, true, true, true, true, true, true, true, true, true, true, true, false] HT_.1 ?_
            refine pz 17 51 #[true, true, true, true, true, true, true, true, true, true, true, true, true, true, true, true, true, true] HT_.1 ?_
            refine done_ (done_of HT_.out (by kernel_rfl)) ?_
            have Sb : Stab w0.heap.size Ba Bb wE wF := by
              rw [← hwd] at HBE
              exact (Stab.refl _ _ _ _).drew.trans (stab_of_below (by have := BW.out.size; exact this) HBE.out)
            have Kb0 : Aside0 (wF.heap[Ba]? = some (.cells #[.slice (some ada) (xs.length + 1) c] 30 (0, 0))) := by
              rw [← hwd] at HBE
              exact ⟨(HBE.out.block Ba (blk_lt Ka0.out)).trans Ka0.out⟩
            have Kb1 : Aside0 (wF.heap[Bb]? = some (.cells #[.slice (some adb) (ys.length + 1) d] 30 (0, 0))) := by
              rw [← hwd] at HBE
              exact ⟨(HBE.out.block Bb (blk_lt Ka1.out)).trans Ka1.out⟩
            have SSb := SSa.trans Sb
            have BX := Aside0.mk (B0.out.trans SSb.below)
            clear e0 e1 f0 f1 ca0 ca1 ca2 ca3 ca4 cb0 cb1 cb2 cb3 cb4 hbE HBE
            obtain ⟨e0, e1, ca0, ca1, ca2, ca3, ca4, cb0, cb1, cb2, cb3, cb4⟩ := hHeld
            have f0 : wF.frozen? ⟨Ba, 0, none⟩ = false := blk_frozen Kb0.out 0
            have f1 : wF.frozen? ⟨Bb, 0, none⟩ = false := blk_frozen Kb1.out 0
            clear hwd Sb
            skip
            gi_wp2
            generalize hW2 : World.setCell _ _ _ = W2
            have S2 : Stab w0.heap.size Ba Bb wr W2 := by rw [← hW2]; exact ((SSb.setA hBa).setB hBb)
            have a2 : W2.heap[Ba]? = some (.cells #[.slice Aa xs.length (c - 1)] 30 (0, 0)) := by rw [← hW2]; exact box_other _ hne (box_set _ Kb0.out)
            have b2 : W2.heap[Bb]? = some (.cells #[.slice Ab ys.length (d - 1)] 30 (0, 0)) := by rw [← hW2]; exact box_set _ (box_other _ (Ne.symm hne) (Kb1.out))
            obtain ⟨fn, tmps, assign, body, hy, hR⟩ := hY (x :: xs) (y :: ys) (some ada) (some adb) W2 (hJ _ _ _ _ S2 J0.out) (B0.out.trans S2.below) hC0.out hC1.out (.inl (by simp)) ⟨_, a2⟩ ⟨_, b2⟩
            simp only [pt, tkx, tky, if_true, Bool.false_eq_true, if_false, List.drop_succ_cons, List.drop_zero, Hyx.out, Hxy.out, Bool.not_true, Bool.not_false] at hy
            rw [hy]
            refine ⟨fun _ => by decide, hR.mono ?_⟩
            rintro e W3 ⟨rfl, hj3, ha3, hb3, hbl⟩
            simp only [rx, ry, pt, tkx, tky, if_true, Bool.false_eq_true, if_false, List.drop_succ_cons, List.drop_zero, Hyx.out, Hxy.out, Bool.not_true, Bool.not_false] at hj3
            have hj4 := Aside0.mk hj3
            have ha4 := Aside0.mk (ha3.trans a2)
            have hb4 := Aside0.mk (hb3.trans b2)
            have B4 := Aside0.mk ((B0.out.trans S2.below).trans hbl)
            clear hj3 ha3 hb3 hbl a2 b2 S2 hy hR hW2 e0 e1 ca0 ca1 ca2 ca3 ca4 cb0 cb1 cb2 cb3 cb4 f0 f1
            dsimp only
            gi_wp2
            gi_roundg (xs.length + ys.length)
            case measure => simp <;> omega
            case rel => exact ⟨xs, ys, Aa, c - 1, Ab, d - 1, rfl, HCda.out, HCdb.out, by have := HCLa.out; omega, by have := HCLb.out; omega, B4.out, ha4.out, hb4.out, hj4.out⟩
          · have fyx : delta_ahead.f y.f0 y.f1 y.f2 y.f3 y.f4 x.f0 x.f1 x.f2 x.f3 x.f4 = some false := by rw [ahead_f, hyx]
            have fxy : delta_ahead.f x.f0 x.f1 x.f2 x.f3 x.f4 y.f0 y.f1 y.f2 y.f3 y.f4 = some true := by rw [ahead_f, hxy]
            have Hyx := Aside0.mk hyx
            have Hxy := Aside0.mk hxy
            have Fyx := Aside0.mk fyx
            have Fxy := Aside0.mk fxy
            clear hyx hxy fyx fxy
            refine start_ (n := 18) (S := fun w' => w'.cell? ⟨Ba, 0, none⟩ = some (.slice (some ada) (xs.length + 1) c) ∧ w'.cell? ⟨Bb, 0, none⟩ = some (.slice (some adb) (ys.length + 1) d) ∧ w'.cell? ada = some (.int .i64 x.f0) ∧ w'.cell? ⟨ada.block, ada.off + 1, none⟩ = some (.int .i64 x.f1) ∧ w'.cell? ⟨ada.block, ada.off + 2, none⟩ = some (.float .f64 x.f2) ∧ w'.cell? ⟨ada.block, ada.off + 3, none⟩ = some (.float .f64 x.f3) ∧ w'.cell? ⟨ada.block, ada.off + 4, none⟩ = some (.int .i64 x.f4) ∧ w'.cell? adb = some (.int .i64 y.f0) ∧ w'.cell? ⟨adb.block, adb.off + 1, none⟩ = some (.int .i64 y.f1) ∧ w'.cell? ⟨adb.block, adb.off + 2, none⟩ = some (.float .f64 y.f2) ∧ w'.cell? ⟨adb.block, adb.off + 3, none⟩ = some (.float .f64 y.f3) ∧ w'.cell? ⟨adb.block, adb.off + 4, none⟩ = some (.int .i64 y.f4)) (ds := []) #[false, false, false, false, false, false, false, false, false, false, false, false, false, false, false, false, false, false] (by kernel_rfl) rfl rfl ⟨e0, e1, ca0, ca1, ca2, ca3, ca4, cb0, cb1, cb2, cb3, cb4⟩ (fun hHeld => ?_)
            refine with_tabW both1.tab2 both1.bits2 (fun HT_ HW_ => ?_)
            generalize hwd : World.drew _ = wd at hHeld ⊢
            refine tz 0 14 #[true, false, false, false, false, false, false, false, false, false, false, false, false, false, false, false, false, false] HT_.1 HW_.1 hHeld ?_
            refine pz 1 15 #[true, true, false, false, false, false, false, false, false, false, false, false, false, false, false, false, false, false] HT_.1 ?_
            refine pz 2 16 #[true, true, true, false, false, false, false, false, false, false, false, false, false, false, false, false, false, false] HT_.1 ?_
            refine pz 3 17 #[true, true, true, true, false, false, false, false, false, false, false, false, false, false, false, false, false, false] HT_.1 ?_
            refine tz 4 18 #[true, true, true, true, true, false, false, false, false, false, false, false, false, false, false, false, false, false] HT_.1 HW_.1 hHeld ?_
            refine pz 5 19 #[true, true, true, true, true, true, false, false, false, false, false, false, false, false, false, false, false, false] HT_.1 ?_
            refine pz 6 20 #[true, true, true, true, true, true, true, false, false, false, false, false, false, false, false, false, false, false] HT_.1 ?_
            refine pz 7 21 #[true, true, true, true, true, true, true, true, false, false, false, false, false, false, false, false, false, false] HT_.1 ?_
            refine tz 8 22 #[true, true, true, true, true, true, true, true, true, false, false, false, false, false, false, false, false, false] HT_.1 HW_.1 hHeld ?_
            refine pz 9 23 #[true, true, true, true, true, true, true, true, true, true, false, false, false, false, false, false, false, false] HT_.1 ?_
            refine tz 10 24 #[true, true, true, true, true, true, true, true, true, true, true, false, false, false, false, false, false, false] HT_.1 HW_.1 hHeld ?_
            refine tz 11 25 #[true, true, true, true, true, true, true, true, true, true, true, true, false, false, false, false, false, false] HT_.1 HW_.1 hHeld ?_
            refine pz 12 26 #[true, true, true, true, true, true, true, true, true, true, true, true, true, false, false, false, false, false] HT_.1 ?_
            refine tz 13 27 #[true, true, true, true, true, true, true, true, true, true, true, true, true, true, false, false, false, false] HT_.1 HW_.1 hHeld ?_
            refine one_ (i := 14) (N := some 28) #[true, true, true, true, true, true, true, true, true, true, true, true, true, true, true, false, false, false] rfl rfl (one_of HT_.out (by kernel_rfl)) (by decide) (fun K hK => ?_)
            refine zo_ Try.func48 #[.agg #[.int .i64 y.f0, .int .i64 y.f1, .float .f64 y.f2, .float .f64 y.f3, .int .i64 y.f4], .agg #[.int .i64 x.f0, .int .i64 x.f1, .float .f64 x.f2, .float .f64 x.f3, .int .i64 x.f4]] ?_
            refine (delta_ahead.calls y.f0 y.f1 y.f2 y.f3 y.f4 x.f0 x.f1 x.f2 x.f3 x.f4 false _ Fyx.out).mono ?_
            rintro e wE ⟨rfl, hbE⟩
            refine ⟨_, rfl, ?_⟩
            have HBE := Aside0.mk hbE
            obtain ⟨z0, z1, z2, z3, z4, z5, z6, z7, z8, z9, z10, z11⟩ := hHeld
            refine hK.out _ _ ⟨zh HBE z0, zh HBE z1, zh HBE z2, zh HBE z3, zh HBE z4, zh HBE z5, zh HBE z6, zh HBE z7, zh HBE z8, zh HBE z9, zh HBE z10, zh HBE z11⟩ (fun hHeld => ?_)
            clear hK K
            refine nz 28 ?_
            refine pz 15 29 #[true, true, true, true, true, true, true, true, true, true, true, true, true, true, true, true, false, false] HT_.1 ?_
            refine pz 16 30 #[true, true, true, true, true, true, true, true, true, true, true, true, true, true, true, true, true, false] HT_.1 ?_
            refine pz 17 31 #[true, true, true, true, true, true, true, true, true, true, true, true, true, true, true, true, true, true] HT_.1 ?_
            refine done_ (done_of HT_.out (by kernel_rfl)) ?_
            have Sa : Stab w0.heap.size Ba Bb wr wE := by
              rw [← hwd] at HBE
              exact (Stab.refl _ _ _ _).drew.trans (stab_of_below (by have := B0.out.size; exact this) HBE.out)
            have Ka0 : Aside0 (wE.heap[Ba]? = some (.cells #[.slice (some ada) (xs.length + 1) c] 30 (0, 0))) := by
              rw [← hwd] at HBE
              exact ⟨(HBE.out.block Ba (blk_lt K0.out)).trans K0.out⟩
            have Ka1 : Aside0 (wE.heap[Bb]? = some (.cells #[.slice (some adb) (ys.length + 1) d] 30 (0, 0))) := by
              rw [← hwd] at HBE
              exact ⟨(HBE.out.block Bb (blk_lt K1.out)).trans K1.out⟩
            have SSa := Sa
            have BW := Aside0.mk (B0.out.trans SSa.below)
            clear e0 e1 f0 f1 ca0 ca1 ca2 ca3 ca4 cb0 cb1 cb2 cb3 cb4 hbE HBE
            obtain ⟨e0, e1, ca0, ca1, ca2, ca3, ca4, cb0, cb1, cb2, cb3, cb4⟩ := hHeld
            have f0 : wE.frozen? ⟨Ba, 0, none⟩ = false := blk_frozen Ka0.out 0
            have f1 : wE.frozen? ⟨Bb, 0, none⟩ = false := blk_frozen Ka1.out 0
            clear hwd Sa
            skip
            gi_wp2
            refine wpIn_wide.2 ?_
            refine start_ (n := 18) (S := fun w' => w'.cell? ⟨Ba, 0, none⟩ = some (.slice (some ada) (xs.length + 1) c) ∧ w'.cell? ⟨Bb, 0, none⟩ = some (.slice (some adb) (ys.length + 1) d) ∧ w'.cell? ada = some (.int .i64 x.f0) ∧ w'.cell? ⟨ada.block, ada.off + 1, none⟩ = some (.int .i64 x.f1) ∧ w'.cell? ⟨ada.block, ada.off + 2, none⟩ = some (.float .f64 x.f2) ∧ w'.cell? ⟨ada.block, ada.off + 3, none⟩ = some (.float .f64 x.f3) ∧ w'.cell? ⟨ada.block, ada.off + 4, none⟩ = some (.int .i64 x.f4) ∧ w'.cell? adb = some (.int .i64 y.f0) ∧ w'.cell? ⟨adb.block, adb.off + 1, none⟩ = some (.int .i64 y.f1) ∧ w'.cell? ⟨adb.block, adb.off + 2, none⟩ = some (.float .f64 y.f2) ∧ w'.cell? ⟨adb.block, adb.off + 3, none⟩ = some (.float .f64 y.f3) ∧ w'.cell? ⟨adb.block, adb.off + 4, none⟩ = some (.int .i64 y.f4)) (ds := []) #[false, false, false, false, false, false, false, false, false, false, false, false, false, false, false, false, false, false] (by kernel_rfl) rfl rfl ⟨e0, e1, ca0, ca1, ca2, ca3, ca4, cb0, cb1, cb2, cb3, cb4⟩ (fun hHeld => ?_)
            refine with_tabW both1.tab4 both1.bits4 (fun HT_ HW_ => ?_)
            generalize hwd : World.drew _ = wd at hHeld ⊢
            refine tz 0 34 #[true, false, false, false, false, false, false, false, false, false, false, false, false, false, false, false, false, false] HT_.1 HW_.1 hHeld ?_
            refine pz 1 35 #[true, true, false, false, false, false, false, false, false, false, false, false, false, false, false, false, false, false] HT_.1 ?_
            refine pz 2 36 #[true, true, true, false, false, false, false, false, false, false, false, false, false, false, false, false, false, false] HT_.1 ?_
            refine pz 3 37 #[true, true, true, true, false, false, false, false, false, false, false, false, false, false, false, false, false, false] HT_.1 ?_
            refine tz 4 38 #[true, true, true, true, true, false, false, false, false, false, false, false, false, false, false, false, false, false] HT_.1 HW_.1 hHeld ?_
            refine pz 5 39 #[true, true, true, true, true, true, false, false, false, false, false, false, false, false, false, false, false, false] HT_.1 ?_
            refine pz 6 40 #[true, true, true, true, true, true, true, false, false, false, false, false, false, false, false, false, false, false] HT_.1 ?_
            refine pz 7 41 #[true, true, true, true, true, true, true, true, false, false, false, false, false, false, false, false, false, false] HT_.1 ?_
            refine tz 8 42 #[true, true, true, true, true, true, true, true, true, false, false, false, false, false, false, false, false, false] HT_.1 HW_.1 hHeld ?_
            refine pz 9 43 #[true, true, true, true, true, true, true, true, true, true, false, false, false, false, false, false, false, false] HT_.1 ?_
            refine tz 10 44 #[true, true, true, true, true, true, true, true, true, true, true, false, false, false, false, false, false, false] HT_.1 HW_.1 hHeld ?_
            refine tz 11 45 #[true, true, true, true, true, true, true, true, true, true, true, true, false, false, false, false, false, false] HT_.1 HW_.1 hHeld ?_
            refine pz 12 46 #[true, true, true, true, true, true, true, true, true, true, true, true, true, false, false, false, false, false] HT_.1 ?_
            refine tz 13 47 #[true, true, true, true, true, true, true, true, true, true, true, true, true, true, false, false, false, false] HT_.1 HW_.1 hHeld ?_
            refine one_ (i := 14) (N := some 48) #[true, true, true, true, true, true, true, true, true, true, true, true, true, true, true, false, false, false] rfl rfl (one_of HT_.out (by kernel_rfl)) (by decide) (fun K hK => ?_)
            refine zo_ Try.func48 #[.agg #[.int .i64 x.f0, .int .i64 x.f1, .float .f64 x.f2, .float .f64 x.f3, .int .i64 x.f4], .agg #[.int .i64 y.f0, .int .i64 y.f1, .float .f64 y.f2, .float .f64 y.f3, .int .i64 y.f4]] ?_
            refine (delta_ahead.calls x.f0 x.f1 x.f2 x.f3 x.f4 y.f0 y.f1 y.f2 y.f3 y.f4 true _ Fxy.out).mono ?_
            rintro e wF ⟨rfl, hbE⟩
            refine ⟨_, rfl, ?_⟩
            have HBE := Aside0.mk hbE
            obtain ⟨z0, z1, z2, z3, z4, z5, z6, z7, z8, z9, z10, z11⟩ := hHeld
            refine hK.out _ _ ⟨zh HBE z0, zh HBE z1, zh HBE z2, zh HBE z3, zh HBE z4, zh HBE z5, zh HBE z6, zh HBE z7, zh HBE z8, zh HBE z9, zh HBE z10, zh HBE z11⟩ (fun hHeld => ?_)
            clear hK K
            refine nz 48 ?_
            refine pz 15 49 #[true, true, true, true, true, true, true, true, true, true, true, true, true, true, true, true, false, false] HT_.1 ?_
            refine pz 16 50 #[true, true, true, true, true, true, true, true, true, true, true, true, true, true, true, true, true, false] HT_.1 ?_
            refine pz 17 51 #[true, true, true, true, true, true, true, true, true, true, true, true, true, true, true, true, true, true] HT_.1 ?_
            refine done_ (done_of HT_.out (by kernel_rfl)) ?_
            have Sb : Stab w0.heap.size Ba Bb wE wF := by
              rw [← hwd] at HBE
              exact (Stab.refl _ _ _ _).drew.trans (stab_of_below (by have := BW.out.size; exact this) HBE.out)
            have Kb0 : Aside0 (wF.heap[Ba]? = some (.cells #[.slice (some ada) (xs.length + 1) c] 30 (0, 0))) := by
              rw [← hwd] at HBE
              exact ⟨(HBE.out.block Ba (blk_lt Ka0.out)).trans Ka0.out⟩
            have Kb1 : Aside0 (wF.heap[Bb]? = some (.cells #[.slice (some adb) (ys.length + 1) d] 30 (0, 0))) := by
              rw [← hwd] at HBE
              exact ⟨(HBE.out.block Bb (blk_lt Ka1.out)).trans Ka1.out⟩
            have SSb := SSa.trans Sb
            have BX := Aside0.mk (B0.out.trans SSb.below)
            clear e0 e1 f0 f1 ca0 ca1 ca2 ca3 ca4 cb0 cb1 cb2 cb3 cb4 hbE HBE
            obtain ⟨e0, e1, ca0, ca1, ca2, ca3, ca4, cb0, cb1, cb2, cb3, cb4⟩ := hHeld
            have f0 : wF.frozen? ⟨Ba, 0, none⟩ = false := blk_frozen Kb0.out 0
            have f1 : wF.frozen? ⟨Bb, 0, none⟩ = false := blk_frozen Kb1.out 0
            clear hwd Sb
            skip
            gi_wp2
            generalize hW2 : World.setCell _ _ _ = W2
            have S2 : Stab w0.heap.size Ba Bb wr W2 := by rw [← hW2]; exact (SSb.setA hBa)
            have a2 : W2.heap[Ba]? = some (.cells #[.slice Aa xs.length (c - 1)] 30 (0, 0)) := by rw [← hW2]; exact box_set _ Kb0.out
            have b2 : W2.heap[Bb]? = some (.cells #[.slice (some adb) (ys.length + 1) d] 30 (0, 0)) := by rw [← hW2]; exact box_other _ (Ne.symm hne) (Kb1.out)
            obtain ⟨fn, tmps, assign, body, hy, hR⟩ := hY (x :: xs) (y :: ys) (some ada) (some adb) W2 (hJ _ _ _ _ S2 J0.out) (B0.out.trans S2.below) hC0.out hC1.out (.inl (by simp)) ⟨_, a2⟩ ⟨_, b2⟩
            simp only [pt, tkx, tky, if_true, Bool.false_eq_true, if_false, List.drop_succ_cons, List.drop_zero, Hyx.out, Hxy.out, Bool.not_true, Bool.not_false] at hy
            rw [hy]
            refine ⟨fun _ => by decide, hR.mono ?_⟩
            rintro e W3 ⟨rfl, hj3, ha3, hb3, hbl⟩
            simp only [rx, ry, pt, tkx, tky, if_true, Bool.false_eq_true, if_false, List.drop_succ_cons, List.drop_zero, Hyx.out, Hxy.out, Bool.not_true, Bool.not_false] at hj3
            have hj4 := Aside0.mk hj3
            have ha4 := Aside0.mk (ha3.trans a2)
            have hb4 := Aside0.mk (hb3.trans b2)
            have B4 := Aside0.mk ((B0.out.trans S2.below).trans hbl)
            clear hj3 ha3 hb3 hbl a2 b2 S2 hy hR hW2 e0 e1 ca0 ca1 ca2 ca3 ca4 cb0 cb1 cb2 cb3 cb4 f0 f1
            dsimp only
            gi_wp2
            gi_roundg (xs.length + (ys.length + 1))
            case measure => simp <;> omega
            case rel => exact ⟨xs, y :: ys, Aa, c - 1, some adb, d, rfl, HCda.out, hC1.out, by have := HCLa.out; omega, hy1.out, B4.out, ha4.out, hb4.out, hj4.out⟩
        · have hxy := ahB_asymm hyx
          have fyx : delta_ahead.f y.f0 y.f1 y.f2 y.f3 y.f4 x.f0 x.f1 x.f2 x.f3 x.f4 = some true := by rw [ahead_f, hyx]
          have fxy : delta_ahead.f x.f0 x.f1 x.f2 x.f3 x.f4 y.f0 y.f1 y.f2 y.f3 y.f4 = some false := by rw [ahead_f, hxy]
          have Hyx := Aside0.mk hyx
          have Hxy := Aside0.mk hxy
          have Fyx := Aside0.mk fyx
          have Fxy := Aside0.mk fxy
          clear hyx hxy fyx fxy
          refine start_ (n := 18) (S := fun w' => w'.cell? ⟨Ba, 0, none⟩ = some (.slice (some ada) (xs.length + 1) c) ∧ w'.cell? ⟨Bb, 0, none⟩ = some (.slice (some adb) (ys.length + 1) d) ∧ w'.cell? ada = some (.int .i64 x.f0) ∧ w'.cell? ⟨ada.block, ada.off + 1, none⟩ = some (.int .i64 x.f1) ∧ w'.cell? ⟨ada.block, ada.off + 2, none⟩ = some (.float .f64 x.f2) ∧ w'.cell? ⟨ada.block, ada.off + 3, none⟩ = some (.float .f64 x.f3) ∧ w'.cell? ⟨ada.block, ada.off + 4, none⟩ = some (.int .i64 x.f4) ∧ w'.cell? adb = some (.int .i64 y.f0) ∧ w'.cell? ⟨adb.block, adb.off + 1, none⟩ = some (.int .i64 y.f1) ∧ w'.cell? ⟨adb.block, adb.off + 2, none⟩ = some (.float .f64 y.f2) ∧ w'.cell? ⟨adb.block, adb.off + 3, none⟩ = some (.float .f64 y.f3) ∧ w'.cell? ⟨adb.block, adb.off + 4, none⟩ = some (.int .i64 y.f4)) (ds := []) #[false, false, false, false, false, false, false, false, false, false, false, false, false, false, false, false, false, false] (by kernel_rfl) rfl rfl ⟨e0, e1, ca0, ca1, ca2, ca3, ca4, cb0, cb1, cb2, cb3, cb4⟩ (fun hHeld => ?_)
          refine with_tabW both1.tab2 both1.bits2 (fun HT_ HW_ => ?_)
          generalize hwd : World.drew _ = wd at hHeld ⊢
          refine tz 0 14 #[true, false, false, false, false, false, false, false, false, false, false, false, false, false, false, false, false, false] HT_.1 HW_.1 hHeld ?_
          refine pz 1 15 #[true, true, false, false, false, false, false, false, false, false, false, false, false, false, false, false, false, false] HT_.1 ?_
          refine pz 2 16 #[true, true, true, false, false, false, false, false, false, false, false, false, false, false, false, false, false, false] HT_.1 ?_
          refine pz 3 17 #[true, true, true, true, false, false, false, false, false, false, false, false, false, false, false, false, false, false] HT_.1 ?_
          refine tz 4 18 #[true, true, true, true, true, false, false, false, false, false, false, false, false, false, false, false, false, false] HT_.1 HW_.1 hHeld ?_
          refine pz 5 19 #[true, true, true, true, true, true, false, false, false, false, false, false, false, false, false, false, false, false] HT_.1 ?_
          refine pz 6 20 #[true, true, true, true, true, true, true, false, false, false, false, false, false, false, false, false, false, false] HT_.1 ?_
          refine pz 7 21 #[true, true, true, true, true, true, true, true, false, false, false, false, false, false, false, false, false, false] HT_.1 ?_
          refine tz 8 22 #[true, true, true, true, true, true, true, true, true, false, false, false, false, false, false, false, false, false] HT_.1 HW_.1 hHeld ?_
          refine pz 9 23 #[true, true, true, true, true, true, true, true, true, true, false, false, false, false, false, false, false, false] HT_.1 ?_
          refine tz 10 24 #[true, true, true, true, true, true, true, true, true, true, true, false, false, false, false, false, false, false] HT_.1 HW_.1 hHeld ?_
          refine tz 11 25 #[true, true, true, true, true, true, true, true, true, true, true, true, false, false, false, false, false, false] HT_.1 HW_.1 hHeld ?_
          refine pz 12 26 #[true, true, true, true, true, true, true, true, true, true, true, true, true, false, false, false, false, false] HT_.1 ?_
          refine tz 13 27 #[true, true, true, true, true, true, true, true, true, true, true, true, true, true, false, false, false, false] HT_.1 HW_.1 hHeld ?_
          refine one_ (i := 14) (N := some 28) #[true, true, true, true, true, true, true, true, true, true, true, true, true, true, true, false, false, false] rfl rfl (one_of HT_.out (by kernel_rfl)) (by decide) (fun K hK => ?_)
          refine zo_ Try.func48 #[.agg #[.int .i64 y.f0, .int .i64 y.f1, .float .f64 y.f2, .float .f64 y.f3, .int .i64 y.f4], .agg #[.int .i64 x.f0, .int .i64 x.f1, .float .f64 x.f2, .float .f64 x.f3, .int .i64 x.f4]] ?_
          refine (delta_ahead.calls y.f0 y.f1 y.f2 y.f3 y.f4 x.f0 x.f1 x.f2 x.f3 x.f4 true _ Fyx.out).mono ?_
          rintro e wE ⟨rfl, hbE⟩
          refine ⟨_, rfl, ?_⟩
          have HBE := Aside0.mk hbE
          obtain ⟨z0, z1, z2, z3, z4, z5, z6, z7, z8, z9, z10, z11⟩ := hHeld
          refine hK.out _ _ ⟨zh HBE z0, zh HBE z1, zh HBE z2, zh HBE z3, zh HBE z4, zh HBE z5, zh HBE z6, zh HBE z7, zh HBE z8, zh HBE z9, zh HBE z10, zh HBE z11⟩ (fun hHeld => ?_)
          clear hK K
          refine nz 28 ?_
          refine pz 15 29 #[true, true, true, true, true, true, true, true, true, true, true, true, true, true, true, true, false, false] HT_.1 ?_
          refine pz 16 30 #[true, true, true, true, true, true, true, true, true, true, true, true, true, true, true, true, true, false] HT_.1 ?_
          refine pz 17 31 #[true, true, true, true, true, true, true, true, true, true, true, true, true, true, true, true, true, true] HT_.1 ?_
          refine done_ (done_of HT_.out (by kernel_rfl)) ?_
          have Sa : Stab w0.heap.size Ba Bb wr wE := by
            rw [← hwd] at HBE
            exact (Stab.refl _ _ _ _).drew.trans (stab_of_below (by have := B0.out.size; exact this) HBE.out)
          have Ka0 : Aside0 (wE.heap[Ba]? = some (.cells #[.slice (some ada) (xs.length + 1) c] 30 (0, 0))) := by
            rw [← hwd] at HBE
            exact ⟨(HBE.out.block Ba (blk_lt K0.out)).trans K0.out⟩
          have Ka1 : Aside0 (wE.heap[Bb]? = some (.cells #[.slice (some adb) (ys.length + 1) d] 30 (0, 0))) := by
            rw [← hwd] at HBE
            exact ⟨(HBE.out.block Bb (blk_lt K1.out)).trans K1.out⟩
          have SSa := Sa
          have BW := Aside0.mk (B0.out.trans SSa.below)
          clear e0 e1 f0 f1 ca0 ca1 ca2 ca3 ca4 cb0 cb1 cb2 cb3 cb4 hbE HBE
          obtain ⟨e0, e1, ca0, ca1, ca2, ca3, ca4, cb0, cb1, cb2, cb3, cb4⟩ := hHeld
          have f0 : wE.frozen? ⟨Ba, 0, none⟩ = false := blk_frozen Ka0.out 0
          have f1 : wE.frozen? ⟨Bb, 0, none⟩ = false := blk_frozen Ka1.out 0
          clear hwd Sa
          skip
          gi_wp2
          refine wpIn_wide.2 ?_
          refine start_ (n := 18) (S := fun w' => w'.cell? ⟨Ba, 0, none⟩ = some (.slice (some ada) (xs.length + 1) c) ∧ w'.cell? ⟨Bb, 0, none⟩ = some (.slice (some adb) (ys.length + 1) d) ∧ w'.cell? ada = some (.int .i64 x.f0) ∧ w'.cell? ⟨ada.block, ada.off + 1, none⟩ = some (.int .i64 x.f1) ∧ w'.cell? ⟨ada.block, ada.off + 2, none⟩ = some (.float .f64 x.f2) ∧ w'.cell? ⟨ada.block, ada.off + 3, none⟩ = some (.float .f64 x.f3) ∧ w'.cell? ⟨ada.block, ada.off + 4, none⟩ = some (.int .i64 x.f4) ∧ w'.cell? adb = some (.int .i64 y.f0) ∧ w'.cell? ⟨adb.block, adb.off + 1, none⟩ = some (.int .i64 y.f1) ∧ w'.cell? ⟨adb.block, adb.off + 2, none⟩ = some (.float .f64 y.f2) ∧ w'.cell? ⟨adb.block, adb.off + 3, none⟩ = some (.float .f64 y.f3) ∧ w'.cell? ⟨adb.block, adb.off + 4, none⟩ = some (.int .i64 y.f4)) (ds := []) #[false, false, false, false, false, false, false, false, false, false, false, false, false, false, false, false, false, false] (by kernel_rfl) rfl rfl ⟨e0, e1, ca0, ca1, ca2, ca3, ca4, cb0, cb1, cb2, cb3, cb4⟩ (fun hHeld => ?_)
          refine with_tabW both1.tab4 both1.bits4 (fun HT_ HW_ => ?_)
          generalize hwd : World.drew _ = wd at hHeld ⊢
          refine tz 0 34 #[true, false, false, false, false, false, false, false, false, false, false, false, false, false, false, false, false, false] HT_.1 HW_.1 hHeld ?_
          refine pz 1 35 #[true, true, false, false, false, false, false, false, false, false, false, false, false, false, false, false, false, false] HT_.1 ?_
          refine pz 2 36 #[true, true, true, false, false, false, false, false, false, false, false, false, false, false, false, false, false, false] HT_.1 ?_
          refine pz 3 37 #[true, true, true, true, false, false, false, false, false, false, false, false, false, false, false, false, false, false] HT_.1 ?_
          refine tz 4 38 #[true, true, true, true, true, false, false, false, false, false, false, false, false, false, false, false, false, false] HT_.1 HW_.1 hHeld ?_
          refine pz 5 39 #[true, true, true, true, true, true, false, false, false, false, false, false, false, false, false, false, false, false] HT_.1 ?_
          refine pz 6 40 #[true, true, true, true, true, true, true, false, false, false, false, false, false, false, false, false, false, false] HT_.1 ?_
          refine pz 7 41 #[true, true, true, true, true, true, true, true, false, false, false, false, false, false, false, false, false, false] HT_.1 ?_
          refine tz 8 42 #[true, true, true, true, true, true, true, true, true, false, false, false, false, false, false, false, false, false] HT_.1 HW_.1 hHeld ?_
          refine pz 9 43 #[true, true, true, true, true, true, true, true, true, true, false, false, false, false, false, false, false, false] HT_.1 ?_
          refine tz 10 44 #[true, true, true, true, true, true, true, true, true, true, true, false, false, false, false, false, false, false] HT_.1 HW_.1 hHeld ?_
          refine tz 11 45 #[true, true, true, true, true, true, true, true, true, true, true, true, false, false, false, false, false, false] HT_.1 HW_.1 hHeld ?_
          refine pz 12 46 #[true, true, true, true, true, true, true, true, true, true, true, true, true, false, false, false, false, false] HT_.1 ?_
          refine tz 13 47 #[true, true, true, true, true, true, true, true, true, true, true, true, true, true, false, false, false, false] HT_.1 HW_.1 hHeld ?_
          refine one_ (i := 14) (N := some 48) #[true, true, true, true, true, true, true, true, true, true, true, true, true, true, true, false, false, false] rfl rfl (one_of HT_.out (by kernel_rfl)) (by decide) (fun K hK => ?_)
          refine zo_ Try.func48 #[.agg #[.int .i64 x.f0, .int .i64 x.f1, .float .f64 x.f2, .float .f64 x.f3, .int .i64 x.f4], .agg #[.int .i64 y.f0, .int .i64 y.f1, .float .f64 y.f2, .float .f64 y.f3, .int .i64 y.f4]] ?_
          refine (delta_ahead.calls x.f0 x.f1 x.f2 x.f3 x.f4 y.f0 y.f1 y.f2 y.f3 y.f4 false _ Fxy.out).mono ?_
          rintro e wF ⟨rfl, hbE⟩
          refine ⟨_, rfl, ?_⟩
          have HBE := Aside0.mk hbE
          obtain ⟨z0, z1, z2, z3, z4, z5, z6, z7, z8, z9, z10, z11⟩ := hHeld
          refine hK.out _ _ ⟨zh HBE z0, zh HBE z1, zh HBE z2, zh HBE z3, zh HBE z4, zh HBE z5, zh HBE z6, zh HBE z7, zh HBE z8, zh HBE z9, zh HBE z10, zh HBE z11⟩ (fun hHeld => ?_)
          clear hK K
          refine nz 48 ?_
          refine pz 15 49 #[true, true, true, true, true, true, true, true, true, true, true, true, true, true, true, true, false, false] HT_.1 ?_
          refine pz 16 50 #[true, true, true, true, true, true, true, true, true, true, true, true, true, true, true, true, true, false] HT_.1 ?_
          refine pz 17 51 #[true, true, true, true, true, true, true, true, true, true, true, true, true, true, true, true, true, true] HT_.1 ?_
          refine done_ (done_of HT_.out (by kernel_rfl)) ?_
          have Sb : Stab w0.heap.size Ba Bb wE wF := by
            rw [← hwd] at HBE
            exact (Stab.refl _ _ _ _).drew.trans (stab_of_below (by have := BW.out.size; exact this) HBE.out)
          have Kb0 : Aside0 (wF.heap[Ba]? = some (.cells #[.slice (some ada) (xs.length + 1) c] 30 (0, 0))) := by
            rw [← hwd] at HBE
            exact ⟨(HBE.out.block Ba (blk_lt Ka0.out)).trans Ka0.out⟩
          have Kb1 : Aside0 (wF.heap[Bb]? = some (.cells #[.slice (some adb) (ys.length + 1) d] 30 (0, 0))) := by
            rw [← hwd] at HBE
            exact ⟨(HBE.out.block Bb (blk_lt Ka1.out)).trans Ka1.out⟩
          have SSb := SSa.trans Sb
          have BX := Aside0.mk (B0.out.trans SSb.below)
          clear e0 e1 f0 f1 ca0 ca1 ca2 ca3 ca4 cb0 cb1 cb2 cb3 cb4 hbE HBE
          obtain ⟨e0, e1, ca0, ca1, ca2, ca3, ca4, cb0, cb1, cb2, cb3, cb4⟩ := hHeld
          have f0 : wF.frozen? ⟨Ba, 0, none⟩ = false := blk_frozen Kb0.out 0
          have f1 : wF.frozen? ⟨Bb, 0, none⟩ = false := blk_frozen Kb1.out 0
          clear hwd Sb
          skip
          gi_wp2
          generalize hW2 : World.setCell _ _ _ = W2
          have S2 : Stab w0.heap.size Ba Bb wr W2 := by rw [← hW2]; exact (SSb.setB hBb)
          have a2 : W2.heap[Ba]? = some (.cells #[.slice (some ada) (xs.length + 1) c] 30 (0, 0)) := by rw [← hW2]; exact box_other _ hne (Kb0.out)
          have b2 : W2.heap[Bb]? = some (.cells #[.slice Ab ys.length (d - 1)] 30 (0, 0)) := by rw [← hW2]; exact box_set _ (Kb1.out)
          obtain ⟨fn, tmps, assign, body, hy, hR⟩ := hY (x :: xs) (y :: ys) (some ada) (some adb) W2 (hJ _ _ _ _ S2 J0.out) (B0.out.trans S2.below) hC0.out hC1.out (.inl (by simp)) ⟨_, a2⟩ ⟨_, b2⟩
          simp only [pt, tkx, tky, if_true, Bool.false_eq_true, if_false, List.drop_succ_cons, List.drop_zero, Hyx.out, Hxy.out, Bool.not_true, Bool.not_false] at hy
          rw [hy]
          refine ⟨fun _ => by decide, hR.mono ?_⟩
          rintro e W3 ⟨rfl, hj3, ha3, hb3, hbl⟩
          simp only [rx, ry, pt, tkx, tky, if_true, Bool.false_eq_true, if_false, List.drop_succ_cons, List.drop_zero, Hyx.out, Hxy.out, Bool.not_true, Bool.not_false] at hj3
          have hj4 := Aside0.mk hj3
          have ha4 := Aside0.mk (ha3.trans a2)
          have hb4 := Aside0.mk (hb3.trans b2)
          have B4 := Aside0.mk ((B0.out.trans S2.below).trans hbl)
          clear hj3 ha3 hb3 hbl a2 b2 S2 hy hR hW2 e0 e1 ca0 ca1 ca2 ca3 ca4 cb0 cb1 cb2 cb3 cb4 f0 f1
          dsimp only
          gi_wp2
          gi_roundg ((xs.length + 1) + ys.length)
          case measure => simp <;> omega
          case rel => exact ⟨x :: xs, ys, some ada, c, Ab, d - 1, rfl, hC0.out, HCdb.out, hx1.out, by have := HCLb.out; omega, B4.out, ha4.out, hb4.out, hj4.out⟩
end Go.Proofs.Ytpcgjdllgdkobaa.ZD
