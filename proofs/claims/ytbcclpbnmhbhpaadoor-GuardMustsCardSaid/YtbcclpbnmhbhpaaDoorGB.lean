/- Must, Check, and what a Fault is caught as. -/
import Derived.Test.YtbcclpbnmhbhpaaDoorGA
import Derived.Defers
import Derived.Recover
import Derived.WalkSmall
import Derived.Below
import Derived.Test.YtbcclpbnmhbhpaaDoorWZ
namespace Go.Proofs.YtbcclpbnmhbhpaaDoor.Gd
open Go.RowKit Go.Extern.Stop Go.Stop Go.Extern Go.Proofs.YtbcclpbnmhbhpaaDoorW.PrintWords Go.Proofs.YtbcclpbnmhbhpaaDoorW.PrintLast Go.Proofs.YtbcclpbnmhbhpaaDoorW.PrintMore Go.Proofs.YtbcclpbnmhbhpaaDoorW.PrintZ
open List renaming setIfInBounds_toArray → xA, set_cons_zero → xB, set_cons_succ → xC
open Bool renaming true → T, false → F
set_option linter.unusedVariables false
set_option linter.unusedSimpArgs false
set_option maxRecDepth 100000
set_option maxHeartbeats 4000000
theorem bNew (w : World) (o : Obj) : (w.alloc o).heap[w.heap.size]? = some o := by
  show (w.heap.push o)[w.heap.size]? = some o
  exact Array.getElem?_push_size
theorem bOld {w : World} {k : Nat} {o : Obj} (h : w.heap[k]? = some o) (o' : Obj) : (w.alloc o').heap[k]? = some o := (Below.heap_alloc w o' k (Array.getElem?_eq_some_iff.1 h).1).trans h
theorem bSz (w : World) (o : Obj) : (w.alloc o).heap.size = w.heap.size + 1 := Array.size_push _
theorem bLt {w : World} {k : Nat} {o : Obj} (h : w.heap[k]? = some o) : k < w.heap.size := (Array.getElem?_eq_some_iff.1 h).1
theorem bCell {w : World} {g : Nat} {cs : Array Value} {t : TypeId} (h : w.heap[g]? = some (.cells cs t (0, 0))) (i : Nat) : w.cell? ⟨g, i, none⟩ = cs[i]? := by simp [World.cell?, h]
theorem bFro {w : World} {g : Nat} {cs : Array Value} {t : TypeId} (h : w.heap[g]? = some (.cells cs t (0, 0))) (i : Nat) : w.frozen? ⟨g, i, none⟩ = false := by simp [World.frozen?, h]
theorem bSet {w : World} {g : Nat} {cs : Array Value} {t : TypeId} (h : w.heap[g]? = some (.cells cs t (0, 0))) (i : Nat) (v : Value) : (w.setCell ⟨g, i, none⟩ v).heap[g]? = some (.cells (cs.setIfInBounds i v) t (0, 0)) := by
  simp [World.setCell, Array.getElem?_modify, h]
theorem bFar {w : World} {g k : Nat} (i : Nat) (v : Value) (h : k ≠ g) : (w.setCell ⟨g, i, none⟩ v).heap[k]? = w.heap[k]? := Below.heap_setCell w ⟨g, i, none⟩ v k h
theorem bSsz (w : World) (p : Addr) (v : Value) : (w.setCell p v).heap.size = w.heap.size := by simp [World.setCell]
/-- A panic that nobody has met yet. -/
abbrev pan (v : Value) : List PanicEntry := [{ v := v, recovered := false }]
theorem check_ok (c p : Int) (w : World) : Calls Tryd.prog 8 #[.bool true, .int .i64 c, .int .i64 p] w fun e w' => e = .returned (.tuple #[]) ∧ w' = w := by
  go_enter Tryd.func8, Tryd.ntmps8
  go_wp2
  go_end0
  exact ⟨rfl, rfl⟩
theorem check_no (c p : Int) (w : World) : Calls Tryd.prog 8 #[.bool false, .int .i64 c, .int .i64 p] w fun e w' => e = .panicked (pan (.iface 33 (.pointer (some ⟨w.heap.size, 0, none⟩)))) ∧ w' = w.alloc (.cells #[.int .i64 c, .int .i64 p, .nilIface] 37) := by
  go_enter Tryd.func8, Tryd.ntmps8
  go_wp2
  exact ⟨rfl, rfl, rfl⟩
/-- What is kept of the blocks that the one who calls made ahead of the call. -/
def Keeps (w w0 w' : World) : Prop := w0.heap.size ≤ w'.heap.size ∧ ∀ k, w.heap.size ≤ k → k < w0.heap.size → w'.heap[k]? = w0.heap[k]?
/-- A world behind a panic that was caught: as it was then, but for the catcher's own two variables. -/
structure Caught (w w0 w1 w' : World) : Prop where
  b0 : Below w.heap.size w w0
  os : w'.os = w1.os
  tape : w'.tape = w1.tape
  output : w'.output = w1.output
  size : w'.heap.size = w1.heap.size
  block : ∀ k, k < w.heap.size ∨ w0.heap.size ≤ k → w'.heap[k]? = w1.heap[k]?
theorem catch_pan (p q : Addr) (u : TypeId) (pv old : Value) (older : List PanicEntry) (w : World) (hp : w.cell? p = some (.bool true)) (hq : w.cell? q = some old) (hz : w.frozen? q = false) :
    CallsD Tryd.prog 13 #[.pointer (some p), .pointer (some q)] (.panicking ({ v := .iface u pv, recovered := false } :: older)) w fun e u' w' =>
      e = .returned (.tuple #[]) ∧ u' = .panicking ({ v := .iface u pv, recovered := true } :: older) ∧ w' = w.setCell q (.iface u pv) := by
  refine callsD_of_wpS Tryd.func13 rfl fun c₀ cs hu => ?_
  apply wpS_seq
  apply wpS_region
  simp [wpOpsS, go_sem, hu, hp, Tryd.ntmps13, Exit.thenS]
  refine wpS_cond (t := true) (by simp [Act.eval, Array.replicate]) ?_
  simp only [if_true]
  apply wpS_region
  simp [wpOpsS, go_sem, recoverD, hu, hq, hz, bodyPostS, results, Tryd.results13]
theorem catch_idle (p q : Addr) (w : World) (hp : w.cell? p = some (.bool false)) :
    CallsD Tryd.prog 13 #[.pointer (some p), .pointer (some q)] .returning w fun e u' w' => e = .returned (.tuple #[]) ∧ u' = .returning ∧ w' = w := by
  refine callsD_of_wpS Tryd.func13 rfl fun c₀ cs hu => ?_
  apply wpS_seq
  apply wpS_region
  simp [wpOpsS, go_sem, hu, hp, Tryd.ntmps13, Exit.thenS]
  refine wpS_cond (t := false) (by simp [Act.eval, Array.replicate]) ?_
  simp only [Bool.false_eq_true, if_false]
  refine wpS_of_wp (wp_skip ?_)
  cases c₀
  simp_all [bodyPostS, results, Tryd.results13]
/-- What is kept but for some blocks. -/
structure Tch (w w' : World) (S : Nat → Prop) : Prop where
  os : w'.os = w.os
  tape : w'.tape = w.tape
  output : w'.output = w.output
  size : w.heap.size ≤ w'.heap.size
  block : ∀ k, k < w.heap.size → ¬ S k → w'.heap[k]? = w.heap[k]?
theorem Tch.of_below {w w' : World} (h : Below w.heap.size w w') (S : Nat → Prop) : Tch w w' S := ⟨h.os, h.tape, h.output, h.size, fun k hk _ => h.block k hk⟩
theorem Tch.trans {w w1 w' : World} {S S2 : Nat → Prop} (h : Tch w w1 S) (k : Tch w1 w' S2) (hs : ∀ k, S2 k → S k ∨ w.heap.size ≤ k) : Tch w w' S :=
  ⟨k.os.trans h.os, k.tape.trans h.tape, k.output.trans h.output, Nat.le_trans h.size k.size, fun i hi hn => (k.block i (Nat.lt_of_lt_of_le hi h.size) (fun h2 => (hs i h2).elim hn (fun h3 => by omega))).trans (h.block i hi hn)⟩
theorem Tch.below {w w' : World} {S : Nat → Prop} (h : Tch w w' S) (hs : ∀ k, S k → w.heap.size ≤ k) : Below w.heap.size w w' :=
  ⟨h.os, h.tape, h.output, h.size, fun k hk => h.block k hk (fun h2 => by have := hs k h2; omega)⟩
/-- The variable that errors.As reads. -/
def EType (w : World) : Prop := w.cell? ⟨0, 0, none⟩ = some (.iface 57 (.agg #[.pointer (some ⟨1, 35, none⟩)]))
theorem EType.lt {w : World} (h : EType w) : 0 < w.heap.size := by
  rcases Nat.eq_zero_or_pos w.heap.size with h0 | h1
  · unfold EType at h
    simp [World.cell?, h0] at h
  · exact h1
theorem EType.keep {w w' : World} (h : EType w) (hk : w'.heap[0]? = w.heap[0]?) : EType w' := (World.cell?_of_block (w := w) (a := ⟨0, 0, none⟩) hk).trans h
theorem EType.bel {w w' : World} (h : EType w) (hb : Below w.heap.size w w') : EType w' := h.keep (hb.block 0 h.lt)
theorem as_fault {e : Addr} {g : Nat} {w : World} (hg : EType w) (ht : w.heap[g]? = some (.cells #[.pointer none] 33 (0, 0))) :
    Calls Tryd.prog 14 #[.iface 33 (.pointer (some e)), .iface 41 (.pointer (some ⟨g, 0, none⟩))] w fun ev w' => ev = .returned (.bool true) ∧ w'.heap[g]? = some (.cells #[.pointer (some e)] 33 (0, 0)) ∧ Tch w w' (fun k => k = g) := by
  refine (as_hit e ⟨g, 0, none⟩ (.pointer none) w hg ((bCell ht 0).trans rfl) (bFro ht 0)).mono fun ev w' h => ?_
  obtain ⟨he, rfl⟩ := h
  have h1 := bOld (bOld (bOld (bOld ht (.cells #[.pointer (some ⟨g, 0, none⟩)] 41)) (.cells #[.pointer (some ⟨1, 41, none⟩), .pointer (some ⟨w.heap.size, 0, none⟩), .int .u64 150] 47)) (.cells #[.pointer (some ⟨1, 41, none⟩), .pointer (some ⟨w.heap.size, 0, none⟩), .int .u64 150] 47)) (.cells #[.pointer (some e)] 33)
  refine ⟨he, (bSet h1 0 _).trans rfl, ⟨rfl, rfl, rfl, ?_, fun k hk hn => ?_⟩⟩
  · rw [bSsz, bSz, bSz, bSz, bSz]
    omega
  · rw [bFar _ _ hn, Below.heap_alloc _ _ _ (by rw [bSz, bSz, bSz]; omega), Below.heap_alloc _ _ _ (by rw [bSz, bSz]; omega), Below.heap_alloc _ _ _ (by rw [bSz]; omega), Below.heap_alloc _ _ _ hk]
def caught.T9 : Bool × List (List Nat × List Nat) := (true, [([], []), ([0], [0]), ([1], [1]), ([2], [2]), ([], []), ([4], [4]), ([5], [5]), ([6], [6]), ([3, 7], [3, 7]), ([8, 0, 1, 2, 3, 4, 5, 6, 7, 8], [8])])
def caught.B9 : List Nat := [0, 1, 3, 7, 0, 16, 48, 112, 255, 511]
theorem caught.tab9 : rtab .any (opsOf Tryd.f11 9) = caught.T9 := by kernel_rfl
theorem caught.bits9 : waitsOk caught.T9.2 caught.B9 = true := by kernel_rfl
theorem caught_fault {f : Nat} {c p : Int} {inner : Value} {w : World} (hg : EType w) (hF : w.heap[f]? = some (.cells #[.int .i64 c, .int .i64 p, inner] 37 (0, 0))) :
    Calls Tryd.prog 11 #[.iface 33 (.pointer (some ⟨f, 0, none⟩))] w fun e w' => e = .returned (.agg #[.int .i64 2, .string ⟨#[]⟩, .int .i64 c, .int .i64 p]) ∧ Below w.heap.size w w' := by
  have hg2 : EType ((w.alloc (.cells #[.int .i64 0, .string ⟨#[]⟩, .int .i64 0, .int .i64 0] 24)).alloc (.cells #[.pointer none] 33)) := hg.bel (((Below.refl _ _).alloc (Nat.le_refl _) _).alloc (Nat.le_trans (Nat.le_succ _) (Nat.le_of_eq (bSz _ _).symm)) _)
  have a1 : ∀ (v : Value) (w : World), (Instr.typeAssert (.iface 33 v) 20 39 true).run Tryd.prog w = .ok (.tuple #[.nilIface, .bool false]) w := fun v w => run_typeAssert_lacksB Tryd.underlying39 (by kernel_rfl) (by kernel_rfl) v _ w
  have a2 : ∀ (v : Value) (w : World), (Instr.typeAssert (.iface 33 v) 20 35 true).run Tryd.prog w = .ok (.tuple #[.iface 33 v, .bool true]) w := fun v w => run_typeAssert_hasB Tryd.underlying35 (by kernel_rfl) v _ w
  have hb1 : Below w.heap.size w ((w.alloc (.cells #[.int .i64 0, .string ⟨#[]⟩, .int .i64 0, .int .i64 0] 24)).alloc (.cells #[.pointer none] 33)) := ((Below.refl _ _).alloc (Nat.le_refl _) _).alloc (Nat.le_trans (Nat.le_succ _) (Nat.le_of_eq (bSz _ _).symm)) _
  have hT : ((w.alloc (.cells #[.int .i64 0, .string ⟨#[]⟩, .int .i64 0, .int .i64 0] 24)).alloc (.cells #[.pointer none] 33)).heap[w.heap.size + 1]? = some (.cells #[.pointer none] 33 (0, 0)) := by
    have h := bNew (w.alloc (.cells #[.int .i64 0, .string ⟨#[]⟩, .int .i64 0, .int .i64 0] 24)) (.cells #[.pointer none] 33)
    rw [bSz] at h
    exact h
  have hZ : ((w.alloc (.cells #[.int .i64 0, .string ⟨#[]⟩, .int .i64 0, .int .i64 0] 24)).alloc (.cells #[.pointer none] 33)).heap[w.heap.size]? = some (.cells #[.int .i64 0, .string ⟨#[]⟩, .int .i64 0, .int .i64 0] 24 (0, 0)) := bOld (bNew w _) _
  have hF1 := bOld (bOld hF (.cells #[.int .i64 0, .string ⟨#[]⟩, .int .i64 0, .int .i64 0] 24)) (.cells #[.pointer none] 33)
  have hfl := bLt hF
  have hs1 : ((w.alloc (.cells #[.int .i64 0, .string ⟨#[]⟩, .int .i64 0, .int .i64 0] 24)).alloc (.cells #[.pointer none] 33)).heap.size = w.heap.size + 1 + 1 := by rw [bSz, bSz]
  go_enter Tryd.func11, Tryd.ntmps11
  go_wp2_with (first | (go_at_call 14; refine (as_fault hg2 hT).mono ?_; rintro e w1 ⟨rfl, hp, ht⟩; have c5 := (bCell hp 0).trans rfl; have hf1 := (ht.block f (by rw [hs1]; omega) (by omega)).trans hF1; have hz1 := (ht.block w.heap.size (by rw [hs1]; omega) (by omega)).trans hZ; have f0 := (bCell hf1 0).trans rfl; have f1 := (bCell hf1 1).trans rfl; have z0 := (bCell hz1 0).trans rfl; have z1 := (bCell hz1 1).trans rfl; have z2 := (bCell hz1 2).trans rfl; have z3 := (bCell hz1 3).trans rfl; have y0 := bFro hz1 0; have y1 := bFro hz1 1; have y2 := bFro hz1 2; have y3 := bFro hz1 3) | fail)
  refine start_ (n := 10) (S := fun w' => w'.cell? ⟨w.heap.size + 1, 0, none⟩ = some (.pointer (some ⟨f, 0, none⟩)) ∧ w'.cell? ⟨f, 0, none⟩ = some (.int .i64 c) ∧ w'.cell? ⟨f, 1, none⟩ = some (.int .i64 p)) (ds := [9]) #[F,F,F,F,F,F,F,F,F,F] (by kernel_rfl) rfl rfl ⟨c5, f0, f1⟩ (fun hHeld => ?_)
  refine with_tabW caught.tab9 caught.bits9 (fun HT_ HW_ => ?_)
  replace hz1 : w1.drew.heap[w.heap.size]? = _ := hz1
  replace ht : Tch _ w1.drew _ := ⟨ht.os, ht.tape, ht.output, ht.size, ht.block⟩
  clear c5 f0 f1 z0 z1 z2 z3 y0 y1 y2 y3 hp hf1
  generalize w1.drew = w2 at hz1 ht hHeld ⊢
  refine tz 0 23 #[T,F,F,F,F,F,F,F,F,F] HT_.1 HW_.1 hHeld ?_
  refine pz 1 24 #[T,T,F,F,F,F,F,F,F,F] HT_.1 ?_
  refine pz 2 25 #[T,T,T,F,F,F,F,F,F,F] HT_.1 ?_
  refine tz 3 26 #[T,T,T,T,F,F,F,F,F,F] HT_.1 HW_.1 hHeld ?_
  refine tz 4 27 #[T,T,T,T,T,F,F,F,F,F] HT_.1 HW_.1 hHeld ?_
  refine pz 5 28 #[T,T,T,T,T,T,F,F,F,F] HT_.1 ?_
  refine pz 6 29 #[T,T,T,T,T,T,T,F,F,F] HT_.1 ?_
  refine tz 7 30 #[T,T,T,T,T,T,T,T,F,F] HT_.1 HW_.1 hHeld ?_
  refine pz 8 31 #[T,T,T,T,T,T,T,T,T,F] HT_.1 ?_
  refine last_ (i := 9) (N := none) #[T,T,T,T,T,T,T,T,T,T] rfl rfl (one_of HT_.out (by kernel_rfl)) (by decide) (fun K hK => ?_)
  have z0 := (bCell hz1 0).trans rfl
  have z1 := (bCell hz1 1).trans rfl
  have z2 := (bCell hz1 2).trans rfl
  have z3 := (bCell hz1 3).trans rfl
  have y0 := bFro hz1 0
  have y1 := bFro hz1 1
  have y2 := bFro hz1 2
  have y3 := bFro hz1 3
  refine sz ?_
  refine hK.out _ _ ?_
  clear hK K
  refine done_ (done_of HT_.out (by kernel_rfl)) ?_
  have hz2 := bSet (bSet (bSet (bSet hz1 0 (.int .i64 2)) 1 (.string ⟨#[]⟩)) 2 (.int .i64 c)) 3 (.int .i64 p)
  go_wp2
  refine bodyPost_ret (results_cell_row rfl _ _ w.heap.size 24 #[.int .i64 2, .string ⟨#[]⟩, .int .i64 c, .int .i64 p] (0, 0) _ rfl (hz2.trans rfl) Tryd.underlying24 rfl (by kernel_rfl)) rfl ?_
  have hT2 : Tch w w2 (fun k => w.heap.size ≤ k) := (Tch.of_below hb1 _).trans ht (fun k hk => .inr (by omega))
  have hB2 := hT2.below (fun k hk => hk)
  exact ⟨rfl, (((hB2.setCell (Nat.le_refl _) _).setCell (Nat.le_refl _) _).setCell (Nat.le_refl _) _).setCell (Nat.le_refl _) _⟩
theorem call_pan5 {w : World} {caps : Array Value} {R : World → Value → World → Prop} {t : TypeId}
    (hf : ∀ w0, Below w.heap.size w w0 → Calls Tryd.prog 5 caps w0 fun e w' => ∃ v, e = .panicked (pan (.iface t v)) ∧ R w0 v w') (hR : ∀ w0 v w', R w0 v w' → Keeps w w0 w') :
    Calls Tryd.prog 10 #[.func (Fn.func 5) #[] caps] w fun e w' => ∃ v w0 w1, e = .returned (.tuple #[.iface t v, .bool true]) ∧ R w0 v w1 ∧ Caught w w0 w1 w' := by
  have hmf : ∀ (fn : Fn) (first cap : Array Value) (w : World), (Instr.makeFunc fn first cap).run Tryd.prog w = .ok (.func fn first cap) w := fun _ _ _ _ => rfl
  have hnil : ∀ w : World, (binOp BinOp.eql 1 (.func (Fn.func 5) #[] caps) .nilFunc).run Tryd.prog w = .ok (.bool false) w := fun _ => rfl
  go_enter_defers Tryd.func10, Tryd.ntmps10
  go_wp2_with (first | (go_at_call 5; refine (hf _ (((Below.refl _ _).alloc (Nat.le_refl _) _).alloc (Nat.le_trans (Nat.le_succ _) (Nat.le_of_eq (bSz _ _).symm)) _)).mono ?_; rintro e w1 ⟨v, rfl, hr⟩) | fail)
  obtain ⟨hs, hk⟩ := hR _ _ _ hr
  have c2 := (hk w.heap.size (Nat.le_refl _) (by rw [bSz, bSz]; omega)).trans (bOld (bNew w _) _)
  have c3 := (hk (w.heap.size + 1) (by omega) (by simp only [bSz]; omega)).trans (show ((w.alloc (.cells #[.nilIface] 20)).alloc (.cells #[.bool true] 4)).heap[w.heap.size + 1]? = some (.cells #[.bool true] 4 (0, 0)) from by have h := bNew (w.alloc (.cells #[.nilIface] 20)) (.cells #[.bool true] 4); rw [bSz] at h; exact h)
  have d2 : w1.cell? ⟨w.heap.size, 0, none⟩ = some .nilIface := (bCell c2 0).trans rfl
  have d3 : w1.cell? ⟨w.heap.size + 1, 0, none⟩ = some (.bool true) := (bCell c3 0).trans rfl
  have e2 : w1.frozen? ⟨w.heap.size, 0, none⟩ = false := bFro c2 0
  refine leaves_cons (f := 13) (args := #[.pointer (some ⟨w.heap.size + 1, 0, none⟩), .pointer (some ⟨w.heap.size, 0, none⟩)]) (by simp) (by simp [go_sem]) ?_
  refine (catch_pan ⟨w.heap.size + 1, 0, none⟩ ⟨w.heap.size, 0, none⟩ t v .nilIface [] _ d3 d2 e2).mono ?_
  rintro e u' w'' ⟨rfl, rfl, rfl⟩
  have k2 := (bSet c2 0 (.iface t v))
  have k3 := (bFar (w := w1) (g := w.heap.size) 0 (.iface t v) (show w.heap.size + 1 ≠ w.heap.size by omega)).trans c3
  have d4 : (w1.setCell ⟨w.heap.size, 0, none⟩ (.iface t v)).cell? ⟨w.heap.size, 0, none⟩ = some (.iface t v) := (bCell k2 0).trans rfl
  have d5 : (w1.setCell ⟨w.heap.size, 0, none⟩ (.iface t v)).cell? ⟨w.heap.size + 1, 0, none⟩ = some (.bool true) := (bCell k3 0).trans rfl
  have hb0 : Below w.heap.size w ((w.alloc (.cells #[.nilIface] 20)).alloc (.cells #[.bool true] 4)) := ((Below.refl _ _).alloc (Nat.le_refl _) _).alloc (Nat.le_trans (Nat.le_succ _) (Nat.le_of_eq (bSz _ _).symm)) _
  have hC : Caught w ((w.alloc (.cells #[.nilIface] 20)).alloc (.cells #[.bool true] 4)) w1 (w1.setCell ⟨w.heap.size, 0, none⟩ (.iface t v)) :=
    ⟨hb0, rfl, rfl, rfl, bSsz _ _ _, fun k hk => bFar _ _ (by rw [bSz, bSz] at hk; omega)⟩
  simp [Leaves, settle, results, Tryd.results10, go_sem, d4, d5]
  exact ⟨_, _, hr, hC⟩
theorem call_ret5 {w : World} {caps : Array Value} {R : World → World → Prop}
    (hf : ∀ w0, Below w.heap.size w w0 → Calls Tryd.prog 5 caps w0 fun e w' => e = .returned (.tuple #[]) ∧ R w0 w') (hR : ∀ w0 w', R w0 w' → Keeps w w0 w') :
    Calls Tryd.prog 10 #[.func (Fn.func 5) #[] caps] w fun e w' => ∃ w0 w1, e = .returned (.tuple #[.nilIface, .bool false]) ∧ R w0 w1 ∧ Caught w w0 w1 w' := by
  have hmf : ∀ (fn : Fn) (first cap : Array Value) (w : World), (Instr.makeFunc fn first cap).run Tryd.prog w = .ok (.func fn first cap) w := fun _ _ _ _ => rfl
  have hnil : ∀ w : World, (binOp BinOp.eql 1 (.func (Fn.func 5) #[] caps) .nilFunc).run Tryd.prog w = .ok (.bool false) w := fun _ => rfl
  go_enter_defers Tryd.func10, Tryd.ntmps10
  go_wp2_with (first | (go_at_call 5; refine (hf _ (((Below.refl _ _).alloc (Nat.le_refl _) _).alloc (Nat.le_trans (Nat.le_succ _) (Nat.le_of_eq (bSz _ _).symm)) _)).mono ?_; rintro e w1 ⟨rfl, hr⟩; have hRk := hR _ _ hr; have c2 := (hRk.2 w.heap.size (Nat.le_refl _) (by rw [bSz, bSz]; omega)).trans (bOld (bNew w _) _); have c3 := (hRk.2 (w.heap.size + 1) (by omega) (by simp only [bSz]; omega)).trans (show ((w.alloc (.cells #[.nilIface] 20)).alloc (.cells #[.bool true] 4)).heap[w.heap.size + 1]? = some (.cells #[.bool true] 4 (0, 0)) from by have h := bNew (w.alloc (.cells #[.nilIface] 20)) (.cells #[.bool true] 4); rw [bSz] at h; exact h); have d2 : w1.cell? ⟨w.heap.size, 0, none⟩ = some .nilIface := (bCell c2 0).trans rfl; have d3 : w1.cell? ⟨w.heap.size + 1, 0, none⟩ = some (.bool true) := (bCell c3 0).trans rfl; have e2 : w1.frozen? ⟨w.heap.size, 0, none⟩ = false := bFro c2 0; have e3 : w1.frozen? ⟨w.heap.size + 1, 0, none⟩ = false := bFro c3 0) | fail)
  have n1 : w.heap.size ≠ w.heap.size + 1 := by omega
  have k2 := (bFar (w := w1) (g := w.heap.size + 1) 0 (.bool false) n1).trans c2
  have k3 := bSet c3 0 (.bool false)
  have k2' := bSet k2 0 .nilIface
  have k3' := (bFar (w := (w1.setCell ⟨w.heap.size + 1, 0, none⟩ (.bool false))) (g := w.heap.size) 0 .nilIface n1.symm).trans k3
  have m3 := bSet k3' 0 (.bool false)
  have m2 := (bFar (w := ((w1.setCell ⟨w.heap.size + 1, 0, none⟩ (.bool false)).setCell ⟨w.heap.size, 0, none⟩ .nilIface)) (g := w.heap.size + 1) 0 (.bool false) n1).trans k2'
  have v3 : (((w1.setCell ⟨w.heap.size + 1, 0, none⟩ (.bool false)).setCell ⟨w.heap.size, 0, none⟩ .nilIface).setCell ⟨w.heap.size + 1, 0, none⟩ (.bool false)).cell? ⟨w.heap.size + 1, 0, none⟩ = some (.bool false) := (bCell m3 0).trans rfl
  have v2 : (((w1.setCell ⟨w.heap.size + 1, 0, none⟩ (.bool false)).setCell ⟨w.heap.size, 0, none⟩ .nilIface).setCell ⟨w.heap.size + 1, 0, none⟩ (.bool false)).cell? ⟨w.heap.size, 0, none⟩ = some .nilIface := (bCell m2 0).trans rfl
  have hb0 : Below w.heap.size w ((w.alloc (.cells #[.nilIface] 20)).alloc (.cells #[.bool true] 4)) := ((Below.refl _ _).alloc (Nat.le_refl _) _).alloc (Nat.le_trans (Nat.le_succ _) (Nat.le_of_eq (bSz _ _).symm)) _
  have hC : Caught w ((w.alloc (.cells #[.nilIface] 20)).alloc (.cells #[.bool true] 4)) w1 (((w1.setCell ⟨w.heap.size + 1, 0, none⟩ (.bool false)).setCell ⟨w.heap.size, 0, none⟩ .nilIface).setCell ⟨w.heap.size + 1, 0, none⟩ (.bool false)) :=
    ⟨hb0, rfl, rfl, rfl, by rw [bSsz, bSsz, bSsz], fun k hk => by
      rw [bSz, bSz] at hk
      rw [bFar _ _ (by omega), bFar _ _ (by omega), bFar _ _ (by omega)]⟩
  refine leaves_cons (f := 13) (args := #[.pointer (some ⟨w.heap.size + 1, 0, none⟩), .pointer (some ⟨w.heap.size, 0, none⟩)]) (by simp) (by simp [go_sem]) ?_
  refine (catch_idle ⟨w.heap.size + 1, 0, none⟩ ⟨w.heap.size, 0, none⟩ _ v3).mono ?_
  rintro e u' w'' ⟨rfl, rfl, rfl⟩
  simp [Leaves, settle, results, Tryd.results10, go_sem, v2, v3]
  exact ⟨_, _, hr, hC⟩
theorem run_pan5 {w : World} {caps : Array Value} {R : World → World → Prop} {S : Nat → Prop} {c p : Int} (hg : EType w) (hS : ∀ k, S k → k < w.heap.size ∧ k ≠ 0)
    (hf : ∀ w0, Below w.heap.size w w0 → Calls Tryd.prog 5 caps w0 fun e w' => ∃ f, e = .panicked (pan (.iface 33 (.pointer (some ⟨f, 0, none⟩)))) ∧ w0.heap.size ≤ f ∧ w'.heap[f]? = some (.cells #[.int .i64 c, .int .i64 p, .nilIface] 37 (0, 0)) ∧ R w0 w')
    (hR : ∀ w0 w', R w0 w' → Tch w0 w' S) :
    Calls Tryd.prog 4 #[.func (Fn.func 5) #[] caps] w fun e w' => ∃ w0 w1, e = .returned (.agg #[.int .i64 2, .string ⟨#[]⟩, .int .i64 c, .int .i64 p]) ∧ R w0 w1 ∧ Below w.heap.size w w0 ∧ Tch w w' S ∧ ∀ k, k < w.heap.size → w'.heap[k]? = w1.heap[k]? := by
  have hZ := bNew w (.cells #[.int .i64 0, .string ⟨#[]⟩, .int .i64 0, .int .i64 0] 24)
  have hs := bSz w (.cells #[.int .i64 0, .string ⟨#[]⟩, .int .i64 0, .int .i64 0] 24)
  have hb0 : Below w.heap.size w (w.alloc (.cells #[.int .i64 0, .string ⟨#[]⟩, .int .i64 0, .int .i64 0] 24)) := (Below.refl _ _).alloc (Nat.le_refl _) _
  generalize hwa : w.alloc (.cells #[.int .i64 0, .string ⟨#[]⟩, .int .i64 0, .int .i64 0] 24) = wa at hZ hs hb0
  have hcall := call_pan5 (w := wa) (caps := caps) (t := 33) (R := fun w0 v w' => ∃ f, v = .pointer (some ⟨f, 0, none⟩) ∧ w0.heap.size ≤ f ∧ w'.heap[f]? = some (.cells #[.int .i64 c, .int .i64 p, .nilIface] 37 (0, 0)) ∧ R w0 w')
    (fun w0 hb => (hf w0 (hb0.trans (hb.mono (by omega)))).mono fun e w' ⟨f, he, h1, h2, h3⟩ => ⟨_, he, f, rfl, h1, h2, h3⟩)
    (fun w0 v w' ⟨f, _, _, _, h3⟩ => ⟨(hR _ _ h3).size, fun k hk hk2 => (hR _ _ h3).block k hk2 (fun h => by have := (hS k h).1; omega)⟩)
  clear hf
  go_enter Tryd.func4, Tryd.ntmps4
  go_upto_region 1 with fail
  clear hwa
  go_wp2_with (first | (go_at_call 10; refine hcall.mono ?_; rintro e w2 ⟨v, w0, w1, rfl, ⟨f, rfl, hf1, hf2, hr⟩, hC⟩; have hT := hR _ _ hr; have hb1 := hC.b0; have hg1 : EType w2 := ((hg.bel hb0).bel hb1).keep ((hC.block 0 (.inl (by omega))).trans (hT.block 0 (by have := hg.lt; have := hb1.size; omega) (fun h => (hS 0 h).2 rfl))); have hf3 := (hC.block f (.inr hf1)).trans hf2) | (go_at_call 11; refine (caught_fault hg1 hf3).mono ?_; rintro e w3 ⟨rfl, hb3⟩; have hz3 : w3.heap[w.heap.size]? = some (.cells #[.int .i64 0, .string ⟨#[]⟩, .int .i64 0, .int .i64 0] 24 (0, 0)) := (hb3.block _ (by have := hC.size; have := hT.size; have := hb1.size; omega)).trans ((hC.block _ (.inl (by omega))).trans ((hT.block _ (by have := hb1.size; omega) (fun h => by have := (hS _ h).1; omega)).trans ((hb1.block _ (by omega)).trans hZ))); have z0 := (bCell hz3 0).trans rfl; have z1 := (bCell hz3 1).trans rfl; have z2 := (bCell hz3 2).trans rfl; have z3 := (bCell hz3 3).trans rfl; have y0 := bFro hz3 0; have y1 := bFro hz3 1; have y2 := bFro hz3 2; have y3 := bFro hz3 3))
  have hz4 := bSet (bSet (bSet (bSet hz3 0 (.int .i64 2)) 1 (.string ⟨#[]⟩)) 2 (.int .i64 c)) 3 (.int .i64 p)
  refine bodyPost_ret (results_cell_row rfl _ _ w.heap.size 24 #[.int .i64 2, .string ⟨#[]⟩, .int .i64 c, .int .i64 p] (0, 0) _ rfl (hz4.trans rfl) Tryd.underlying24 rfl (by kernel_rfl)) rfl ?_
  have hq : ∀ k, k < w.heap.size → ((((w3.setCell ⟨w.heap.size, 0, none⟩ (.int .i64 2)).setCell ⟨w.heap.size, 1, none⟩ (.string ⟨#[]⟩)).setCell ⟨w.heap.size, 2, none⟩ (.int .i64 c)).setCell ⟨w.heap.size, 3, none⟩ (.int .i64 p)).heap[k]? = w1.heap[k]? := fun k hk => by
    rw [bFar _ _ (by omega), bFar _ _ (by omega), bFar _ _ (by omega), bFar _ _ (by omega)]
    exact (hb3.block k (by have := hC.size; have := hT.size; have := hb1.size; omega)).trans (hC.block k (.inl (by omega)))
  refine ⟨w0, w1, rfl, hr, hb0.trans (hb1.mono (by omega)), ⟨?_, ?_, ?_, ?_, fun k hk hn => (hq k hk).trans ((hT.block k (by have := hb1.size; omega) hn).trans ((hb1.block k (by omega)).trans (hb0.block k hk)))⟩, hq⟩
  · exact hb3.os.trans (hC.os.trans (hT.os.trans (hb1.os.trans hb0.os)))
  · exact hb3.tape.trans (hC.tape.trans (hT.tape.trans (hb1.tape.trans hb0.tape)))
  · exact hb3.output.trans (hC.output.trans (hT.output.trans (hb1.output.trans hb0.output)))
  · rw [bSsz, bSsz, bSsz, bSsz]
    have := hb3.size
    have := hC.size
    have := hT.size
    have := hb1.size
    omega
theorem run_ret5 {w : World} {caps : Array Value} {R : World → World → Prop} {S : Nat → Prop} (hS : ∀ k, S k → k < w.heap.size)
    (hf : ∀ w0, Below w.heap.size w w0 → Calls Tryd.prog 5 caps w0 fun e w' => e = .returned (.tuple #[]) ∧ R w0 w')
    (hR : ∀ w0 w', R w0 w' → Tch w0 w' S) :
    Calls Tryd.prog 4 #[.func (Fn.func 5) #[] caps] w fun e w' => ∃ w0 w1, e = .returned (.agg #[.int .i64 0, .string ⟨#[]⟩, .int .i64 0, .int .i64 0]) ∧ R w0 w1 ∧ Below w.heap.size w w0 ∧ Tch w w' S ∧ ∀ k, k < w.heap.size → w'.heap[k]? = w1.heap[k]? := by
  have hZ := bNew w (.cells #[.int .i64 0, .string ⟨#[]⟩, .int .i64 0, .int .i64 0] 24)
  have hs := bSz w (.cells #[.int .i64 0, .string ⟨#[]⟩, .int .i64 0, .int .i64 0] 24)
  have hb0 : Below w.heap.size w (w.alloc (.cells #[.int .i64 0, .string ⟨#[]⟩, .int .i64 0, .int .i64 0] 24)) := (Below.refl _ _).alloc (Nat.le_refl _) _
  generalize hwa : w.alloc (.cells #[.int .i64 0, .string ⟨#[]⟩, .int .i64 0, .int .i64 0] 24) = wa at hZ hs hb0
  have hcall := call_ret5 (w := wa) (caps := caps) (R := R) (fun w0 hb => hf w0 (hb0.trans (hb.mono (by omega))))
    (fun w0 w' h3 => ⟨(hR _ _ h3).size, fun k hk hk2 => (hR _ _ h3).block k hk2 (fun h => by have := hS k h; omega)⟩)
  clear hf
  go_enter Tryd.func4, Tryd.ntmps4
  go_upto_region 1 with fail
  clear hwa
  go_wp2_with (first | (go_at_call 10; refine hcall.mono ?_; rintro e w2 ⟨w0, w1, rfl, hr, hC⟩; have hT := hR _ _ hr; have hb1 := hC.b0; have hz3 : w2.heap[w.heap.size]? = some (.cells #[.int .i64 0, .string ⟨#[]⟩, .int .i64 0, .int .i64 0] 24 (0, 0)) := ((hC.block _ (.inl (by omega))).trans ((hT.block _ (by have := hb1.size; omega) (fun h => by have := hS _ h; omega)).trans ((hb1.block _ (by omega)).trans hZ))); have z0 := (bCell hz3 0).trans rfl; have z1 := (bCell hz3 1).trans rfl; have z2 := (bCell hz3 2).trans rfl; have z3 := (bCell hz3 3).trans rfl; have y0 := bFro hz3 0; have y1 := bFro hz3 1; have y2 := bFro hz3 2; have y3 := bFro hz3 3) | fail)
  have hz4 := bSet (bSet (bSet (bSet hz3 0 (.int .i64 0)) 1 (.string ⟨#[]⟩)) 2 (.int .i64 0)) 3 (.int .i64 0)
  refine bodyPost_ret (results_cell_row rfl _ _ w.heap.size 24 #[.int .i64 0, .string ⟨#[]⟩, .int .i64 0, .int .i64 0] (0, 0) _ rfl (hz4.trans rfl) Tryd.underlying24 rfl (by kernel_rfl)) rfl ?_
  have hq : ∀ k, k < w.heap.size → ((((w2.setCell ⟨w.heap.size, 0, none⟩ (.int .i64 0)).setCell ⟨w.heap.size, 1, none⟩ (.string ⟨#[]⟩)).setCell ⟨w.heap.size, 2, none⟩ (.int .i64 0)).setCell ⟨w.heap.size, 3, none⟩ (.int .i64 0)).heap[k]? = w1.heap[k]? := fun k hk => by
    rw [bFar _ _ (by omega), bFar _ _ (by omega), bFar _ _ (by omega), bFar _ _ (by omega)]
    exact hC.block k (.inl (by omega))
  refine ⟨w0, w1, rfl, hr, hb0.trans (hb1.mono (by omega)), ⟨?_, ?_, ?_, ?_, fun k hk hn => (hq k hk).trans ((hT.block k (by have := hb1.size; omega) hn).trans ((hb1.block k (by omega)).trans (hb0.block k hk)))⟩, hq⟩
  · exact hC.os.trans (hT.os.trans (hb1.os.trans hb0.os))
  · exact hC.tape.trans (hT.tape.trans (hb1.tape.trans hb0.tape))
  · exact hC.output.trans (hT.output.trans (hb1.output.trans hb0.output))
  · rw [bSsz, bSsz, bSsz, bSsz]
    have := hC.size
    have := hT.size
    have := hb1.size
    omega
end Go.Proofs.YtbcclpbnmhbhpaaDoor.Gd
