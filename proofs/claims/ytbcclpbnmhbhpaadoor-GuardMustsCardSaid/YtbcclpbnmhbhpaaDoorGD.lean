/- What an Errno is caught as; the closures of GuardMusts; its walk. -/
import Derived.Test.YtbcclpbnmhbhpaaDoorGB
import Derived.Test.YtbcclpbnmhbhpaaDoorGC
namespace Go.Proofs.YtbcclpbnmhbhpaaDoor.Gd
open Go.RowKit Go.Extern.Stop Go.Stop Go.Extern Go.Proofs.YtbcclpbnmhbhpaaDoorW.PrintWords Go.Proofs.YtbcclpbnmhbhpaaDoorW.PrintLast Go.Proofs.YtbcclpbnmhbhpaaDoorW.PrintMore Go.Proofs.YtbcclpbnmhbhpaaDoorW.PrintZ
open List renaming setIfInBounds_toArray → xA, set_cons_zero → xB, set_cons_succ → xC
open Bool renaming true → T, false → F
set_option linter.unusedVariables false
set_option linter.unusedSimpArgs false
set_option maxRecDepth 100000
set_option maxHeartbeats 4000000
theorem as_errno {e : Int} {g : Nat} {w : World} (hg : EType w) (ht : w.heap[g]? = some (.cells #[.int .i64 0] 22 (0, 0))) :
    Calls Tryd.prog 14 #[.iface 22 (.int .i64 e), .iface 42 (.pointer (some ⟨g, 0, none⟩))] w fun ev w' => ev = .returned (.bool true) ∧ w'.heap[g]? = some (.cells #[.int .i64 e] 22 (0, 0)) ∧ Tch w w' (fun k => k = g) := by
  refine (En.as_hit e ⟨g, 0, none⟩ (.int .i64 0) w hg ((bCell ht 0).trans rfl) (bFro ht 0)).mono fun ev w' h => ?_
  obtain ⟨he, rfl⟩ := h
  have h1 := bOld (bOld (bOld (bOld ht (.cells #[.pointer (some ⟨g, 0, none⟩)] 42)) (.cells #[.pointer (some ⟨1, 42, none⟩), .pointer (some ⟨w.heap.size, 0, none⟩), .int .u64 150] 47)) (.cells #[.pointer (some ⟨1, 42, none⟩), .pointer (some ⟨w.heap.size, 0, none⟩), .int .u64 150] 47)) (.cells #[.int .i64 e] 22)
  refine ⟨he, (bSet h1 0 _).trans rfl, ⟨rfl, rfl, rfl, ?_, fun k hk hn => ?_⟩⟩
  · rw [bSsz, bSz, bSz, bSz, bSz]
    omega
  · rw [bFar _ _ hn, Below.heap_alloc _ _ _ (by rw [bSz, bSz, bSz]; omega), Below.heap_alloc _ _ _ (by rw [bSz, bSz]; omega), Below.heap_alloc _ _ _ (by rw [bSz]; omega), Below.heap_alloc _ _ _ hk]
theorem as_no {e : Int} {g : Nat} {w : World} (hg : EType w) :
    Calls Tryd.prog 14 #[.iface 22 (.int .i64 e), .iface 41 (.pointer (some ⟨g, 0, none⟩))] w fun ev w' => ev = .returned (.bool false) ∧ Below w.heap.size w w' := by
  refine (as_miss e ⟨g, 0, none⟩ w hg).mono fun ev w' h => ?_
  obtain ⟨he, rfl⟩ := h
  exact ⟨he, ((((Below.refl _ _).alloc (Nat.le_refl _) _).alloc (by rw [bSz]; exact Nat.le_of_lt (Nat.lt_succ_self _)) _).alloc (by rw [bSz, bSz]; omega) _)⟩
theorem caught_errno {e : Int} {w : World} (hg : EType w) :
    Calls Tryd.prog 11 #[.iface 22 (.int .i64 e)] w fun ev w' => ev = .returned (.agg #[.int .i64 1, .string ⟨#[]⟩, .int .i64 e, .int .i64 0]) ∧ Below w.heap.size w w' := by
  have a1 : ∀ (v : Value) (w : World), (Instr.typeAssert (.iface 22 v) 20 39 true).run Tryd.prog w = .ok (.tuple #[.nilIface, .bool false]) w := fun v w => run_typeAssert_lacksB Tryd.underlying39 (by kernel_rfl) (by kernel_rfl) v _ w
  have a2 : ∀ (v : Value) (w : World), (Instr.typeAssert (.iface 22 v) 20 35 true).run Tryd.prog w = .ok (.tuple #[.iface 22 v, .bool true]) w := fun v w => run_typeAssert_hasB Tryd.underlying35 (by kernel_rfl) v _ w
  have hZ := bNew w (.cells #[.int .i64 0, .string ⟨#[]⟩, .int .i64 0, .int .i64 0] 24)
  have hs := bSz w (.cells #[.int .i64 0, .string ⟨#[]⟩, .int .i64 0, .int .i64 0] 24)
  have hb0 : Below w.heap.size w (w.alloc (.cells #[.int .i64 0, .string ⟨#[]⟩, .int .i64 0, .int .i64 0] 24)) := (Below.refl _ _).alloc (Nat.le_refl _) _
  generalize hwa : w.alloc (.cells #[.int .i64 0, .string ⟨#[]⟩, .int .i64 0, .int .i64 0] 24) = wa at hZ hs hb0
  have hT := bNew wa (.cells #[.pointer none] 33)
  have hs2 := bSz wa (.cells #[.pointer none] 33)
  have hb1 : Below wa.heap.size wa (wa.alloc (.cells #[.pointer none] 33)) := (Below.refl _ _).alloc (Nat.le_refl _) _
  have hZ1 := bOld hZ (.cells #[.pointer none] 33)
  have hg1 : EType (wa.alloc (.cells #[.pointer none] 33)) := (hg.bel hb0).bel hb1
  go_enter Tryd.func11, Tryd.ntmps11
  go_upto_region 8 with fail
  clear hwa a1 a2
  generalize wa.alloc (.cells #[.pointer none] 33) = wb at hT hs2 hb1 hZ1 hg1 ⊢
  go_upto_region 11 with (first | (go_at_call 14; refine (as_no hg1).mono ?_; rintro e w1 ⟨rfl, hb2⟩) | fail)
  have hZ2 := (hb2.block _ (by omega)).trans hZ1
  have hZ3 := bOld hZ2 (.cells #[.int .i64 0] 22)
  have hg2 : EType (w1.alloc (.cells #[.int .i64 0] 22)) := (hg1.bel hb2).bel ((Below.refl _ _).alloc (Nat.le_refl _) _)
  have hE := bNew w1 (.cells #[.int .i64 0] 22)
  have hb3 : Below w1.heap.size w1 (w1.alloc (.cells #[.int .i64 0] 22)) := (Below.refl _ _).alloc (Nat.le_refl _) _
  have hs3 := bSz w1 (.cells #[.int .i64 0] 22)
  have l2 := hb2.size
  generalize w1.alloc (.cells #[.int .i64 0] 22) = wc at hZ3 hg2 hE hb3 hs3 ⊢
  go_wp2_with (first | (go_at_call 14; refine (as_errno hg2 hE).mono ?_; rintro e w2 ⟨rfl, hp, ht⟩; have c5 := (bCell hp 0).trans rfl; have hz1 := (ht.block w.heap.size (by omega) (by omega)).trans hZ3; have z0 := (bCell hz1 0).trans rfl; have z1 := (bCell hz1 1).trans rfl; have z2 := (bCell hz1 2).trans rfl; have z3 := (bCell hz1 3).trans rfl; have y0 := bFro hz1 0; have y1 := bFro hz1 1; have y2 := bFro hz1 2; have y3 := bFro hz1 3) | fail)
  have hz2 := bSet (bSet (bSet (bSet hz1 0 (.int .i64 1)) 1 (.string ⟨#[]⟩)) 2 (.int .i64 e)) 3 (.int .i64 0)
  refine bodyPost_ret (results_cell_row rfl _ _ w.heap.size 24 #[.int .i64 1, .string ⟨#[]⟩, .int .i64 e, .int .i64 0] (0, 0) _ rfl (hz2.trans rfl) Tryd.underlying24 rfl (by kernel_rfl)) rfl ?_
  have hB0 : Below w.heap.size w wc := (hb0.trans (hb1.mono (by omega))).trans ((hb2.mono (by omega)).trans (hb3.mono (by omega)))
  have hT2 : Tch w w2 (fun k => w.heap.size ≤ k) := (Tch.of_below hB0 _).trans ht (fun k hk => .inr (by omega))
  have hB2 := hT2.below (fun k hk => hk)
  exact ⟨rfl, (((hB2.setCell (Nat.le_refl _) _).setCell (Nat.le_refl _) _).setCell (Nat.le_refl _) _).setCell (Nat.le_refl _) _⟩
theorem run_err5 {w : World} {caps : Array Value} {R : World → World → Prop} {S : Nat → Prop} {c : Int} (hg : EType w) (hS : ∀ k, S k → k < w.heap.size ∧ k ≠ 0)
    (hf : ∀ w0, Below w.heap.size w w0 → Calls Tryd.prog 5 caps w0 fun e w' => e = .panicked (pan (.iface 22 (.int .i64 c))) ∧ R w0 w')
    (hR : ∀ w0 w', R w0 w' → Tch w0 w' S) :
    Calls Tryd.prog 4 #[.func (Fn.func 5) #[] caps] w fun e w' => ∃ w0 w1, e = .returned (.agg #[.int .i64 1, .string ⟨#[]⟩, .int .i64 c, .int .i64 0]) ∧ R w0 w1 ∧ Below w.heap.size w w0 ∧ Tch w w' S ∧ ∀ k, k < w.heap.size → w'.heap[k]? = w1.heap[k]? := by
  have hZ := bNew w (.cells #[.int .i64 0, .string ⟨#[]⟩, .int .i64 0, .int .i64 0] 24)
  have hs := bSz w (.cells #[.int .i64 0, .string ⟨#[]⟩, .int .i64 0, .int .i64 0] 24)
  have hb0 : Below w.heap.size w (w.alloc (.cells #[.int .i64 0, .string ⟨#[]⟩, .int .i64 0, .int .i64 0] 24)) := (Below.refl _ _).alloc (Nat.le_refl _) _
  generalize hwa : w.alloc (.cells #[.int .i64 0, .string ⟨#[]⟩, .int .i64 0, .int .i64 0] 24) = wa at hZ hs hb0
  have hcall := call_pan5 (w := wa) (caps := caps) (t := 22) (R := fun w0 v w' => v = .int .i64 c ∧ R w0 w')
    (fun w0 hb => (hf w0 (hb0.trans (hb.mono (by omega)))).mono fun e w' ⟨he, h3⟩ => ⟨_, he, rfl, h3⟩)
    (fun w0 v w' ⟨_, h3⟩ => ⟨(hR _ _ h3).size, fun k hk hk2 => (hR _ _ h3).block k hk2 (fun h => by have := (hS k h).1; omega)⟩)
  clear hf
  go_enter Tryd.func4, Tryd.ntmps4
  go_upto_region 1 with fail
  clear hwa
  go_wp2_with (first | (go_at_call 10; refine hcall.mono ?_; rintro e w2 ⟨v, w0, w1, rfl, ⟨rfl, hr⟩, hC⟩; have hT := hR _ _ hr; have hb1 := hC.b0; have hg1 : EType w2 := ((hg.bel hb0).bel hb1).keep ((hC.block 0 (.inl (by omega))).trans (hT.block 0 (by have := hg.lt; have := hb1.size; omega) (fun h => (hS 0 h).2 rfl)))) | (go_at_call 11; refine (caught_errno hg1).mono ?_; rintro e w3 ⟨rfl, hb3⟩; have hz3 : w3.heap[w.heap.size]? = some (.cells #[.int .i64 0, .string ⟨#[]⟩, .int .i64 0, .int .i64 0] 24 (0, 0)) := (hb3.block _ (by have := hC.size; have := hT.size; have := hb1.size; omega)).trans ((hC.block _ (.inl (by omega))).trans ((hT.block _ (by have := hb1.size; omega) (fun h => by have := (hS _ h).1; omega)).trans ((hb1.block _ (by omega)).trans hZ))); have z0 := (bCell hz3 0).trans rfl; have z1 := (bCell hz3 1).trans rfl; have z2 := (bCell hz3 2).trans rfl; have z3 := (bCell hz3 3).trans rfl; have y0 := bFro hz3 0; have y1 := bFro hz3 1; have y2 := bFro hz3 2; have y3 := bFro hz3 3))
  have hz4 := bSet (bSet (bSet (bSet hz3 0 (.int .i64 1)) 1 (.string ⟨#[]⟩)) 2 (.int .i64 c)) 3 (.int .i64 0)
  refine bodyPost_ret (results_cell_row rfl _ _ w.heap.size 24 #[.int .i64 1, .string ⟨#[]⟩, .int .i64 c, .int .i64 0] (0, 0) _ rfl (hz4.trans rfl) Tryd.underlying24 rfl (by kernel_rfl)) rfl ?_
  have hq : ∀ k, k < w.heap.size → ((((w3.setCell ⟨w.heap.size, 0, none⟩ (.int .i64 1)).setCell ⟨w.heap.size, 1, none⟩ (.string ⟨#[]⟩)).setCell ⟨w.heap.size, 2, none⟩ (.int .i64 c)).setCell ⟨w.heap.size, 3, none⟩ (.int .i64 0)).heap[k]? = w1.heap[k]? := fun k hk => by
    rw [bFar _ _ (by omega), bFar _ _ (by omega), bFar _ _ (by omega), bFar _ _ (by omega)]
    exact (hb3.block k (by have := hC.size; have := hT.size; have := hb1.size; omega)).trans (hC.block k (.inl (by omega)))
  refine ⟨w0, w1, rfl, hr, hb0.trans (hb1.mono (by omega)), ⟨?_, ?_, ?_, ?_, fun k hk hn => (hq k hk).trans ((hT.block k (by have := hb1.size; omega) hn).trans ((hb1.block k (by omega)).trans (hb0.block k hk)))⟩, hq⟩
  · exact hb3.os.trans (hC.os.trans (hT.os.trans (hb1.os.trans hb0.os)))
  · exact hb3.tape.trans (hC.tape.trans (hT.tape.trans (hb1.tape.trans hb0.tape)))
  · exact hb3.output.trans (hC.output.trans (hT.output.trans (hb1.output.trans hb0.output)))
  · rw [bSsz, bSsz, bSsz, bSsz]
    have := hb3.size
    have := hC.size
    have := hT.size
    have := hb1.size
    omega
theorem call_pan12 {w : World} {caps : Array Value} {R : World → Value → World → Prop} {t : TypeId}
    (hf : ∀ w0, Below w.heap.size w w0 → Calls Tryd.prog 12 caps w0 fun e w' => ∃ v, e = .panicked (pan (.iface t v)) ∧ R w0 v w') (hR : ∀ w0 v w', R w0 v w' → Keeps w w0 w') :
    Calls Tryd.prog 10 #[.func (Fn.func 12) #[] caps] w fun e w' => ∃ v w0 w1, e = .returned (.tuple #[.iface t v, .bool true]) ∧ R w0 v w1 ∧ Caught w w0 w1 w' := by
  have hmf : ∀ (fn : Fn) (first cap : Array Value) (w : World), (Instr.makeFunc fn first cap).run Tryd.prog w = .ok (.func fn first cap) w := fun _ _ _ _ => rfl
  have hnil : ∀ w : World, (binOp BinOp.eql 1 (.func (Fn.func 12) #[] caps) .nilFunc).run Tryd.prog w = .ok (.bool false) w := fun _ => rfl
  go_enter_defers Tryd.func10, Tryd.ntmps10
  go_wp2_with (first | (go_at_call 12; refine (hf _ (((Below.refl _ _).alloc (Nat.le_refl _) _).alloc (Nat.le_trans (Nat.le_succ _) (Nat.le_of_eq (bSz _ _).symm)) _)).mono ?_; rintro e w1 ⟨v, rfl, hr⟩) | fail)
  obtain ⟨hs, hk⟩ := hR _ _ _ hr
  have c2 := (hk w.heap.size (Nat.le_refl _) (by rw [bSz, bSz]; omega)).trans (bOld (bNew w _) _)
  have c3 := (hk (w.heap.size + 1) (by omega) (by simp only [bSz]; omega)).trans (show ((w.alloc (.cells #[.nilIface] 20)).alloc (.cells #[.bool true] 4)).heap[w.heap.size + 1]? = some (.cells #[.bool true] 4 (0, 0)) from by have h := bNew (w.alloc (.cells #[.nilIface] 20)) (.cells #[.bool true] 4); rw [bSz] at h; exact h)
  have d2 : w1.cell? ⟨w.heap.size, 0, none⟩ = some .nilIface := (bCell c2 0).trans rfl
  have d3 : w1.cell? ⟨w.heap.size + 1, 0, none⟩ = some (.bool true) := (bCell c3 0).trans rfl
  have e2 : w1.frozen? ⟨w.heap.size, 0, none⟩ = false := bFro c2 0
  refine leaves_cons (f := 13) (args := #[.pointer (some ⟨w.heap.size + 1, 0, none⟩), .pointer (some ⟨w.heap.size, 0, none⟩)]) (by simp) (by simp [go_sem]) ?_
  refine (catch_pan ⟨w.heap.size + 1, 0, none⟩ ⟨w.heap.size, 0, none⟩ t v .nilIface [] _ d3 d2 e2).mono ?_
  rintro e u' w'' ⟨rfl, rfl, rfl⟩
  have k2 := (bSet c2 0 (.iface t v))
  have k3 := (bFar (w := w1) (g := w.heap.size) 0 (.iface t v) (show w.heap.size + 1 ≠ w.heap.size by omega)).trans c3
  have d4 : (w1.setCell ⟨w.heap.size, 0, none⟩ (.iface t v)).cell? ⟨w.heap.size, 0, none⟩ = some (.iface t v) := (bCell k2 0).trans rfl
  have d5 : (w1.setCell ⟨w.heap.size, 0, none⟩ (.iface t v)).cell? ⟨w.heap.size + 1, 0, none⟩ = some (.bool true) := (bCell k3 0).trans rfl
  have hb0 : Below w.heap.size w ((w.alloc (.cells #[.nilIface] 20)).alloc (.cells #[.bool true] 4)) := ((Below.refl _ _).alloc (Nat.le_refl _) _).alloc (Nat.le_trans (Nat.le_succ _) (Nat.le_of_eq (bSz _ _).symm)) _
  have hC : Caught w ((w.alloc (.cells #[.nilIface] 20)).alloc (.cells #[.bool true] 4)) w1 (w1.setCell ⟨w.heap.size, 0, none⟩ (.iface t v)) :=
    ⟨hb0, rfl, rfl, rfl, bSsz _ _ _, fun k hk => bFar _ _ (by rw [bSz, bSz] at hk; omega)⟩
  simp [Leaves, settle, results, Tryd.results10, go_sem, d4, d5]
  exact ⟨_, _, hr, hC⟩
theorem run_err12 {w : World} {caps : Array Value} {R : World → World → Prop} {S : Nat → Prop} {c : Int} (hg : EType w) (hS : ∀ k, S k → k < w.heap.size ∧ k ≠ 0)
    (hf : ∀ w0, Below w.heap.size w w0 → Calls Tryd.prog 12 caps w0 fun e w' => e = .panicked (pan (.iface 22 (.int .i64 c))) ∧ R w0 w')
    (hR : ∀ w0 w', R w0 w' → Tch w0 w' S) :
    Calls Tryd.prog 4 #[.func (Fn.func 12) #[] caps] w fun e w' => ∃ w0 w1, e = .returned (.agg #[.int .i64 1, .string ⟨#[]⟩, .int .i64 c, .int .i64 0]) ∧ R w0 w1 ∧ Below w.heap.size w w0 ∧ Tch w w' S ∧ ∀ k, k < w.heap.size → w'.heap[k]? = w1.heap[k]? := by
  have hZ := bNew w (.cells #[.int .i64 0, .string ⟨#[]⟩, .int .i64 0, .int .i64 0] 24)
  have hs := bSz w (.cells #[.int .i64 0, .string ⟨#[]⟩, .int .i64 0, .int .i64 0] 24)
  have hb0 : Below w.heap.size w (w.alloc (.cells #[.int .i64 0, .string ⟨#[]⟩, .int .i64 0, .int .i64 0] 24)) := (Below.refl _ _).alloc (Nat.le_refl _) _
  generalize hwa : w.alloc (.cells #[.int .i64 0, .string ⟨#[]⟩, .int .i64 0, .int .i64 0] 24) = wa at hZ hs hb0
  have hcall := call_pan12 (w := wa) (caps := caps) (t := 22) (R := fun w0 v w' => v = .int .i64 c ∧ R w0 w')
    (fun w0 hb => (hf w0 (hb0.trans (hb.mono (by omega)))).mono fun e w' ⟨he, h3⟩ => ⟨_, he, rfl, h3⟩)
    (fun w0 v w' ⟨_, h3⟩ => ⟨(hR _ _ h3).size, fun k hk hk2 => (hR _ _ h3).block k hk2 (fun h => by have := (hS k h).1; omega)⟩)
  clear hf
  go_enter Tryd.func4, Tryd.ntmps4
  go_upto_region 1 with fail
  clear hwa
  go_wp2_with (first | (go_at_call 10; refine hcall.mono ?_; rintro e w2 ⟨v, w0, w1, rfl, ⟨rfl, hr⟩, hC⟩; have hT := hR _ _ hr; have hb1 := hC.b0; have hg1 : EType w2 := ((hg.bel hb0).bel hb1).keep ((hC.block 0 (.inl (by omega))).trans (hT.block 0 (by have := hg.lt; have := hb1.size; omega) (fun h => (hS 0 h).2 rfl)))) | (go_at_call 11; refine (caught_errno hg1).mono ?_; rintro e w3 ⟨rfl, hb3⟩; have hz3 : w3.heap[w.heap.size]? = some (.cells #[.int .i64 0, .string ⟨#[]⟩, .int .i64 0, .int .i64 0] 24 (0, 0)) := (hb3.block _ (by have := hC.size; have := hT.size; have := hb1.size; omega)).trans ((hC.block _ (.inl (by omega))).trans ((hT.block _ (by have := hb1.size; omega) (fun h => by have := (hS _ h).1; omega)).trans ((hb1.block _ (by omega)).trans hZ))); have z0 := (bCell hz3 0).trans rfl; have z1 := (bCell hz3 1).trans rfl; have z2 := (bCell hz3 2).trans rfl; have z3 := (bCell hz3 3).trans rfl; have y0 := bFro hz3 0; have y1 := bFro hz3 1; have y2 := bFro hz3 2; have y3 := bFro hz3 3))
  have hz4 := bSet (bSet (bSet (bSet hz3 0 (.int .i64 1)) 1 (.string ⟨#[]⟩)) 2 (.int .i64 c)) 3 (.int .i64 0)
  refine bodyPost_ret (results_cell_row rfl _ _ w.heap.size 24 #[.int .i64 1, .string ⟨#[]⟩, .int .i64 c, .int .i64 0] (0, 0) _ rfl (hz4.trans rfl) Tryd.underlying24 rfl (by kernel_rfl)) rfl ?_
  have hq : ∀ k, k < w.heap.size → ((((w3.setCell ⟨w.heap.size, 0, none⟩ (.int .i64 1)).setCell ⟨w.heap.size, 1, none⟩ (.string ⟨#[]⟩)).setCell ⟨w.heap.size, 2, none⟩ (.int .i64 c)).setCell ⟨w.heap.size, 3, none⟩ (.int .i64 0)).heap[k]? = w1.heap[k]? := fun k hk => by
    rw [bFar _ _ (by omega), bFar _ _ (by omega), bFar _ _ (by omega), bFar _ _ (by omega)]
    exact (hb3.block k (by have := hC.size; have := hT.size; have := hb1.size; omega)).trans (hC.block k (.inl (by omega)))
  refine ⟨w0, w1, rfl, hr, hb0.trans (hb1.mono (by omega)), ⟨?_, ?_, ?_, ?_, fun k hk hn => (hq k hk).trans ((hT.block k (by have := hb1.size; omega) hn).trans ((hb1.block k (by omega)).trans (hb0.block k hk)))⟩, hq⟩
  · exact hb3.os.trans (hC.os.trans (hT.os.trans (hb1.os.trans hb0.os)))
  · exact hb3.tape.trans (hC.tape.trans (hT.tape.trans (hb1.tape.trans hb0.tape)))
  · exact hb3.output.trans (hC.output.trans (hT.output.trans (hb1.output.trans hb0.output)))
  · rw [bSsz, bSsz, bSsz, bSsz]
    have := hb3.size
    have := hC.size
    have := hT.size
    have := hb1.size
    omega
theorem call_pan7 {w : World} {caps : Array Value} {R : World → Value → World → Prop} {t : TypeId}
    (hf : ∀ w0, Below w.heap.size w w0 → Calls Tryd.prog 7 caps w0 fun e w' => ∃ v, e = .panicked (pan (.iface t v)) ∧ R w0 v w') (hR : ∀ w0 v w', R w0 v w' → Keeps w w0 w') :
    Calls Tryd.prog 10 #[.func (Fn.func 7) #[] caps] w fun e w' => ∃ v w0 w1, e = .returned (.tuple #[.iface t v, .bool true]) ∧ R w0 v w1 ∧ Caught w w0 w1 w' := by
  have hmf : ∀ (fn : Fn) (first cap : Array Value) (w : World), (Instr.makeFunc fn first cap).run Tryd.prog w = .ok (.func fn first cap) w := fun _ _ _ _ => rfl
  have hnil : ∀ w : World, (binOp BinOp.eql 1 (.func (Fn.func 7) #[] caps) .nilFunc).run Tryd.prog w = .ok (.bool false) w := fun _ => rfl
  go_enter_defers Tryd.func10, Tryd.ntmps10
  go_wp2_with (first | (go_at_call 7; refine (hf _ (((Below.refl _ _).alloc (Nat.le_refl _) _).alloc (Nat.le_trans (Nat.le_succ _) (Nat.le_of_eq (bSz _ _).symm)) _)).mono ?_; rintro e w1 ⟨v, rfl, hr⟩) | fail)
  obtain ⟨hs, hk⟩ := hR _ _ _ hr
  have c2 := (hk w.heap.size (Nat.le_refl _) (by rw [bSz, bSz]; omega)).trans (bOld (bNew w _) _)
  have c3 := (hk (w.heap.size + 1) (by omega) (by simp only [bSz]; omega)).trans (show ((w.alloc (.cells #[.nilIface] 20)).alloc (.cells #[.bool true] 4)).heap[w.heap.size + 1]? = some (.cells #[.bool true] 4 (0, 0)) from by have h := bNew (w.alloc (.cells #[.nilIface] 20)) (.cells #[.bool true] 4); rw [bSz] at h; exact h)
  have d2 : w1.cell? ⟨w.heap.size, 0, none⟩ = some .nilIface := (bCell c2 0).trans rfl
  have d3 : w1.cell? ⟨w.heap.size + 1, 0, none⟩ = some (.bool true) := (bCell c3 0).trans rfl
  have e2 : w1.frozen? ⟨w.heap.size, 0, none⟩ = false := bFro c2 0
  refine leaves_cons (f := 13) (args := #[.pointer (some ⟨w.heap.size + 1, 0, none⟩), .pointer (some ⟨w.heap.size, 0, none⟩)]) (by simp) (by simp [go_sem]) ?_
  refine (catch_pan ⟨w.heap.size + 1, 0, none⟩ ⟨w.heap.size, 0, none⟩ t v .nilIface [] _ d3 d2 e2).mono ?_
  rintro e u' w'' ⟨rfl, rfl, rfl⟩
  have k2 := (bSet c2 0 (.iface t v))
  have k3 := (bFar (w := w1) (g := w.heap.size) 0 (.iface t v) (show w.heap.size + 1 ≠ w.heap.size by omega)).trans c3
  have d4 : (w1.setCell ⟨w.heap.size, 0, none⟩ (.iface t v)).cell? ⟨w.heap.size, 0, none⟩ = some (.iface t v) := (bCell k2 0).trans rfl
  have d5 : (w1.setCell ⟨w.heap.size, 0, none⟩ (.iface t v)).cell? ⟨w.heap.size + 1, 0, none⟩ = some (.bool true) := (bCell k3 0).trans rfl
  have hb0 : Below w.heap.size w ((w.alloc (.cells #[.nilIface] 20)).alloc (.cells #[.bool true] 4)) := ((Below.refl _ _).alloc (Nat.le_refl _) _).alloc (Nat.le_trans (Nat.le_succ _) (Nat.le_of_eq (bSz _ _).symm)) _
  have hC : Caught w ((w.alloc (.cells #[.nilIface] 20)).alloc (.cells #[.bool true] 4)) w1 (w1.setCell ⟨w.heap.size, 0, none⟩ (.iface t v)) :=
    ⟨hb0, rfl, rfl, rfl, bSsz _ _ _, fun k hk => bFar _ _ (by rw [bSz, bSz] at hk; omega)⟩
  simp [Leaves, settle, results, Tryd.results10, go_sem, d4, d5]
  exact ⟨_, _, hr, hC⟩
theorem call_ret7 {w : World} {caps : Array Value} {R : World → World → Prop}
    (hf : ∀ w0, Below w.heap.size w w0 → Calls Tryd.prog 7 caps w0 fun e w' => e = .returned (.tuple #[]) ∧ R w0 w') (hR : ∀ w0 w', R w0 w' → Keeps w w0 w') :
    Calls Tryd.prog 10 #[.func (Fn.func 7) #[] caps] w fun e w' => ∃ w0 w1, e = .returned (.tuple #[.nilIface, .bool false]) ∧ R w0 w1 ∧ Caught w w0 w1 w' := by
  have hmf : ∀ (fn : Fn) (first cap : Array Value) (w : World), (Instr.makeFunc fn first cap).run Tryd.prog w = .ok (.func fn first cap) w := fun _ _ _ _ => rfl
  have hnil : ∀ w : World, (binOp BinOp.eql 1 (.func (Fn.func 7) #[] caps) .nilFunc).run Tryd.prog w = .ok (.bool false) w := fun _ => rfl
  go_enter_defers Tryd.func10, Tryd.ntmps10
  go_wp2_with (first | (go_at_call 7; refine (hf _ (((Below.refl _ _).alloc (Nat.le_refl _) _).alloc (Nat.le_trans (Nat.le_succ _) (Nat.le_of_eq (bSz _ _).symm)) _)).mono ?_; rintro e w1 ⟨rfl, hr⟩; have hRk := hR _ _ hr; have c2 := (hRk.2 w.heap.size (Nat.le_refl _) (by rw [bSz, bSz]; omega)).trans (bOld (bNew w _) _); have c3 := (hRk.2 (w.heap.size + 1) (by omega) (by simp only [bSz]; omega)).trans (show ((w.alloc (.cells #[.nilIface] 20)).alloc (.cells #[.bool true] 4)).heap[w.heap.size + 1]? = some (.cells #[.bool true] 4 (0, 0)) from by have h := bNew (w.alloc (.cells #[.nilIface] 20)) (.cells #[.bool true] 4); rw [bSz] at h; exact h); have d2 : w1.cell? ⟨w.heap.size, 0, none⟩ = some .nilIface := (bCell c2 0).trans rfl; have d3 : w1.cell? ⟨w.heap.size + 1, 0, none⟩ = some (.bool true) := (bCell c3 0).trans rfl; have e2 : w1.frozen? ⟨w.heap.size, 0, none⟩ = false := bFro c2 0; have e3 : w1.frozen? ⟨w.heap.size + 1, 0, none⟩ = false := bFro c3 0) | fail)
  have n1 : w.heap.size ≠ w.heap.size + 1 := by omega
  have k2 := (bFar (w := w1) (g := w.heap.size + 1) 0 (.bool false) n1).trans c2
  have k3 := bSet c3 0 (.bool false)
  have k2' := bSet k2 0 .nilIface
  have k3' := (bFar (w := (w1.setCell ⟨w.heap.size + 1, 0, none⟩ (.bool false))) (g := w.heap.size) 0 .nilIface n1.symm).trans k3
  have m3 := bSet k3' 0 (.bool false)
  have m2 := (bFar (w := ((w1.setCell ⟨w.heap.size + 1, 0, none⟩ (.bool false)).setCell ⟨w.heap.size, 0, none⟩ .nilIface)) (g := w.heap.size + 1) 0 (.bool false) n1).trans k2'
  have v3 : (((w1.setCell ⟨w.heap.size + 1, 0, none⟩ (.bool false)).setCell ⟨w.heap.size, 0, none⟩ .nilIface).setCell ⟨w.heap.size + 1, 0, none⟩ (.bool false)).cell? ⟨w.heap.size + 1, 0, none⟩ = some (.bool false) := (bCell m3 0).trans rfl
  have v2 : (((w1.setCell ⟨w.heap.size + 1, 0, none⟩ (.bool false)).setCell ⟨w.heap.size, 0, none⟩ .nilIface).setCell ⟨w.heap.size + 1, 0, none⟩ (.bool false)).cell? ⟨w.heap.size, 0, none⟩ = some .nilIface := (bCell m2 0).trans rfl
  have hb0 : Below w.heap.size w ((w.alloc (.cells #[.nilIface] 20)).alloc (.cells #[.bool true] 4)) := ((Below.refl _ _).alloc (Nat.le_refl _) _).alloc (Nat.le_trans (Nat.le_succ _) (Nat.le_of_eq (bSz _ _).symm)) _
  have hC : Caught w ((w.alloc (.cells #[.nilIface] 20)).alloc (.cells #[.bool true] 4)) w1 (((w1.setCell ⟨w.heap.size + 1, 0, none⟩ (.bool false)).setCell ⟨w.heap.size, 0, none⟩ .nilIface).setCell ⟨w.heap.size + 1, 0, none⟩ (.bool false)) :=
    ⟨hb0, rfl, rfl, rfl, by rw [bSsz, bSsz, bSsz], fun k hk => by
      rw [bSz, bSz] at hk
      rw [bFar _ _ (by omega), bFar _ _ (by omega), bFar _ _ (by omega)]⟩
  refine leaves_cons (f := 13) (args := #[.pointer (some ⟨w.heap.size + 1, 0, none⟩), .pointer (some ⟨w.heap.size, 0, none⟩)]) (by simp) (by simp [go_sem]) ?_
  refine (catch_idle ⟨w.heap.size + 1, 0, none⟩ ⟨w.heap.size, 0, none⟩ _ v3).mono ?_
  rintro e u' w'' ⟨rfl, rfl, rfl⟩
  simp [Leaves, settle, results, Tryd.results10, go_sem, v2, v3]
  exact ⟨_, _, hr, hC⟩
theorem run_pan7 {w : World} {caps : Array Value} {R : World → World → Prop} {S : Nat → Prop} {c p : Int} (hg : EType w) (hS : ∀ k, S k → k < w.heap.size ∧ k ≠ 0)
    (hf : ∀ w0, Below w.heap.size w w0 → Calls Tryd.prog 7 caps w0 fun e w' => ∃ f, e = .panicked (pan (.iface 33 (.pointer (some ⟨f, 0, none⟩)))) ∧ w0.heap.size ≤ f ∧ w'.heap[f]? = some (.cells #[.int .i64 c, .int .i64 p, .nilIface] 37 (0, 0)) ∧ R w0 w')
    (hR : ∀ w0 w', R w0 w' → Tch w0 w' S) :
    Calls Tryd.prog 4 #[.func (Fn.func 7) #[] caps] w fun e w' => ∃ w0 w1, e = .returned (.agg #[.int .i64 2, .string ⟨#[]⟩, .int .i64 c, .int .i64 p]) ∧ R w0 w1 ∧ Below w.heap.size w w0 ∧ Tch w w' S ∧ ∀ k, k < w.heap.size → w'.heap[k]? = w1.heap[k]? := by
  have hZ := bNew w (.cells #[.int .i64 0, .string ⟨#[]⟩, .int .i64 0, .int .i64 0] 24)
  have hs := bSz w (.cells #[.int .i64 0, .string ⟨#[]⟩, .int .i64 0, .int .i64 0] 24)
  have hb0 : Below w.heap.size w (w.alloc (.cells #[.int .i64 0, .string ⟨#[]⟩, .int .i64 0, .int .i64 0] 24)) := (Below.refl _ _).alloc (Nat.le_refl _) _
  generalize hwa : w.alloc (.cells #[.int .i64 0, .string ⟨#[]⟩, .int .i64 0, .int .i64 0] 24) = wa at hZ hs hb0
  have hcall := call_pan7 (w := wa) (caps := caps) (t := 33) (R := fun w0 v w' => ∃ f, v = .pointer (some ⟨f, 0, none⟩) ∧ w0.heap.size ≤ f ∧ w'.heap[f]? = some (.cells #[.int .i64 c, .int .i64 p, .nilIface] 37 (0, 0)) ∧ R w0 w')
    (fun w0 hb => (hf w0 (hb0.trans (hb.mono (by omega)))).mono fun e w' ⟨f, he, h1, h2, h3⟩ => ⟨_, he, f, rfl, h1, h2, h3⟩)
    (fun w0 v w' ⟨f, _, _, _, h3⟩ => ⟨(hR _ _ h3).size, fun k hk hk2 => (hR _ _ h3).block k hk2 (fun h => by have := (hS k h).1; omega)⟩)
  clear hf
  go_enter Tryd.func4, Tryd.ntmps4
  go_upto_region 1 with fail
  clear hwa
  go_wp2_with (first | (go_at_call 10; refine hcall.mono ?_; rintro e w2 ⟨v, w0, w1, rfl, ⟨f, rfl, hf1, hf2, hr⟩, hC⟩; have hT := hR _ _ hr; have hb1 := hC.b0; have hg1 : EType w2 := ((hg.bel hb0).bel hb1).keep ((hC.block 0 (.inl (by omega))).trans (hT.block 0 (by have := hg.lt; have := hb1.size; omega) (fun h => (hS 0 h).2 rfl))); have hf3 := (hC.block f (.inr hf1)).trans hf2) | (go_at_call 11; refine (caught_fault hg1 hf3).mono ?_; rintro e w3 ⟨rfl, hb3⟩; have hz3 : w3.heap[w.heap.size]? = some (.cells #[.int .i64 0, .string ⟨#[]⟩, .int .i64 0, .int .i64 0] 24 (0, 0)) := (hb3.block _ (by have := hC.size; have := hT.size; have := hb1.size; omega)).trans ((hC.block _ (.inl (by omega))).trans ((hT.block _ (by have := hb1.size; omega) (fun h => by have := (hS _ h).1; omega)).trans ((hb1.block _ (by omega)).trans hZ))); have z0 := (bCell hz3 0).trans rfl; have z1 := (bCell hz3 1).trans rfl; have z2 := (bCell hz3 2).trans rfl; have z3 := (bCell hz3 3).trans rfl; have y0 := bFro hz3 0; have y1 := bFro hz3 1; have y2 := bFro hz3 2; have y3 := bFro hz3 3))
  have hz4 := bSet (bSet (bSet (bSet hz3 0 (.int .i64 2)) 1 (.string ⟨#[]⟩)) 2 (.int .i64 c)) 3 (.int .i64 p)
  refine bodyPost_ret (results_cell_row rfl _ _ w.heap.size 24 #[.int .i64 2, .string ⟨#[]⟩, .int .i64 c, .int .i64 p] (0, 0) _ rfl (hz4.trans rfl) Tryd.underlying24 rfl (by kernel_rfl)) rfl ?_
  have hq : ∀ k, k < w.heap.size → ((((w3.setCell ⟨w.heap.size, 0, none⟩ (.int .i64 2)).setCell ⟨w.heap.size, 1, none⟩ (.string ⟨#[]⟩)).setCell ⟨w.heap.size, 2, none⟩ (.int .i64 c)).setCell ⟨w.heap.size, 3, none⟩ (.int .i64 p)).heap[k]? = w1.heap[k]? := fun k hk => by
    rw [bFar _ _ (by omega), bFar _ _ (by omega), bFar _ _ (by omega), bFar _ _ (by omega)]
    exact (hb3.block k (by have := hC.size; have := hT.size; have := hb1.size; omega)).trans (hC.block k (.inl (by omega)))
  refine ⟨w0, w1, rfl, hr, hb0.trans (hb1.mono (by omega)), ⟨?_, ?_, ?_, ?_, fun k hk hn => (hq k hk).trans ((hT.block k (by have := hb1.size; omega) hn).trans ((hb1.block k (by omega)).trans (hb0.block k hk)))⟩, hq⟩
  · exact hb3.os.trans (hC.os.trans (hT.os.trans (hb1.os.trans hb0.os)))
  · exact hb3.tape.trans (hC.tape.trans (hT.tape.trans (hb1.tape.trans hb0.tape)))
  · exact hb3.output.trans (hC.output.trans (hT.output.trans (hb1.output.trans hb0.output)))
  · rw [bSsz, bSsz, bSsz, bSsz]
    have := hb3.size
    have := hC.size
    have := hT.size
    have := hb1.size
    omega
theorem run_ret7 {w : World} {caps : Array Value} {R : World → World → Prop} {S : Nat → Prop} (hS : ∀ k, S k → k < w.heap.size)
    (hf : ∀ w0, Below w.heap.size w w0 → Calls Tryd.prog 7 caps w0 fun e w' => e = .returned (.tuple #[]) ∧ R w0 w')
    (hR : ∀ w0 w', R w0 w' → Tch w0 w' S) :
    Calls Tryd.prog 4 #[.func (Fn.func 7) #[] caps] w fun e w' => ∃ w0 w1, e = .returned (.agg #[.int .i64 0, .string ⟨#[]⟩, .int .i64 0, .int .i64 0]) ∧ R w0 w1 ∧ Below w.heap.size w w0 ∧ Tch w w' S ∧ ∀ k, k < w.heap.size → w'.heap[k]? = w1.heap[k]? := by
  have hZ := bNew w (.cells #[.int .i64 0, .string ⟨#[]⟩, .int .i64 0, .int .i64 0] 24)
  have hs := bSz w (.cells #[.int .i64 0, .string ⟨#[]⟩, .int .i64 0, .int .i64 0] 24)
  have hb0 : Below w.heap.size w (w.alloc (.cells #[.int .i64 0, .string ⟨#[]⟩, .int .i64 0, .int .i64 0] 24)) := (Below.refl _ _).alloc (Nat.le_refl _) _
  generalize hwa : w.alloc (.cells #[.int .i64 0, .string ⟨#[]⟩, .int .i64 0, .int .i64 0] 24) = wa at hZ hs hb0
  have hcall := call_ret7 (w := wa) (caps := caps) (R := R) (fun w0 hb => hf w0 (hb0.trans (hb.mono (by omega))))
    (fun w0 w' h3 => ⟨(hR _ _ h3).size, fun k hk hk2 => (hR _ _ h3).block k hk2 (fun h => by have := hS k h; omega)⟩)
  clear hf
  go_enter Tryd.func4, Tryd.ntmps4
  go_upto_region 1 with fail
  clear hwa
  go_wp2_with (first | (go_at_call 10; refine hcall.mono ?_; rintro e w2 ⟨w0, w1, rfl, hr, hC⟩; have hT := hR _ _ hr; have hb1 := hC.b0; have hz3 : w2.heap[w.heap.size]? = some (.cells #[.int .i64 0, .string ⟨#[]⟩, .int .i64 0, .int .i64 0] 24 (0, 0)) := ((hC.block _ (.inl (by omega))).trans ((hT.block _ (by have := hb1.size; omega) (fun h => by have := hS _ h; omega)).trans ((hb1.block _ (by omega)).trans hZ))); have z0 := (bCell hz3 0).trans rfl; have z1 := (bCell hz3 1).trans rfl; have z2 := (bCell hz3 2).trans rfl; have z3 := (bCell hz3 3).trans rfl; have y0 := bFro hz3 0; have y1 := bFro hz3 1; have y2 := bFro hz3 2; have y3 := bFro hz3 3) | fail)
  have hz4 := bSet (bSet (bSet (bSet hz3 0 (.int .i64 0)) 1 (.string ⟨#[]⟩)) 2 (.int .i64 0)) 3 (.int .i64 0)
  refine bodyPost_ret (results_cell_row rfl _ _ w.heap.size 24 #[.int .i64 0, .string ⟨#[]⟩, .int .i64 0, .int .i64 0] (0, 0) _ rfl (hz4.trans rfl) Tryd.underlying24 rfl (by kernel_rfl)) rfl ?_
  have hq : ∀ k, k < w.heap.size → ((((w2.setCell ⟨w.heap.size, 0, none⟩ (.int .i64 0)).setCell ⟨w.heap.size, 1, none⟩ (.string ⟨#[]⟩)).setCell ⟨w.heap.size, 2, none⟩ (.int .i64 0)).setCell ⟨w.heap.size, 3, none⟩ (.int .i64 0)).heap[k]? = w1.heap[k]? := fun k hk => by
    rw [bFar _ _ (by omega), bFar _ _ (by omega), bFar _ _ (by omega), bFar _ _ (by omega)]
    exact hC.block k (.inl (by omega))
  refine ⟨w0, w1, rfl, hr, hb0.trans (hb1.mono (by omega)), ⟨?_, ?_, ?_, ?_, fun k hk hn => (hq k hk).trans ((hT.block k (by have := hb1.size; omega) hn).trans ((hb1.block k (by omega)).trans (hb0.block k hk)))⟩, hq⟩
  · exact hC.os.trans (hT.os.trans (hb1.os.trans hb0.os))
  · exact hC.tape.trans (hT.tape.trans (hb1.tape.trans hb0.tape))
  · exact hC.output.trans (hT.output.trans (hb1.output.trans hb0.output))
  · rw [bSsz, bSsz, bSsz, bSsz]
    have := hC.size
    have := hT.size
    have := hb1.size
    omega
theorem must_ok (w : World) : Calls Tryd.prog 6 #[.int .i64 0] w fun e w' => e = .returned (.tuple #[]) ∧ w' = w := by
  go_enter Tryd.func6, Tryd.ntmps6
  go_wp2
  go_end0
  exact ⟨rfl, rfl⟩
theorem must_no {c : Int} (hc : c ≠ 0) (w : World) : Calls Tryd.prog 6 #[.int .i64 c] w fun e w' => e = .panicked (pan (.iface 22 (.int .i64 c))) ∧ w' = w := by
  have t1 : (c != 0) = true := by simpa using hc
  clear hc
  go_enter Tryd.func6, Tryd.ntmps6
  go_wp2
  exact ⟨rfl, rfl, rfl⟩
theorem ca_no (w : World) : Calls Tryd.prog 12 #[] w fun e w' => e = .panicked (pan (.iface 22 (.int .i64 70))) ∧ w' = w := by
  go_enter Tryd.func12, Tryd.ntmps12
  go_wp2
  exact ⟨rfl, rfl, rfl⟩
section
variable {w : World} {g3 g4 g5 g7 : Nat} {c p n : Int}
theorem c1_ok (h3 : w.heap[g3]? = some (.cells #[.int .i64 0] 22 (0, 0))) (h7 : w.heap[g7]? = some (.cells #[.int .i64 n] 3 (0, 0))) : Calls Tryd.prog 5 #[.pointer (some ⟨g3, 0, none⟩), .pointer (some ⟨g7, 0, none⟩)] w fun e w' => e = .returned (.tuple #[]) ∧ w' = w.setCell ⟨g7, 0, none⟩ (.int .i64 (wrap64 (n + 1))) := by
  have x3 := (bCell h3 0).trans rfl
  have x7 := (bCell h7 0).trans rfl
  have f7 := bFro h7 0
  go_enter Tryd.func5, Tryd.ntmps5
  go_wp2_with (first | (go_at_call 6; refine (must_ok _).mono ?_; rintro e w1 ⟨rfl, rfl⟩) | fail)
  go_end0
  exact ⟨rfl, rfl⟩
theorem c1_no (hc : c ≠ 0) (h3 : w.heap[g3]? = some (.cells #[.int .i64 c] 22 (0, 0))) : Calls Tryd.prog 5 #[.pointer (some ⟨g3, 0, none⟩), .pointer (some ⟨g7, 0, none⟩)] w fun e w' => e = .panicked (pan (.iface 22 (.int .i64 c))) ∧ w' = w := by
  have x3 := (bCell h3 0).trans rfl
  go_enter Tryd.func5, Tryd.ntmps5
  go_wp2_with (first | (go_at_call 6; refine (must_no hc _).mono ?_; rintro e w1 ⟨rfl, rfl⟩) | fail)
  exact ⟨rfl, rfl, rfl⟩
theorem c2_ok (h4 : w.heap[g4]? = some (.cells #[.bool true] 4 (0, 0))) (h3 : w.heap[g3]? = some (.cells #[.int .i64 c] 22 (0, 0))) (h5 : w.heap[g5]? = some (.cells #[.int .i64 p] 3 (0, 0))) (h7 : w.heap[g7]? = some (.cells #[.int .i64 n] 3 (0, 0))) : Calls Tryd.prog 7 #[.pointer (some ⟨g4, 0, none⟩), .pointer (some ⟨g3, 0, none⟩), .pointer (some ⟨g5, 0, none⟩), .pointer (some ⟨g7, 0, none⟩)] w fun e w' => e = .returned (.tuple #[]) ∧ w' = w.setCell ⟨g7, 0, none⟩ (.int .i64 (wrap64 (n + 2))) := by
  have x3 := (bCell h3 0).trans rfl
  have x4 := (bCell h4 0).trans rfl
  have x5 := (bCell h5 0).trans rfl
  have x7 := (bCell h7 0).trans rfl
  have f7 := bFro h7 0
  go_enter Tryd.func7, Tryd.ntmps7
  go_wp2_with (first | (go_at_call 8; refine (check_ok _ _ _).mono ?_; rintro e w1 ⟨rfl, rfl⟩) | fail)
  go_end0
  exact ⟨rfl, rfl⟩
theorem c2_no (h4 : w.heap[g4]? = some (.cells #[.bool false] 4 (0, 0))) (h3 : w.heap[g3]? = some (.cells #[.int .i64 c] 22 (0, 0))) (h5 : w.heap[g5]? = some (.cells #[.int .i64 p] 3 (0, 0))) : Calls Tryd.prog 7 #[.pointer (some ⟨g4, 0, none⟩), .pointer (some ⟨g3, 0, none⟩), .pointer (some ⟨g5, 0, none⟩), .pointer (some ⟨g7, 0, none⟩)] w fun e w' => e = .panicked (pan (.iface 33 (.pointer (some ⟨w.heap.size, 0, none⟩)))) ∧ w' = w.alloc (.cells #[.int .i64 c, .int .i64 p, .nilIface] 37) := by
  have x3 := (bCell h3 0).trans rfl
  have x4 := (bCell h4 0).trans rfl
  have x5 := (bCell h5 0).trans rfl
  go_enter Tryd.func7, Tryd.ntmps7
  go_wp2_with (first | (go_at_call 8; refine (check_no _ _ _).mono ?_; rintro e w1 ⟨rfl, rfl⟩) | fail)
  exact ⟨rfl, rfl, rfl⟩
end
end Go.Proofs.YtbcclpbnmhbhpaaDoor.Gd
