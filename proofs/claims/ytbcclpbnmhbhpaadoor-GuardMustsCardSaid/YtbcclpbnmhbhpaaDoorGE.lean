/- The walk of GuardMusts, and its row. -/
import Derived.Test.YtbcclpbnmhbhpaaDoorGD
import Derived.Test.YtbcclpbnmhbhpaaDoorWEqStruct
namespace Go.Proofs.YtbcclpbnmhbhpaaDoor.Gd
open Go.RowKit Go.Extern.Stop Go.Stop Go.Extern Go.Proofs.YtbcclpbnmhbhpaaDoorW.PrintWords Go.Proofs.YtbcclpbnmhbhpaaDoorW.PrintLast Go.Proofs.YtbcclpbnmhbhpaaDoorW.PrintMore Go.Proofs.YtbcclpbnmhbhpaaDoorW.PrintZ
open Go.Proofs.YtbcclpbnmhbhpaaDoorW.PrintWords
open List renaming setIfInBounds_toArray → xA, set_cons_zero → xB, set_cons_succ → xC
open Bool renaming true → T, false → F
set_option linter.unusedVariables false
set_option linter.unusedSimpArgs false
set_option maxRecDepth 100000
set_option maxHeartbeats 4000000

theorem eqACAU (d : Nat) (w : World) (x0 y0 : Int) (x1 y1 : ByteArray) (x2 y2 : Int) (x3 y3 : Int) :
    (Op.equalIn (d + 2) 24 (.agg #[.int .i64 x0, .string x1, .int .i64 x2, .int .i64 x3]) (.agg #[.int .i64 y0, .string y1, .int .i64 y2, .int .i64 y3])).run Tryd.prog w = .ok (x0 == y0 && (x1.toList == y1.toList && (x2 == y2 && (x3 == y3)))) w := by
  refine eqA_of Tryd.underlying24 (by kernel_rfl) ?_
  refine eqf_cons (by rfl) (by go_simp; rfl) (by go_simp; rfl) (by go_simp) ?_
  refine eqf_cons (by rfl) (by go_simp; rfl) (by go_simp; rfl) (by go_simp) ?_
  refine eqf_cons (by rfl) (by go_simp; rfl) (by go_simp; rfl) (by go_simp) ?_
  exact eqf_last (by rfl) (by go_simp; rfl) (by go_simp; rfl) (by go_simp)
attribute [local go_sem high] eqACAU
theorem awake_calls {w : World} (hg : EType w) : Calls Tryd.prog 9 #[] w fun e w' => e = .returned (.bool true) ∧ Below w.heap.size w w' := by
  have hr := run_err12 (caps := #[]) (R := fun w0 w1 => w1 = w0) (S := fun _ => False) (c := 70) hg (fun _ h => h.elim) (fun w0 hb => ca_no w0) (fun w0 w' h => by subst h; exact Tch.of_below (Below.refl _ _) _)
  go_enter Tryd.func9, Tryd.ntmps9
  go_wp2_with (first | (go_at_call 4; refine hr.mono ?_; rintro e w1 ⟨w0, w2, rfl, h1, h2, h3, h4⟩; have hb := h3.below (fun _ h => h.elim)) | fail)
  go_ret
  exact ⟨rfl, (hb.trans (((Below.refl _ _).alloc (Nat.le_refl _) _).mono hb.size))⟩

section
variable {w : World} {c p : Int}
/-- The four variables of the law. -/
structure Vars (w w' : World) (c : Int) (ok : Bool) (p n : Int) : Prop where
  h3 : w'.heap[w.heap.size]? = some (.cells #[.int .i64 c] 22 (0, 0))
  h4 : w'.heap[w.heap.size + 1]? = some (.cells #[.bool ok] 4 (0, 0))
  h5 : w'.heap[w.heap.size + 1 + 1]? = some (.cells #[.int .i64 p] 3 (0, 0))
  h7 : w'.heap[w.heap.size + 1 + 1 + 1]? = some (.cells #[.int .i64 n] 3 (0, 0))
theorem Vars.bel {w' w2 : World} {ok : Bool} {n : Int} (h : Vars w w' c ok p n) (hb : Below w'.heap.size w' w2) : Vars w w2 c ok p n :=
  ⟨(hb.block _ (bLt h.h3)).trans h.h3, (hb.block _ (bLt h.h4)).trans h.h4, (hb.block _ (bLt h.h5)).trans h.h5, (hb.block _ (bLt h.h7)).trans h.h7⟩
theorem vars_new (w : World) (c : Int) (ok : Bool) (p n : Int) : Vars w ((((w.alloc (.cells #[.int .i64 c] 22)).alloc (.cells #[.bool ok] 4)).alloc (.cells #[.int .i64 p] 3)).alloc (.cells #[.int .i64 n] 3)) c ok p n := by
  have s1 := bSz w (.cells #[.int .i64 c] 22)
  have s2 := bSz (w.alloc (.cells #[.int .i64 c] 22)) (.cells #[.bool ok] 4)
  have s3 := bSz ((w.alloc (.cells #[.int .i64 c] 22)).alloc (.cells #[.bool ok] 4)) (.cells #[.int .i64 p] 3)
  have h3 := bNew w (.cells #[.int .i64 c] 22)
  have h4 := bNew (w.alloc (.cells #[.int .i64 c] 22)) (.cells #[.bool ok] 4)
  have h5 := bNew ((w.alloc (.cells #[.int .i64 c] 22)).alloc (.cells #[.bool ok] 4)) (.cells #[.int .i64 p] 3)
  have h7 := bNew (((w.alloc (.cells #[.int .i64 c] 22)).alloc (.cells #[.bool ok] 4)).alloc (.cells #[.int .i64 p] 3)) (.cells #[.int .i64 n] 3)
  rw [s1] at h4
  rw [s2, s1] at h5
  rw [s3, s2, s1] at h7
  exact ⟨bOld (bOld (bOld h3 _) _) _, bOld (bOld h4 _) _, bOld h5 _, h7⟩
theorem new_below (w : World) (a b c d : Obj) : Below w.heap.size w ((((w.alloc a).alloc b).alloc c).alloc d) :=
  ((((Below.refl _ _).alloc (Nat.le_refl _) _).alloc (by simp only [bSz]; omega) _).alloc (by simp only [bSz]; omega) _).alloc (by simp only [bSz]; omega) _
def rC (c : Int) : Value := if c = 0 then .agg #[.int .i64 0, .string ⟨#[]⟩, .int .i64 0, .int .i64 0] else .agg #[.int .i64 1, .string ⟨#[]⟩, .int .i64 c, .int .i64 0]
/-- What the first call ends with. -/
theorem first_run {w wa : World} {ok : Bool} (hg : EType wa) (hw : w.heap.size ≠ 0) (V : Vars w wa c ok p 0) : Calls Tryd.prog 4 #[.func (Fn.func 5) #[] #[.pointer (some ⟨w.heap.size, 0, none⟩), .pointer (some ⟨w.heap.size + 1 + 1 + 1, 0, none⟩)]] wa fun e w' => e = .returned (rC c) ∧ Vars w w' c ok p (if c = 0 then 1 else 0) ∧ Tch wa w' (fun k => k = w.heap.size + 1 + 1 + 1) := by
  unfold rC
  by_cases hc : c = 0
  · subst hc
    rw [if_pos rfl, if_pos rfl]
    refine (run_ret5 (R := fun w0 w1 => ∃ x, w1 = w0.setCell ⟨w.heap.size + 1 + 1 + 1, 0, none⟩ x ∧ w1.heap[w.heap.size + 1 + 1 + 1]? = some (.cells #[.int .i64 1] 3 (0, 0))) (S := fun k => k = w.heap.size + 1 + 1 + 1) (fun k h => h ▸ bLt V.h7) (fun w0 hb => (c1_ok (V.bel hb).h3 (V.bel hb).h7).mono fun e w' ⟨he, hw⟩ => ⟨he, _, hw, hw ▸ (bSet (V.bel hb).h7 0 _).trans (by rw [show wrap64 (0 + 1) = 1 by unfold wrap64; omega]; rfl)⟩) (fun w0 w' ⟨x, hx, _⟩ => by subst hx; exact ⟨rfl, rfl, rfl, Nat.le_of_eq (bSsz _ _ _).symm, fun k _ hn => bFar _ _ hn⟩)).mono fun e w' ⟨w0, w1, he, ⟨x, hx, h7⟩, hb, ht, hq⟩ => ⟨he, ⟨?_, ?_, ?_, (hq _ (bLt V.h7)).trans h7⟩, ht⟩
    · exact (ht.block _ (bLt V.h3) (by omega)).trans V.h3
    · exact (ht.block _ (bLt V.h4) (by omega)).trans V.h4
    · exact (ht.block _ (bLt V.h5) (by omega)).trans V.h5
  · rw [if_neg hc, if_neg hc]
    refine (run_err5 (R := fun w0 w1 => w1 = w0) (S := fun _ => False) hg (fun _ h => h.elim) (fun w0 hb => c1_no hc (V.bel hb).h3) (fun w0 w' h => by subst h; exact Tch.of_below (Below.refl _ _) _)).mono fun e w' ⟨w0, w1, he, _, _, ht, _⟩ => ⟨he, V.bel (ht.below (fun _ h => h.elim)), Tch.of_below (ht.below (fun _ h => h.elim)) _⟩
def rD (c p : Int) (ok : Bool) : Value := if ok = true then .agg #[.int .i64 0, .string ⟨#[]⟩, .int .i64 0, .int .i64 0] else .agg #[.int .i64 2, .string ⟨#[]⟩, .int .i64 c, .int .i64 p]
theorem second_run {w wa : World} {ok : Bool} {n : Int} (hg : EType wa) (hw : w.heap.size ≠ 0) (V : Vars w wa c ok p n) : Calls Tryd.prog 4 #[.func (Fn.func 7) #[] #[.pointer (some ⟨w.heap.size + 1, 0, none⟩), .pointer (some ⟨w.heap.size, 0, none⟩), .pointer (some ⟨w.heap.size + 1 + 1, 0, none⟩), .pointer (some ⟨w.heap.size + 1 + 1 + 1, 0, none⟩)]] wa fun e w' => e = .returned (rD c p ok) ∧ Vars w w' c ok p (if ok = true then wrap64 (n + 2) else n) ∧ Tch wa w' (fun k => k = w.heap.size + 1 + 1 + 1) := by
  unfold rD
  cases ok with
  | true =>
    rw [if_pos rfl, if_pos rfl]
    refine (run_ret7 (R := fun w0 w1 => ∃ x, w1 = w0.setCell ⟨w.heap.size + 1 + 1 + 1, 0, none⟩ x ∧ w1.heap[w.heap.size + 1 + 1 + 1]? = some (.cells #[.int .i64 (wrap64 (n + 2))] 3 (0, 0))) (S := fun k => k = w.heap.size + 1 + 1 + 1) (fun k h => h ▸ bLt V.h7) (fun w0 hb => (c2_ok (V.bel hb).h4 (V.bel hb).h3 (V.bel hb).h5 (V.bel hb).h7).mono fun e w' ⟨he, hw⟩ => ⟨he, _, hw, hw ▸ (bSet (V.bel hb).h7 0 _).trans rfl⟩) (fun w0 w' ⟨x, hx, _⟩ => by subst hx; exact ⟨rfl, rfl, rfl, Nat.le_of_eq (bSsz _ _ _).symm, fun k _ hn => bFar _ _ hn⟩)).mono fun e w' ⟨w0, w1, he, ⟨x, hx, h7⟩, hb, ht, hq⟩ => ⟨he, ⟨?_, ?_, ?_, (hq _ (bLt V.h7)).trans h7⟩, ht⟩
    · exact (ht.block _ (bLt V.h3) (by omega)).trans V.h3
    · exact (ht.block _ (bLt V.h4) (by omega)).trans V.h4
    · exact (ht.block _ (bLt V.h5) (by omega)).trans V.h5
  | false =>
    rw [if_neg (by simp), if_neg (by simp)]
    refine (run_pan7 (R := fun w0 w1 => Below w0.heap.size w0 w1) (S := fun _ => False) hg (fun _ h => h.elim) (fun w0 hb => (c2_no (V.bel hb).h4 (V.bel hb).h3 (V.bel hb).h5).mono fun e w' ⟨he, hw⟩ => ⟨_, he, Nat.le_refl _, hw ▸ bNew w0 _, hw ▸ (Below.refl _ _).alloc (Nat.le_refl _) _⟩) (fun w0 w' h => Tch.of_below h _)).mono fun e w' ⟨w0, w1, he, _, _, ht, _⟩ => ⟨he, V.bel (ht.below (fun _ h => h.elim)), Tch.of_below (ht.below (fun _ h => h.elim)) _⟩
theorem wrap_small (c : Int) (ok : Bool) : (if ok = true then wrap64 ((if c = 0 then 1 else 0) + 2) else (if c = 0 then 1 else 0)) = (if c = 0 then (1 : Int) else 0) + (if ok = true then 2 else 0) := by
  by_cases hc : c = 0 <;> cases ok <;> simp [hc] <;> (unfold wrap64; omega)
theorem law_00 (hc : c ≠ 0) (hg : EType w) : Calls Tryd.prog 3 #[.int .i64 c, .bool false, .int .i64 p] w fun e w' => e = .returned (.bool true) ∧ Below w.heap.size w w' := by
  have hw := hg.lt
  have tc : (c != 0) = true := by simpa using hc
  go_enter Tryd.func3, Tryd.ntmps3
  go_upto_region 2 with fail
  have V := vars_new w c false p 0
  have hb0 := new_below w (.cells #[.int .i64 c] 22) (.cells #[.bool false] 4) (.cells #[.int .i64 p] 3) (.cells #[.int .i64 0] 3)
  generalize (((w.alloc (.cells #[.int .i64 c] 22)).alloc (.cells #[.bool false] 4)).alloc (.cells #[.int .i64 p] 3)).alloc (.cells #[.int .i64 0] 3) = wa at V hb0 ⊢
  have hga := hg.bel hb0
  have r1 := first_run hga (by omega) V
  rw [rC, if_neg hc, if_neg hc] at r1
  have zz : (0 : Int) = 0 := rfl
  go_upto_region 3 with (first | (go_at_call 4; refine r1.mono ?_; rintro e w1 ⟨rfl, V1, ht1⟩) | fail)
  have hg1 : EType w1 := hga.keep (ht1.block 0 hga.lt (by omega))
  have hT1 : Tch w w1 (fun k => w.heap.size ≤ k) := (Tch.of_below hb0 _).trans ht1 (fun k hk => .inr (by omega))
  have K8 := bNew w1 (.cells #[.int .i64 1, .string ⟨#[]⟩, .int .i64 c, .int .i64 0] 24)
  have s8 := bSz w1 (.cells #[.int .i64 1, .string ⟨#[]⟩, .int .i64 c, .int .i64 0] 24)
  have b8 : Below w1.heap.size w1 (w1.alloc (.cells #[.int .i64 1, .string ⟨#[]⟩, .int .i64 c, .int .i64 0] 24)) := (Below.refl _ _).alloc (Nat.le_refl _) _
  clear r1 V hga ht1
  generalize w1.alloc (.cells #[.int .i64 1, .string ⟨#[]⟩, .int .i64 c, .int .i64 0] 24) = wb at K8 s8 b8 ⊢
  have V2 := V1.bel b8
  have hg2 := hg1.bel b8
  have l1 := bLt V1.h7
  have r2 := second_run hg2 (by omega) V2
  rw [rD, if_neg (by simp), if_neg (by simp)] at r2
  go_upto_region 4 with (first | (go_at_call 4; refine r2.mono ?_; rintro e w2 ⟨rfl, V3, ht2⟩) | fail)
  have hg3 : EType w2 := hg2.keep (ht2.block 0 hg2.lt (by omega))
  have hT2 : Tch w w2 (fun k => w.heap.size ≤ k) := (hT1.trans (Tch.of_below b8 (fun _ => False)) (fun k h => h.elim)).trans ht2 (fun k hk => .inr (by omega))
  have K8b := (ht2.block _ (by omega) (by omega)).trans K8
  have K9 := bNew w2 (.cells #[.int .i64 2, .string ⟨#[]⟩, .int .i64 c, .int .i64 p] 24)
  have s9 := bSz w2 (.cells #[.int .i64 2, .string ⟨#[]⟩, .int .i64 c, .int .i64 p] 24)
  have b9 : Below w2.heap.size w2 (w2.alloc (.cells #[.int .i64 2, .string ⟨#[]⟩, .int .i64 c, .int .i64 p] 24)) := (Below.refl _ _).alloc (Nat.le_refl _) _
  clear r2 V1 V2 K8 b8 ht2 hg1 hg2
  generalize w2.alloc (.cells #[.int .i64 2, .string ⟨#[]⟩, .int .i64 c, .int .i64 p] 24) = wc at K9 s9 b9 ⊢
  have V4 := V3.bel b9
  have hg4 := hg3.bel b9
  have l2 := bLt K8b
  have K8c := (b9.block _ l2).trans K8b
  have hT3 := hT2.trans (Tch.of_below b9 (fun _ => False)) (fun k h => h.elim)
  clear V3 K8b hT2 hg3 b9
  go_upto_region 5 with fail
  clear zz
  have K10 := bNew wc (.cells #[.int .i64 0, .string ⟨#[]⟩, .int .i64 0, .int .i64 0] 24)
  have s10 := bSz wc (.cells #[.int .i64 0, .string ⟨#[]⟩, .int .i64 0, .int .i64 0] 24)
  have K11 := bNew (wc.alloc (.cells #[.int .i64 0, .string ⟨#[]⟩, .int .i64 0, .int .i64 0] 24)) (.cells #[.int .i64 0, .string ⟨#[]⟩, .int .i64 0, .int .i64 0] 24)
  have K10 := bOld K10 (.cells #[.int .i64 0, .string ⟨#[]⟩, .int .i64 0, .int .i64 0] 24)
  rw [s10, s9] at K11
  rw [s9] at K10
  have b11 : Below wc.heap.size wc ((wc.alloc (.cells #[.int .i64 0, .string ⟨#[]⟩, .int .i64 0, .int .i64 0] 24)).alloc (.cells #[.int .i64 0, .string ⟨#[]⟩, .int .i64 0, .int .i64 0] 24)) := ((Below.refl _ _).alloc (Nat.le_refl _) _).alloc (Nat.le_trans (Nat.le_succ _) (Nat.le_of_eq (bSz _ _).symm)) _
  clear s10
  generalize (wc.alloc (.cells #[.int .i64 0, .string ⟨#[]⟩, .int .i64 0, .int .i64 0] 24)).alloc (.cells #[.int .i64 0, .string ⟨#[]⟩, .int .i64 0, .int .i64 0] 24) = wd at K10 K11 b11 ⊢
  have V := V4.bel b11
  have hgd := hg4.bel b11
  have K8 := (b11.block _ (bLt K8c)).trans K8c
  have K9d := (b11.block _ (bLt K9)).trans K9
  have hT := hT3.trans (Tch.of_below b11 (fun _ => False)) (fun k h => h.elim)
  clear V4 K8c K9 hg4 hT3
  have l3 := bLt V.h7
  have l4 := bLt K11
  have hw3 := hT.size
  have lw : w.heap.size + 1 + 1 + 1 < w1.heap.size := l1
  obtain ⟨h3, h4, h5, h7⟩ := V
  have x3_0 := (bCell h3 0).trans rfl
  have x4_0 := (bCell h4 0).trans rfl
  have x5_0 := (bCell h5 0).trans rfl
  have y11_0 := (bCell K11 0).trans rfl
  have y11_1 := (bCell K11 1).trans rfl
  have y11_2 := (bCell K11 2).trans rfl
  have y11_3 := (bCell K11 3).trans rfl
  have f11_0 := bFro K11 0
  have f11_1 := bFro K11 1
  have f11_2 := bFro K11 2
  have f11_3 := bFro K11 3
  have y10_0 := (bCell K10 0).trans rfl
  have y10_1 := (bCell K10 1).trans rfl
  have y10_2 := (bCell K10 2).trans rfl
  have y10_3 := (bCell K10 3).trans rfl
  have f10_0 := bFro K10 0
  have f10_1 := bFro K10 1
  have f10_2 := bFro K10 2
  have f10_3 := bFro K10 3
  go_upto_region 8 with fail
  clear x3_0 x4_0 x5_0 y10_0 f10_0 y10_1 f10_1 y10_2 f10_2 y10_3 f10_3 y11_0 f11_0 y11_1 f11_1 y11_2 f11_2 y11_3 f11_3
  have lq := hgd.lt
  replace h3 := (bFar (w := (((wd.setCell ⟨w2.heap.size + 1 + 1, 0, none⟩ (.int .i64 1)).setCell ⟨w2.heap.size + 1 + 1, 1, none⟩ (.string ⟨#[]⟩)).setCell ⟨w2.heap.size + 1 + 1, 2, none⟩ (.int .i64 c))) 3 (.int .i64 0) (show w.heap.size ≠ w2.heap.size + 1 + 1 by omega)).trans ((bFar (w := ((wd.setCell ⟨w2.heap.size + 1 + 1, 0, none⟩ (.int .i64 1)).setCell ⟨w2.heap.size + 1 + 1, 1, none⟩ (.string ⟨#[]⟩))) 2 (.int .i64 c) (show w.heap.size ≠ w2.heap.size + 1 + 1 by omega)).trans ((bFar (w := (wd.setCell ⟨w2.heap.size + 1 + 1, 0, none⟩ (.int .i64 1))) 1 (.string ⟨#[]⟩) (show w.heap.size ≠ w2.heap.size + 1 + 1 by omega)).trans ((bFar (w := wd) 0 (.int .i64 1) (show w.heap.size ≠ w2.heap.size + 1 + 1 by omega)).trans h3)))
  replace h4 := (bFar (w := (((wd.setCell ⟨w2.heap.size + 1 + 1, 0, none⟩ (.int .i64 1)).setCell ⟨w2.heap.size + 1 + 1, 1, none⟩ (.string ⟨#[]⟩)).setCell ⟨w2.heap.size + 1 + 1, 2, none⟩ (.int .i64 c))) 3 (.int .i64 0) (show w.heap.size + 1 ≠ w2.heap.size + 1 + 1 by omega)).trans ((bFar (w := ((wd.setCell ⟨w2.heap.size + 1 + 1, 0, none⟩ (.int .i64 1)).setCell ⟨w2.heap.size + 1 + 1, 1, none⟩ (.string ⟨#[]⟩))) 2 (.int .i64 c) (show w.heap.size + 1 ≠ w2.heap.size + 1 + 1 by omega)).trans ((bFar (w := (wd.setCell ⟨w2.heap.size + 1 + 1, 0, none⟩ (.int .i64 1))) 1 (.string ⟨#[]⟩) (show w.heap.size + 1 ≠ w2.heap.size + 1 + 1 by omega)).trans ((bFar (w := wd) 0 (.int .i64 1) (show w.heap.size + 1 ≠ w2.heap.size + 1 + 1 by omega)).trans h4)))
  replace h5 := (bFar (w := (((wd.setCell ⟨w2.heap.size + 1 + 1, 0, none⟩ (.int .i64 1)).setCell ⟨w2.heap.size + 1 + 1, 1, none⟩ (.string ⟨#[]⟩)).setCell ⟨w2.heap.size + 1 + 1, 2, none⟩ (.int .i64 c))) 3 (.int .i64 0) (show w.heap.size + 1 + 1 ≠ w2.heap.size + 1 + 1 by omega)).trans ((bFar (w := ((wd.setCell ⟨w2.heap.size + 1 + 1, 0, none⟩ (.int .i64 1)).setCell ⟨w2.heap.size + 1 + 1, 1, none⟩ (.string ⟨#[]⟩))) 2 (.int .i64 c) (show w.heap.size + 1 + 1 ≠ w2.heap.size + 1 + 1 by omega)).trans ((bFar (w := (wd.setCell ⟨w2.heap.size + 1 + 1, 0, none⟩ (.int .i64 1))) 1 (.string ⟨#[]⟩) (show w.heap.size + 1 + 1 ≠ w2.heap.size + 1 + 1 by omega)).trans ((bFar (w := wd) 0 (.int .i64 1) (show w.heap.size + 1 + 1 ≠ w2.heap.size + 1 + 1 by omega)).trans h5)))
  replace h7 := (bFar (w := (((wd.setCell ⟨w2.heap.size + 1 + 1, 0, none⟩ (.int .i64 1)).setCell ⟨w2.heap.size + 1 + 1, 1, none⟩ (.string ⟨#[]⟩)).setCell ⟨w2.heap.size + 1 + 1, 2, none⟩ (.int .i64 c))) 3 (.int .i64 0) (show w.heap.size + 1 + 1 + 1 ≠ w2.heap.size + 1 + 1 by omega)).trans ((bFar (w := ((wd.setCell ⟨w2.heap.size + 1 + 1, 0, none⟩ (.int .i64 1)).setCell ⟨w2.heap.size + 1 + 1, 1, none⟩ (.string ⟨#[]⟩))) 2 (.int .i64 c) (show w.heap.size + 1 + 1 + 1 ≠ w2.heap.size + 1 + 1 by omega)).trans ((bFar (w := (wd.setCell ⟨w2.heap.size + 1 + 1, 0, none⟩ (.int .i64 1))) 1 (.string ⟨#[]⟩) (show w.heap.size + 1 + 1 + 1 ≠ w2.heap.size + 1 + 1 by omega)).trans ((bFar (w := wd) 0 (.int .i64 1) (show w.heap.size + 1 + 1 + 1 ≠ w2.heap.size + 1 + 1 by omega)).trans h7)))
  replace K8 := (bFar (w := (((wd.setCell ⟨w2.heap.size + 1 + 1, 0, none⟩ (.int .i64 1)).setCell ⟨w2.heap.size + 1 + 1, 1, none⟩ (.string ⟨#[]⟩)).setCell ⟨w2.heap.size + 1 + 1, 2, none⟩ (.int .i64 c))) 3 (.int .i64 0) (show w1.heap.size ≠ w2.heap.size + 1 + 1 by omega)).trans ((bFar (w := ((wd.setCell ⟨w2.heap.size + 1 + 1, 0, none⟩ (.int .i64 1)).setCell ⟨w2.heap.size + 1 + 1, 1, none⟩ (.string ⟨#[]⟩))) 2 (.int .i64 c) (show w1.heap.size ≠ w2.heap.size + 1 + 1 by omega)).trans ((bFar (w := (wd.setCell ⟨w2.heap.size + 1 + 1, 0, none⟩ (.int .i64 1))) 1 (.string ⟨#[]⟩) (show w1.heap.size ≠ w2.heap.size + 1 + 1 by omega)).trans ((bFar (w := wd) 0 (.int .i64 1) (show w1.heap.size ≠ w2.heap.size + 1 + 1 by omega)).trans K8)))
  replace K9d := (bFar (w := (((wd.setCell ⟨w2.heap.size + 1 + 1, 0, none⟩ (.int .i64 1)).setCell ⟨w2.heap.size + 1 + 1, 1, none⟩ (.string ⟨#[]⟩)).setCell ⟨w2.heap.size + 1 + 1, 2, none⟩ (.int .i64 c))) 3 (.int .i64 0) (show w2.heap.size ≠ w2.heap.size + 1 + 1 by omega)).trans ((bFar (w := ((wd.setCell ⟨w2.heap.size + 1 + 1, 0, none⟩ (.int .i64 1)).setCell ⟨w2.heap.size + 1 + 1, 1, none⟩ (.string ⟨#[]⟩))) 2 (.int .i64 c) (show w2.heap.size ≠ w2.heap.size + 1 + 1 by omega)).trans ((bFar (w := (wd.setCell ⟨w2.heap.size + 1 + 1, 0, none⟩ (.int .i64 1))) 1 (.string ⟨#[]⟩) (show w2.heap.size ≠ w2.heap.size + 1 + 1 by omega)).trans ((bFar (w := wd) 0 (.int .i64 1) (show w2.heap.size ≠ w2.heap.size + 1 + 1 by omega)).trans K9d)))
  replace K10 := (bFar (w := (((wd.setCell ⟨w2.heap.size + 1 + 1, 0, none⟩ (.int .i64 1)).setCell ⟨w2.heap.size + 1 + 1, 1, none⟩ (.string ⟨#[]⟩)).setCell ⟨w2.heap.size + 1 + 1, 2, none⟩ (.int .i64 c))) 3 (.int .i64 0) (show w2.heap.size + 1 ≠ w2.heap.size + 1 + 1 by omega)).trans ((bFar (w := ((wd.setCell ⟨w2.heap.size + 1 + 1, 0, none⟩ (.int .i64 1)).setCell ⟨w2.heap.size + 1 + 1, 1, none⟩ (.string ⟨#[]⟩))) 2 (.int .i64 c) (show w2.heap.size + 1 ≠ w2.heap.size + 1 + 1 by omega)).trans ((bFar (w := (wd.setCell ⟨w2.heap.size + 1 + 1, 0, none⟩ (.int .i64 1))) 1 (.string ⟨#[]⟩) (show w2.heap.size + 1 ≠ w2.heap.size + 1 + 1 by omega)).trans ((bFar (w := wd) 0 (.int .i64 1) (show w2.heap.size + 1 ≠ w2.heap.size + 1 + 1 by omega)).trans K10)))
  replace K11 : ((((wd.setCell ⟨w2.heap.size + 1 + 1, 0, none⟩ (.int .i64 1)).setCell ⟨w2.heap.size + 1 + 1, 1, none⟩ (.string ⟨#[]⟩)).setCell ⟨w2.heap.size + 1 + 1, 2, none⟩ (.int .i64 c)).setCell ⟨w2.heap.size + 1 + 1, 3, none⟩ (.int .i64 0)).heap[w2.heap.size + 1 + 1]? = some (.cells #[.int .i64 1, .string ⟨#[]⟩, .int .i64 c, .int .i64 0] 24 (0, 0)) := (bSet (bSet (bSet (bSet K11 0 (.int .i64 1)) 1 (.string ⟨#[]⟩)) 2 (.int .i64 c)) 3 (.int .i64 0)).trans rfl
  have hgd2 : EType ((((wd.setCell ⟨w2.heap.size + 1 + 1, 0, none⟩ (.int .i64 1)).setCell ⟨w2.heap.size + 1 + 1, 1, none⟩ (.string ⟨#[]⟩)).setCell ⟨w2.heap.size + 1 + 1, 2, none⟩ (.int .i64 c)).setCell ⟨w2.heap.size + 1 + 1, 3, none⟩ (.int .i64 0)) := hgd.keep ((bFar (w := (((wd.setCell ⟨w2.heap.size + 1 + 1, 0, none⟩ (.int .i64 1)).setCell ⟨w2.heap.size + 1 + 1, 1, none⟩ (.string ⟨#[]⟩)).setCell ⟨w2.heap.size + 1 + 1, 2, none⟩ (.int .i64 c))) 3 (.int .i64 0) (show 0 ≠ w2.heap.size + 1 + 1 by omega)).trans ((bFar (w := ((wd.setCell ⟨w2.heap.size + 1 + 1, 0, none⟩ (.int .i64 1)).setCell ⟨w2.heap.size + 1 + 1, 1, none⟩ (.string ⟨#[]⟩))) 2 (.int .i64 c) (show 0 ≠ w2.heap.size + 1 + 1 by omega)).trans ((bFar (w := (wd.setCell ⟨w2.heap.size + 1 + 1, 0, none⟩ (.int .i64 1))) 1 (.string ⟨#[]⟩) (show 0 ≠ w2.heap.size + 1 + 1 by omega)).trans (bFar (w := wd) 0 (.int .i64 1) (show 0 ≠ w2.heap.size + 1 + 1 by omega)))))
  have hTn : Tch w ((((wd.setCell ⟨w2.heap.size + 1 + 1, 0, none⟩ (.int .i64 1)).setCell ⟨w2.heap.size + 1 + 1, 1, none⟩ (.string ⟨#[]⟩)).setCell ⟨w2.heap.size + 1 + 1, 2, none⟩ (.int .i64 c)).setCell ⟨w2.heap.size + 1 + 1, 3, none⟩ (.int .i64 0)) (fun k => w.heap.size ≤ k) := ⟨hT.os, hT.tape, hT.output, by rw [bSsz, bSsz, bSsz, bSsz]; exact hT.size, fun k hk hn => (bFar (w := (((wd.setCell ⟨w2.heap.size + 1 + 1, 0, none⟩ (.int .i64 1)).setCell ⟨w2.heap.size + 1 + 1, 1, none⟩ (.string ⟨#[]⟩)).setCell ⟨w2.heap.size + 1 + 1, 2, none⟩ (.int .i64 c))) 3 (.int .i64 0) (show k ≠ w2.heap.size + 1 + 1 by omega)).trans ((bFar (w := ((wd.setCell ⟨w2.heap.size + 1 + 1, 0, none⟩ (.int .i64 1)).setCell ⟨w2.heap.size + 1 + 1, 1, none⟩ (.string ⟨#[]⟩))) 2 (.int .i64 c) (show k ≠ w2.heap.size + 1 + 1 by omega)).trans ((bFar (w := (wd.setCell ⟨w2.heap.size + 1 + 1, 0, none⟩ (.int .i64 1))) 1 (.string ⟨#[]⟩) (show k ≠ w2.heap.size + 1 + 1 by omega)).trans ((bFar (w := wd) 0 (.int .i64 1) (show k ≠ w2.heap.size + 1 + 1 by omega)).trans (hT.block k hk hn))))⟩
  clear hgd hT lq
  generalize ((((wd.setCell ⟨w2.heap.size + 1 + 1, 0, none⟩ (.int .i64 1)).setCell ⟨w2.heap.size + 1 + 1, 1, none⟩ (.string ⟨#[]⟩)).setCell ⟨w2.heap.size + 1 + 1, 2, none⟩ (.int .i64 c)).setCell ⟨w2.heap.size + 1 + 1, 3, none⟩ (.int .i64 0)) = we at h3 h4 h5 h7 K8 K9d K10 K11 hgd2 hTn ⊢
  have hgd := hgd2
  have hT := hTn
  clear hgd2 hTn
  have x3_0 := (bCell h3 0).trans rfl
  have x4_0 := (bCell h4 0).trans rfl
  have x5_0 := (bCell h5 0).trans rfl
  have y11_0 := (bCell K11 0).trans rfl
  have y11_1 := (bCell K11 1).trans rfl
  have y11_2 := (bCell K11 2).trans rfl
  have y11_3 := (bCell K11 3).trans rfl
  have f11_0 := bFro K11 0
  have f11_1 := bFro K11 1
  have f11_2 := bFro K11 2
  have f11_3 := bFro K11 3
  have y10_0 := (bCell K10 0).trans rfl
  have y10_1 := (bCell K10 1).trans rfl
  have y10_2 := (bCell K10 2).trans rfl
  have y10_3 := (bCell K10 3).trans rfl
  have f10_0 := bFro K10 0
  have f10_1 := bFro K10 1
  have f10_2 := bFro K10 2
  have f10_3 := bFro K10 3
  go_upto_region 11 with fail
  clear x3_0 x4_0 x5_0 y10_0 f10_0 y10_1 f10_1 y10_2 f10_2 y10_3 f10_3 y11_0 f11_0 y11_1 f11_1 y11_2 f11_2 y11_3 f11_3
  have lq := hgd.lt
  replace h3 := (bFar (w := (((we.setCell ⟨w2.heap.size + 1, 0, none⟩ (.int .i64 2)).setCell ⟨w2.heap.size + 1, 1, none⟩ (.string ⟨#[]⟩)).setCell ⟨w2.heap.size + 1, 2, none⟩ (.int .i64 c))) 3 (.int .i64 p) (show w.heap.size ≠ w2.heap.size + 1 by omega)).trans ((bFar (w := ((we.setCell ⟨w2.heap.size + 1, 0, none⟩ (.int .i64 2)).setCell ⟨w2.heap.size + 1, 1, none⟩ (.string ⟨#[]⟩))) 2 (.int .i64 c) (show w.heap.size ≠ w2.heap.size + 1 by omega)).trans ((bFar (w := (we.setCell ⟨w2.heap.size + 1, 0, none⟩ (.int .i64 2))) 1 (.string ⟨#[]⟩) (show w.heap.size ≠ w2.heap.size + 1 by omega)).trans ((bFar (w := we) 0 (.int .i64 2) (show w.heap.size ≠ w2.heap.size + 1 by omega)).trans h3)))
  replace h4 := (bFar (w := (((we.setCell ⟨w2.heap.size + 1, 0, none⟩ (.int .i64 2)).setCell ⟨w2.heap.size + 1, 1, none⟩ (.string ⟨#[]⟩)).setCell ⟨w2.heap.size + 1, 2, none⟩ (.int .i64 c))) 3 (.int .i64 p) (show w.heap.size + 1 ≠ w2.heap.size + 1 by omega)).trans ((bFar (w := ((we.setCell ⟨w2.heap.size + 1, 0, none⟩ (.int .i64 2)).setCell ⟨w2.heap.size + 1, 1, none⟩ (.string ⟨#[]⟩))) 2 (.int .i64 c) (show w.heap.size + 1 ≠ w2.heap.size + 1 by omega)).trans ((bFar (w := (we.setCell ⟨w2.heap.size + 1, 0, none⟩ (.int .i64 2))) 1 (.string ⟨#[]⟩) (show w.heap.size + 1 ≠ w2.heap.size + 1 by omega)).trans ((bFar (w := we) 0 (.int .i64 2) (show w.heap.size + 1 ≠ w2.heap.size + 1 by omega)).trans h4)))
  replace h5 := (bFar (w := (((we.setCell ⟨w2.heap.size + 1, 0, none⟩ (.int .i64 2)).setCell ⟨w2.heap.size + 1, 1, none⟩ (.string ⟨#[]⟩)).setCell ⟨w2.heap.size + 1, 2, none⟩ (.int .i64 c))) 3 (.int .i64 p) (show w.heap.size + 1 + 1 ≠ w2.heap.size + 1 by omega)).trans ((bFar (w := ((we.setCell ⟨w2.heap.size + 1, 0, none⟩ (.int .i64 2)).setCell ⟨w2.heap.size + 1, 1, none⟩ (.string ⟨#[]⟩))) 2 (.int .i64 c) (show w.heap.size + 1 + 1 ≠ w2.heap.size + 1 by omega)).trans ((bFar (w := (we.setCell ⟨w2.heap.size + 1, 0, none⟩ (.int .i64 2))) 1 (.string ⟨#[]⟩) (show w.heap.size + 1 + 1 ≠ w2.heap.size + 1 by omega)).trans ((bFar (w := we) 0 (.int .i64 2) (show w.heap.size + 1 + 1 ≠ w2.heap.size + 1 by omega)).trans h5)))
  replace h7 := (bFar (w := (((we.setCell ⟨w2.heap.size + 1, 0, none⟩ (.int .i64 2)).setCell ⟨w2.heap.size + 1, 1, none⟩ (.string ⟨#[]⟩)).setCell ⟨w2.heap.size + 1, 2, none⟩ (.int .i64 c))) 3 (.int .i64 p) (show w.heap.size + 1 + 1 + 1 ≠ w2.heap.size + 1 by omega)).trans ((bFar (w := ((we.setCell ⟨w2.heap.size + 1, 0, none⟩ (.int .i64 2)).setCell ⟨w2.heap.size + 1, 1, none⟩ (.string ⟨#[]⟩))) 2 (.int .i64 c) (show w.heap.size + 1 + 1 + 1 ≠ w2.heap.size + 1 by omega)).trans ((bFar (w := (we.setCell ⟨w2.heap.size + 1, 0, none⟩ (.int .i64 2))) 1 (.string ⟨#[]⟩) (show w.heap.size + 1 + 1 + 1 ≠ w2.heap.size + 1 by omega)).trans ((bFar (w := we) 0 (.int .i64 2) (show w.heap.size + 1 + 1 + 1 ≠ w2.heap.size + 1 by omega)).trans h7)))
  replace K8 := (bFar (w := (((we.setCell ⟨w2.heap.size + 1, 0, none⟩ (.int .i64 2)).setCell ⟨w2.heap.size + 1, 1, none⟩ (.string ⟨#[]⟩)).setCell ⟨w2.heap.size + 1, 2, none⟩ (.int .i64 c))) 3 (.int .i64 p) (show w1.heap.size ≠ w2.heap.size + 1 by omega)).trans ((bFar (w := ((we.setCell ⟨w2.heap.size + 1, 0, none⟩ (.int .i64 2)).setCell ⟨w2.heap.size + 1, 1, none⟩ (.string ⟨#[]⟩))) 2 (.int .i64 c) (show w1.heap.size ≠ w2.heap.size + 1 by omega)).trans ((bFar (w := (we.setCell ⟨w2.heap.size + 1, 0, none⟩ (.int .i64 2))) 1 (.string ⟨#[]⟩) (show w1.heap.size ≠ w2.heap.size + 1 by omega)).trans ((bFar (w := we) 0 (.int .i64 2) (show w1.heap.size ≠ w2.heap.size + 1 by omega)).trans K8)))
  replace K9d := (bFar (w := (((we.setCell ⟨w2.heap.size + 1, 0, none⟩ (.int .i64 2)).setCell ⟨w2.heap.size + 1, 1, none⟩ (.string ⟨#[]⟩)).setCell ⟨w2.heap.size + 1, 2, none⟩ (.int .i64 c))) 3 (.int .i64 p) (show w2.heap.size ≠ w2.heap.size + 1 by omega)).trans ((bFar (w := ((we.setCell ⟨w2.heap.size + 1, 0, none⟩ (.int .i64 2)).setCell ⟨w2.heap.size + 1, 1, none⟩ (.string ⟨#[]⟩))) 2 (.int .i64 c) (show w2.heap.size ≠ w2.heap.size + 1 by omega)).trans ((bFar (w := (we.setCell ⟨w2.heap.size + 1, 0, none⟩ (.int .i64 2))) 1 (.string ⟨#[]⟩) (show w2.heap.size ≠ w2.heap.size + 1 by omega)).trans ((bFar (w := we) 0 (.int .i64 2) (show w2.heap.size ≠ w2.heap.size + 1 by omega)).trans K9d)))
  replace K10 : ((((we.setCell ⟨w2.heap.size + 1, 0, none⟩ (.int .i64 2)).setCell ⟨w2.heap.size + 1, 1, none⟩ (.string ⟨#[]⟩)).setCell ⟨w2.heap.size + 1, 2, none⟩ (.int .i64 c)).setCell ⟨w2.heap.size + 1, 3, none⟩ (.int .i64 p)).heap[w2.heap.size + 1]? = some (.cells #[.int .i64 2, .string ⟨#[]⟩, .int .i64 c, .int .i64 p] 24 (0, 0)) := (bSet (bSet (bSet (bSet K10 0 (.int .i64 2)) 1 (.string ⟨#[]⟩)) 2 (.int .i64 c)) 3 (.int .i64 p)).trans rfl
  replace K11 := (bFar (w := (((we.setCell ⟨w2.heap.size + 1, 0, none⟩ (.int .i64 2)).setCell ⟨w2.heap.size + 1, 1, none⟩ (.string ⟨#[]⟩)).setCell ⟨w2.heap.size + 1, 2, none⟩ (.int .i64 c))) 3 (.int .i64 p) (show w2.heap.size + 1 + 1 ≠ w2.heap.size + 1 by omega)).trans ((bFar (w := ((we.setCell ⟨w2.heap.size + 1, 0, none⟩ (.int .i64 2)).setCell ⟨w2.heap.size + 1, 1, none⟩ (.string ⟨#[]⟩))) 2 (.int .i64 c) (show w2.heap.size + 1 + 1 ≠ w2.heap.size + 1 by omega)).trans ((bFar (w := (we.setCell ⟨w2.heap.size + 1, 0, none⟩ (.int .i64 2))) 1 (.string ⟨#[]⟩) (show w2.heap.size + 1 + 1 ≠ w2.heap.size + 1 by omega)).trans ((bFar (w := we) 0 (.int .i64 2) (show w2.heap.size + 1 + 1 ≠ w2.heap.size + 1 by omega)).trans K11)))
  have hgd2 : EType ((((we.setCell ⟨w2.heap.size + 1, 0, none⟩ (.int .i64 2)).setCell ⟨w2.heap.size + 1, 1, none⟩ (.string ⟨#[]⟩)).setCell ⟨w2.heap.size + 1, 2, none⟩ (.int .i64 c)).setCell ⟨w2.heap.size + 1, 3, none⟩ (.int .i64 p)) := hgd.keep ((bFar (w := (((we.setCell ⟨w2.heap.size + 1, 0, none⟩ (.int .i64 2)).setCell ⟨w2.heap.size + 1, 1, none⟩ (.string ⟨#[]⟩)).setCell ⟨w2.heap.size + 1, 2, none⟩ (.int .i64 c))) 3 (.int .i64 p) (show 0 ≠ w2.heap.size + 1 by omega)).trans ((bFar (w := ((we.setCell ⟨w2.heap.size + 1, 0, none⟩ (.int .i64 2)).setCell ⟨w2.heap.size + 1, 1, none⟩ (.string ⟨#[]⟩))) 2 (.int .i64 c) (show 0 ≠ w2.heap.size + 1 by omega)).trans ((bFar (w := (we.setCell ⟨w2.heap.size + 1, 0, none⟩ (.int .i64 2))) 1 (.string ⟨#[]⟩) (show 0 ≠ w2.heap.size + 1 by omega)).trans (bFar (w := we) 0 (.int .i64 2) (show 0 ≠ w2.heap.size + 1 by omega)))))
  have hTn : Tch w ((((we.setCell ⟨w2.heap.size + 1, 0, none⟩ (.int .i64 2)).setCell ⟨w2.heap.size + 1, 1, none⟩ (.string ⟨#[]⟩)).setCell ⟨w2.heap.size + 1, 2, none⟩ (.int .i64 c)).setCell ⟨w2.heap.size + 1, 3, none⟩ (.int .i64 p)) (fun k => w.heap.size ≤ k) := ⟨hT.os, hT.tape, hT.output, by rw [bSsz, bSsz, bSsz, bSsz]; exact hT.size, fun k hk hn => (bFar (w := (((we.setCell ⟨w2.heap.size + 1, 0, none⟩ (.int .i64 2)).setCell ⟨w2.heap.size + 1, 1, none⟩ (.string ⟨#[]⟩)).setCell ⟨w2.heap.size + 1, 2, none⟩ (.int .i64 c))) 3 (.int .i64 p) (show k ≠ w2.heap.size + 1 by omega)).trans ((bFar (w := ((we.setCell ⟨w2.heap.size + 1, 0, none⟩ (.int .i64 2)).setCell ⟨w2.heap.size + 1, 1, none⟩ (.string ⟨#[]⟩))) 2 (.int .i64 c) (show k ≠ w2.heap.size + 1 by omega)).trans ((bFar (w := (we.setCell ⟨w2.heap.size + 1, 0, none⟩ (.int .i64 2))) 1 (.string ⟨#[]⟩) (show k ≠ w2.heap.size + 1 by omega)).trans ((bFar (w := we) 0 (.int .i64 2) (show k ≠ w2.heap.size + 1 by omega)).trans (hT.block k hk hn))))⟩
  clear hgd hT lq
  generalize ((((we.setCell ⟨w2.heap.size + 1, 0, none⟩ (.int .i64 2)).setCell ⟨w2.heap.size + 1, 1, none⟩ (.string ⟨#[]⟩)).setCell ⟨w2.heap.size + 1, 2, none⟩ (.int .i64 c)).setCell ⟨w2.heap.size + 1, 3, none⟩ (.int .i64 p)) = wf at h3 h4 h5 h7 K8 K9d K10 K11 hgd2 hTn ⊢
  have hgd := hgd2
  have hT := hTn
  clear hgd2 hTn
  have u8_0 := (bCell K8 0).trans rfl
  have u8_1 := (bCell K8 1).trans rfl
  have u8_2 := (bCell K8 2).trans rfl
  have u8_3 := (bCell K8 3).trans rfl
  have u9_0 := (bCell K9d 0).trans rfl
  have u9_1 := (bCell K9d 1).trans rfl
  have u9_2 := (bCell K9d 2).trans rfl
  have u9_3 := (bCell K9d 3).trans rfl
  have u10_0 := (bCell K10 0).trans rfl
  have u10_1 := (bCell K10 1).trans rfl
  have u10_2 := (bCell K10 2).trans rfl
  have u10_3 := (bCell K10 3).trans rfl
  have u11_0 := (bCell K11 0).trans rfl
  have u11_1 := (bCell K11 1).trans rfl
  have u11_2 := (bCell K11 2).trans rfl
  have u11_3 := (bCell K11 3).trans rfl
  have x7_0 := (bCell h7 0).trans rfl
  go_wp2_with (first | (go_at_call 9; refine (awake_calls hgd).mono ?_; rintro e wz ⟨rfl, hbz⟩) | fail)
  go_ret
  exact ⟨rfl, (hT.below (fun k hk => hk)).trans (hbz.mono hT.size)⟩
theorem law_01 (hc : c ≠ 0) (hg : EType w) : Calls Tryd.prog 3 #[.int .i64 c, .bool true, .int .i64 p] w fun e w' => e = .returned (.bool true) ∧ Below w.heap.size w w' := by
  have hw := hg.lt
  have tc : (c != 0) = true := by simpa using hc
  go_enter Tryd.func3, Tryd.ntmps3
  go_upto_region 2 with fail
  have V := vars_new w c true p 0
  have hb0 := new_below w (.cells #[.int .i64 c] 22) (.cells #[.bool true] 4) (.cells #[.int .i64 p] 3) (.cells #[.int .i64 0] 3)
  generalize (((w.alloc (.cells #[.int .i64 c] 22)).alloc (.cells #[.bool true] 4)).alloc (.cells #[.int .i64 p] 3)).alloc (.cells #[.int .i64 0] 3) = wa at V hb0 ⊢
  have hga := hg.bel hb0
  have r1 := first_run hga (by omega) V
  rw [rC, if_neg hc, if_neg hc] at r1
  have zz : (0 : Int) = 0 := rfl
  go_upto_region 3 with (first | (go_at_call 4; refine r1.mono ?_; rintro e w1 ⟨rfl, V1, ht1⟩) | fail)
  have hg1 : EType w1 := hga.keep (ht1.block 0 hga.lt (by omega))
  have hT1 : Tch w w1 (fun k => w.heap.size ≤ k) := (Tch.of_below hb0 _).trans ht1 (fun k hk => .inr (by omega))
  have K8 := bNew w1 (.cells #[.int .i64 1, .string ⟨#[]⟩, .int .i64 c, .int .i64 0] 24)
  have s8 := bSz w1 (.cells #[.int .i64 1, .string ⟨#[]⟩, .int .i64 c, .int .i64 0] 24)
  have b8 : Below w1.heap.size w1 (w1.alloc (.cells #[.int .i64 1, .string ⟨#[]⟩, .int .i64 c, .int .i64 0] 24)) := (Below.refl _ _).alloc (Nat.le_refl _) _
  clear r1 V hga ht1
  generalize w1.alloc (.cells #[.int .i64 1, .string ⟨#[]⟩, .int .i64 c, .int .i64 0] 24) = wb at K8 s8 b8 ⊢
  have V2 := V1.bel b8
  have hg2 := hg1.bel b8
  have l1 := bLt V1.h7
  have r2 := second_run hg2 (by omega) V2
  rw [rD, if_pos rfl, if_pos rfl, show wrap64 (0 + 2) = 2 by unfold wrap64; omega] at r2
  go_upto_region 4 with (first | (go_at_call 4; refine r2.mono ?_; rintro e w2 ⟨rfl, V3, ht2⟩) | fail)
  have hg3 : EType w2 := hg2.keep (ht2.block 0 hg2.lt (by omega))
  have hT2 : Tch w w2 (fun k => w.heap.size ≤ k) := (hT1.trans (Tch.of_below b8 (fun _ => False)) (fun k h => h.elim)).trans ht2 (fun k hk => .inr (by omega))
  have K8b := (ht2.block _ (by omega) (by omega)).trans K8
  have K9 := bNew w2 (.cells #[.int .i64 0, .string ⟨#[]⟩, .int .i64 0, .int .i64 0] 24)
  have s9 := bSz w2 (.cells #[.int .i64 0, .string ⟨#[]⟩, .int .i64 0, .int .i64 0] 24)
  have b9 : Below w2.heap.size w2 (w2.alloc (.cells #[.int .i64 0, .string ⟨#[]⟩, .int .i64 0, .int .i64 0] 24)) := (Below.refl _ _).alloc (Nat.le_refl _) _
  clear r2 V1 V2 K8 b8 ht2 hg1 hg2
  generalize w2.alloc (.cells #[.int .i64 0, .string ⟨#[]⟩, .int .i64 0, .int .i64 0] 24) = wc at K9 s9 b9 ⊢
  have V4 := V3.bel b9
  have hg4 := hg3.bel b9
  have l2 := bLt K8b
  have K8c := (b9.block _ l2).trans K8b
  have hT3 := hT2.trans (Tch.of_below b9 (fun _ => False)) (fun k h => h.elim)
  clear V3 K8b hT2 hg3 b9
  go_upto_region 5 with fail
  clear zz
  have K10 := bNew wc (.cells #[.int .i64 0, .string ⟨#[]⟩, .int .i64 0, .int .i64 0] 24)
  have s10 := bSz wc (.cells #[.int .i64 0, .string ⟨#[]⟩, .int .i64 0, .int .i64 0] 24)
  have K11 := bNew (wc.alloc (.cells #[.int .i64 0, .string ⟨#[]⟩, .int .i64 0, .int .i64 0] 24)) (.cells #[.int .i64 0, .string ⟨#[]⟩, .int .i64 0, .int .i64 0] 24)
  have K10 := bOld K10 (.cells #[.int .i64 0, .string ⟨#[]⟩, .int .i64 0, .int .i64 0] 24)
  rw [s10, s9] at K11
  rw [s9] at K10
  have b11 : Below wc.heap.size wc ((wc.alloc (.cells #[.int .i64 0, .string ⟨#[]⟩, .int .i64 0, .int .i64 0] 24)).alloc (.cells #[.int .i64 0, .string ⟨#[]⟩, .int .i64 0, .int .i64 0] 24)) := ((Below.refl _ _).alloc (Nat.le_refl _) _).alloc (Nat.le_trans (Nat.le_succ _) (Nat.le_of_eq (bSz _ _).symm)) _
  clear s10
  generalize (wc.alloc (.cells #[.int .i64 0, .string ⟨#[]⟩, .int .i64 0, .int .i64 0] 24)).alloc (.cells #[.int .i64 0, .string ⟨#[]⟩, .int .i64 0, .int .i64 0] 24) = wd at K10 K11 b11 ⊢
  have V := V4.bel b11
  have hgd := hg4.bel b11
  have K8 := (b11.block _ (bLt K8c)).trans K8c
  have K9d := (b11.block _ (bLt K9)).trans K9
  have hT := hT3.trans (Tch.of_below b11 (fun _ => False)) (fun k h => h.elim)
  clear V4 K8c K9 hg4 hT3
  have l3 := bLt V.h7
  have l4 := bLt K11
  have hw3 := hT.size
  have lw : w.heap.size + 1 + 1 + 1 < w1.heap.size := l1
  obtain ⟨h3, h4, h5, h7⟩ := V
  have x3_0 := (bCell h3 0).trans rfl
  have x4_0 := (bCell h4 0).trans rfl
  have x5_0 := (bCell h5 0).trans rfl
  have y11_0 := (bCell K11 0).trans rfl
  have y11_1 := (bCell K11 1).trans rfl
  have y11_2 := (bCell K11 2).trans rfl
  have y11_3 := (bCell K11 3).trans rfl
  have f11_0 := bFro K11 0
  have f11_1 := bFro K11 1
  have f11_2 := bFro K11 2
  have f11_3 := bFro K11 3
  have y10_0 := (bCell K10 0).trans rfl
  have y10_1 := (bCell K10 1).trans rfl
  have y10_2 := (bCell K10 2).trans rfl
  have y10_3 := (bCell K10 3).trans rfl
  have f10_0 := bFro K10 0
  have f10_1 := bFro K10 1
  have f10_2 := bFro K10 2
  have f10_3 := bFro K10 3
  go_upto_region 8 with fail
  clear x3_0 x4_0 x5_0 y10_0 f10_0 y10_1 f10_1 y10_2 f10_2 y10_3 f10_3 y11_0 f11_0 y11_1 f11_1 y11_2 f11_2 y11_3 f11_3
  have lq := hgd.lt
  replace h3 := (bFar (w := (((wd.setCell ⟨w2.heap.size + 1 + 1, 0, none⟩ (.int .i64 1)).setCell ⟨w2.heap.size + 1 + 1, 1, none⟩ (.string ⟨#[]⟩)).setCell ⟨w2.heap.size + 1 + 1, 2, none⟩ (.int .i64 c))) 3 (.int .i64 0) (show w.heap.size ≠ w2.heap.size + 1 + 1 by omega)).trans ((bFar (w := ((wd.setCell ⟨w2.heap.size + 1 + 1, 0, none⟩ (.int .i64 1)).setCell ⟨w2.heap.size + 1 + 1, 1, none⟩ (.string ⟨#[]⟩))) 2 (.int .i64 c) (show w.heap.size ≠ w2.heap.size + 1 + 1 by omega)).trans ((bFar (w := (wd.setCell ⟨w2.heap.size + 1 + 1, 0, none⟩ (.int .i64 1))) 1 (.string ⟨#[]⟩) (show w.heap.size ≠ w2.heap.size + 1 + 1 by omega)).trans ((bFar (w := wd) 0 (.int .i64 1) (show w.heap.size ≠ w2.heap.size + 1 + 1 by omega)).trans h3)))
  replace h4 := (bFar (w := (((wd.setCell ⟨w2.heap.size + 1 + 1, 0, none⟩ (.int .i64 1)).setCell ⟨w2.heap.size + 1 + 1, 1, none⟩ (.string ⟨#[]⟩)).setCell ⟨w2.heap.size + 1 + 1, 2, none⟩ (.int .i64 c))) 3 (.int .i64 0) (show w.heap.size + 1 ≠ w2.heap.size + 1 + 1 by omega)).trans ((bFar (w := ((wd.setCell ⟨w2.heap.size + 1 + 1, 0, none⟩ (.int .i64 1)).setCell ⟨w2.heap.size + 1 + 1, 1, none⟩ (.string ⟨#[]⟩))) 2 (.int .i64 c) (show w.heap.size + 1 ≠ w2.heap.size + 1 + 1 by omega)).trans ((bFar (w := (wd.setCell ⟨w2.heap.size + 1 + 1, 0, none⟩ (.int .i64 1))) 1 (.string ⟨#[]⟩) (show w.heap.size + 1 ≠ w2.heap.size + 1 + 1 by omega)).trans ((bFar (w := wd) 0 (.int .i64 1) (show w.heap.size + 1 ≠ w2.heap.size + 1 + 1 by omega)).trans h4)))
  replace h5 := (bFar (w := (((wd.setCell ⟨w2.heap.size + 1 + 1, 0, none⟩ (.int .i64 1)).setCell ⟨w2.heap.size + 1 + 1, 1, none⟩ (.string ⟨#[]⟩)).setCell ⟨w2.heap.size + 1 + 1, 2, none⟩ (.int .i64 c))) 3 (.int .i64 0) (show w.heap.size + 1 + 1 ≠ w2.heap.size + 1 + 1 by omega)).trans ((bFar (w := ((wd.setCell ⟨w2.heap.size + 1 + 1, 0, none⟩ (.int .i64 1)).setCell ⟨w2.heap.size + 1 + 1, 1, none⟩ (.string ⟨#[]⟩))) 2 (.int .i64 c) (show w.heap.size + 1 + 1 ≠ w2.heap.size + 1 + 1 by omega)).trans ((bFar (w := (wd.setCell ⟨w2.heap.size + 1 + 1, 0, none⟩ (.int .i64 1))) 1 (.string ⟨#[]⟩) (show w.heap.size + 1 + 1 ≠ w2.heap.size + 1 + 1 by omega)).trans ((bFar (w := wd) 0 (.int .i64 1) (show w.heap.size + 1 + 1 ≠ w2.heap.size + 1 + 1 by omega)).trans h5)))
  replace h7 := (bFar (w := (((wd.setCell ⟨w2.heap.size + 1 + 1, 0, none⟩ (.int .i64 1)).setCell ⟨w2.heap.size + 1 + 1, 1, none⟩ (.string ⟨#[]⟩)).setCell ⟨w2.heap.size + 1 + 1, 2, none⟩ (.int .i64 c))) 3 (.int .i64 0) (show w.heap.size + 1 + 1 + 1 ≠ w2.heap.size + 1 + 1 by omega)).trans ((bFar (w := ((wd.setCell ⟨w2.heap.size + 1 + 1, 0, none⟩ (.int .i64 1)).setCell ⟨w2.heap.size + 1 + 1, 1, none⟩ (.string ⟨#[]⟩))) 2 (.int .i64 c) (show w.heap.size + 1 + 1 + 1 ≠ w2.heap.size + 1 + 1 by omega)).trans ((bFar (w := (wd.setCell ⟨w2.heap.size + 1 + 1, 0, none⟩ (.int .i64 1))) 1 (.string ⟨#[]⟩) (show w.heap.size + 1 + 1 + 1 ≠ w2.heap.size + 1 + 1 by omega)).trans ((bFar (w := wd) 0 (.int .i64 1) (show w.heap.size + 1 + 1 + 1 ≠ w2.heap.size + 1 + 1 by omega)).trans h7)))
  replace K8 := (bFar (w := (((wd.setCell ⟨w2.heap.size + 1 + 1, 0, none⟩ (.int .i64 1)).setCell ⟨w2.heap.size + 1 + 1, 1, none⟩ (.string ⟨#[]⟩)).setCell ⟨w2.heap.size + 1 + 1, 2, none⟩ (.int .i64 c))) 3 (.int .i64 0) (show w1.heap.size ≠ w2.heap.size + 1 + 1 by omega)).trans ((bFar (w := ((wd.setCell ⟨w2.heap.size + 1 + 1, 0, none⟩ (.int .i64 1)).setCell ⟨w2.heap.size + 1 + 1, 1, none⟩ (.string ⟨#[]⟩))) 2 (.int .i64 c) (show w1.heap.size ≠ w2.heap.size + 1 + 1 by omega)).trans ((bFar (w := (wd.setCell ⟨w2.heap.size + 1 + 1, 0, none⟩ (.int .i64 1))) 1 (.string ⟨#[]⟩) (show w1.heap.size ≠ w2.heap.size + 1 + 1 by omega)).trans ((bFar (w := wd) 0 (.int .i64 1) (show w1.heap.size ≠ w2.heap.size + 1 + 1 by omega)).trans K8)))
  replace K9d := (bFar (w := (((wd.setCell ⟨w2.heap.size + 1 + 1, 0, none⟩ (.int .i64 1)).setCell ⟨w2.heap.size + 1 + 1, 1, none⟩ (.string ⟨#[]⟩)).setCell ⟨w2.heap.size + 1 + 1, 2, none⟩ (.int .i64 c))) 3 (.int .i64 0) (show w2.heap.size ≠ w2.heap.size + 1 + 1 by omega)).trans ((bFar (w := ((wd.setCell ⟨w2.heap.size + 1 + 1, 0, none⟩ (.int .i64 1)).setCell ⟨w2.heap.size + 1 + 1, 1, none⟩ (.string ⟨#[]⟩))) 2 (.int .i64 c) (show w2.heap.size ≠ w2.heap.size + 1 + 1 by omega)).trans ((bFar (w := (wd.setCell ⟨w2.heap.size + 1 + 1, 0, none⟩ (.int .i64 1))) 1 (.string ⟨#[]⟩) (show w2.heap.size ≠ w2.heap.size + 1 + 1 by omega)).trans ((bFar (w := wd) 0 (.int .i64 1) (show w2.heap.size ≠ w2.heap.size + 1 + 1 by omega)).trans K9d)))
  replace K10 := (bFar (w := (((wd.setCell ⟨w2.heap.size + 1 + 1, 0, none⟩ (.int .i64 1)).setCell ⟨w2.heap.size + 1 + 1, 1, none⟩ (.string ⟨#[]⟩)).setCell ⟨w2.heap.size + 1 + 1, 2, none⟩ (.int .i64 c))) 3 (.int .i64 0) (show w2.heap.size + 1 ≠ w2.heap.size + 1 + 1 by omega)).trans ((bFar (w := ((wd.setCell ⟨w2.heap.size + 1 + 1, 0, none⟩ (.int .i64 1)).setCell ⟨w2.heap.size + 1 + 1, 1, none⟩ (.string ⟨#[]⟩))) 2 (.int .i64 c) (show w2.heap.size + 1 ≠ w2.heap.size + 1 + 1 by omega)).trans ((bFar (w := (wd.setCell ⟨w2.heap.size + 1 + 1, 0, none⟩ (.int .i64 1))) 1 (.string ⟨#[]⟩) (show w2.heap.size + 1 ≠ w2.heap.size + 1 + 1 by omega)).trans ((bFar (w := wd) 0 (.int .i64 1) (show w2.heap.size + 1 ≠ w2.heap.size + 1 + 1 by omega)).trans K10)))
  replace K11 : ((((wd.setCell ⟨w2.heap.size + 1 + 1, 0, none⟩ (.int .i64 1)).setCell ⟨w2.heap.size + 1 + 1, 1, none⟩ (.string ⟨#[]⟩)).setCell ⟨w2.heap.size + 1 + 1, 2, none⟩ (.int .i64 c)).setCell ⟨w2.heap.size + 1 + 1, 3, none⟩ (.int .i64 0)).heap[w2.heap.size + 1 + 1]? = some (.cells #[.int .i64 1, .string ⟨#[]⟩, .int .i64 c, .int .i64 0] 24 (0, 0)) := (bSet (bSet (bSet (bSet K11 0 (.int .i64 1)) 1 (.string ⟨#[]⟩)) 2 (.int .i64 c)) 3 (.int .i64 0)).trans rfl
  have hgd2 : EType ((((wd.setCell ⟨w2.heap.size + 1 + 1, 0, none⟩ (.int .i64 1)).setCell ⟨w2.heap.size + 1 + 1, 1, none⟩ (.string ⟨#[]⟩)).setCell ⟨w2.heap.size + 1 + 1, 2, none⟩ (.int .i64 c)).setCell ⟨w2.heap.size + 1 + 1, 3, none⟩ (.int .i64 0)) := hgd.keep ((bFar (w := (((wd.setCell ⟨w2.heap.size + 1 + 1, 0, none⟩ (.int .i64 1)).setCell ⟨w2.heap.size + 1 + 1, 1, none⟩ (.string ⟨#[]⟩)).setCell ⟨w2.heap.size + 1 + 1, 2, none⟩ (.int .i64 c))) 3 (.int .i64 0) (show 0 ≠ w2.heap.size + 1 + 1 by omega)).trans ((bFar (w := ((wd.setCell ⟨w2.heap.size + 1 + 1, 0, none⟩ (.int .i64 1)).setCell ⟨w2.heap.size + 1 + 1, 1, none⟩ (.string ⟨#[]⟩))) 2 (.int .i64 c) (show 0 ≠ w2.heap.size + 1 + 1 by omega)).trans ((bFar (w := (wd.setCell ⟨w2.heap.size + 1 + 1, 0, none⟩ (.int .i64 1))) 1 (.string ⟨#[]⟩) (show 0 ≠ w2.heap.size + 1 + 1 by omega)).trans (bFar (w := wd) 0 (.int .i64 1) (show 0 ≠ w2.heap.size + 1 + 1 by omega)))))
  have hTn : Tch w ((((wd.setCell ⟨w2.heap.size + 1 + 1, 0, none⟩ (.int .i64 1)).setCell ⟨w2.heap.size + 1 + 1, 1, none⟩ (.string ⟨#[]⟩)).setCell ⟨w2.heap.size + 1 + 1, 2, none⟩ (.int .i64 c)).setCell ⟨w2.heap.size + 1 + 1, 3, none⟩ (.int .i64 0)) (fun k => w.heap.size ≤ k) := ⟨hT.os, hT.tape, hT.output, by rw [bSsz, bSsz, bSsz, bSsz]; exact hT.size, fun k hk hn => (bFar (w := (((wd.setCell ⟨w2.heap.size + 1 + 1, 0, none⟩ (.int .i64 1)).setCell ⟨w2.heap.size + 1 + 1, 1, none⟩ (.string ⟨#[]⟩)).setCell ⟨w2.heap.size + 1 + 1, 2, none⟩ (.int .i64 c))) 3 (.int .i64 0) (show k ≠ w2.heap.size + 1 + 1 by omega)).trans ((bFar (w := ((wd.setCell ⟨w2.heap.size + 1 + 1, 0, none⟩ (.int .i64 1)).setCell ⟨w2.heap.size + 1 + 1, 1, none⟩ (.string ⟨#[]⟩))) 2 (.int .i64 c) (show k ≠ w2.heap.size + 1 + 1 by omega)).trans ((bFar (w := (wd.setCell ⟨w2.heap.size + 1 + 1, 0, none⟩ (.int .i64 1))) 1 (.string ⟨#[]⟩) (show k ≠ w2.heap.size + 1 + 1 by omega)).trans ((bFar (w := wd) 0 (.int .i64 1) (show k ≠ w2.heap.size + 1 + 1 by omega)).trans (hT.block k hk hn))))⟩
  clear hgd hT lq
  generalize ((((wd.setCell ⟨w2.heap.size + 1 + 1, 0, none⟩ (.int .i64 1)).setCell ⟨w2.heap.size + 1 + 1, 1, none⟩ (.string ⟨#[]⟩)).setCell ⟨w2.heap.size + 1 + 1, 2, none⟩ (.int .i64 c)).setCell ⟨w2.heap.size + 1 + 1, 3, none⟩ (.int .i64 0)) = we at h3 h4 h5 h7 K8 K9d K10 K11 hgd2 hTn ⊢
  have hgd := hgd2
  have hT := hTn
  clear hgd2 hTn
  have x3_0 := (bCell h3 0).trans rfl
  have x4_0 := (bCell h4 0).trans rfl
  have x5_0 := (bCell h5 0).trans rfl
  have y11_0 := (bCell K11 0).trans rfl
  have y11_1 := (bCell K11 1).trans rfl
  have y11_2 := (bCell K11 2).trans rfl
  have y11_3 := (bCell K11 3).trans rfl
  have f11_0 := bFro K11 0
  have f11_1 := bFro K11 1
  have f11_2 := bFro K11 2
  have f11_3 := bFro K11 3
  have y10_0 := (bCell K10 0).trans rfl
  have y10_1 := (bCell K10 1).trans rfl
  have y10_2 := (bCell K10 2).trans rfl
  have y10_3 := (bCell K10 3).trans rfl
  have f10_0 := bFro K10 0
  have f10_1 := bFro K10 1
  have f10_2 := bFro K10 2
  have f10_3 := bFro K10 3
  go_upto_region 11 with fail
  clear x3_0 x4_0 x5_0 y10_0 f10_0 y10_1 f10_1 y10_2 f10_2 y10_3 f10_3 y11_0 f11_0 y11_1 f11_1 y11_2 f11_2 y11_3 f11_3
  have u8_0 := (bCell K8 0).trans rfl
  have u8_1 := (bCell K8 1).trans rfl
  have u8_2 := (bCell K8 2).trans rfl
  have u8_3 := (bCell K8 3).trans rfl
  have u9_0 := (bCell K9d 0).trans rfl
  have u9_1 := (bCell K9d 1).trans rfl
  have u9_2 := (bCell K9d 2).trans rfl
  have u9_3 := (bCell K9d 3).trans rfl
  have u10_0 := (bCell K10 0).trans rfl
  have u10_1 := (bCell K10 1).trans rfl
  have u10_2 := (bCell K10 2).trans rfl
  have u10_3 := (bCell K10 3).trans rfl
  have u11_0 := (bCell K11 0).trans rfl
  have u11_1 := (bCell K11 1).trans rfl
  have u11_2 := (bCell K11 2).trans rfl
  have u11_3 := (bCell K11 3).trans rfl
  have x7_0 := (bCell h7 0).trans rfl
  go_wp2_with (first | (go_at_call 9; refine (awake_calls hgd).mono ?_; rintro e wz ⟨rfl, hbz⟩) | fail)
  go_ret
  exact ⟨rfl, (hT.below (fun k hk => hk)).trans (hbz.mono hT.size)⟩
theorem law_10 (hg : EType w) : Calls Tryd.prog 3 #[.int .i64 0, .bool false, .int .i64 p] w fun e w' => e = .returned (.bool true) ∧ Below w.heap.size w w' := by
  have hw := hg.lt
  go_enter Tryd.func3, Tryd.ntmps3
  go_upto_region 2 with fail
  have V := vars_new w 0 false p 0
  have hb0 := new_below w (.cells #[.int .i64 0] 22) (.cells #[.bool false] 4) (.cells #[.int .i64 p] 3) (.cells #[.int .i64 0] 3)
  generalize (((w.alloc (.cells #[.int .i64 0] 22)).alloc (.cells #[.bool false] 4)).alloc (.cells #[.int .i64 p] 3)).alloc (.cells #[.int .i64 0] 3) = wa at V hb0 ⊢
  have hga := hg.bel hb0
  have r1 := first_run hga (by omega) V
  rw [rC, if_pos rfl, if_pos rfl] at r1
  have zz : (0 : Int) = 0 := rfl
  go_upto_region 3 with (first | (go_at_call 4; refine r1.mono ?_; rintro e w1 ⟨rfl, V1, ht1⟩) | fail)
  have hg1 : EType w1 := hga.keep (ht1.block 0 hga.lt (by omega))
  have hT1 : Tch w w1 (fun k => w.heap.size ≤ k) := (Tch.of_below hb0 _).trans ht1 (fun k hk => .inr (by omega))
  have K8 := bNew w1 (.cells #[.int .i64 0, .string ⟨#[]⟩, .int .i64 0, .int .i64 0] 24)
  have s8 := bSz w1 (.cells #[.int .i64 0, .string ⟨#[]⟩, .int .i64 0, .int .i64 0] 24)
  have b8 : Below w1.heap.size w1 (w1.alloc (.cells #[.int .i64 0, .string ⟨#[]⟩, .int .i64 0, .int .i64 0] 24)) := (Below.refl _ _).alloc (Nat.le_refl _) _
  clear r1 V hga ht1
  generalize w1.alloc (.cells #[.int .i64 0, .string ⟨#[]⟩, .int .i64 0, .int .i64 0] 24) = wb at K8 s8 b8 ⊢
  have V2 := V1.bel b8
  have hg2 := hg1.bel b8
  have l1 := bLt V1.h7
  have r2 := second_run hg2 (by omega) V2
  rw [rD, if_neg (by simp), if_neg (by simp)] at r2
  go_upto_region 4 with (first | (go_at_call 4; refine r2.mono ?_; rintro e w2 ⟨rfl, V3, ht2⟩) | fail)
  have hg3 : EType w2 := hg2.keep (ht2.block 0 hg2.lt (by omega))
  have hT2 : Tch w w2 (fun k => w.heap.size ≤ k) := (hT1.trans (Tch.of_below b8 (fun _ => False)) (fun k h => h.elim)).trans ht2 (fun k hk => .inr (by omega))
  have K8b := (ht2.block _ (by omega) (by omega)).trans K8
  have K9 := bNew w2 (.cells #[.int .i64 2, .string ⟨#[]⟩, .int .i64 0, .int .i64 p] 24)
  have s9 := bSz w2 (.cells #[.int .i64 2, .string ⟨#[]⟩, .int .i64 0, .int .i64 p] 24)
  have b9 : Below w2.heap.size w2 (w2.alloc (.cells #[.int .i64 2, .string ⟨#[]⟩, .int .i64 0, .int .i64 p] 24)) := (Below.refl _ _).alloc (Nat.le_refl _) _
  clear r2 V1 V2 K8 b8 ht2 hg1 hg2
  generalize w2.alloc (.cells #[.int .i64 2, .string ⟨#[]⟩, .int .i64 0, .int .i64 p] 24) = wc at K9 s9 b9 ⊢
  have V4 := V3.bel b9
  have hg4 := hg3.bel b9
  have l2 := bLt K8b
  have K8c := (b9.block _ l2).trans K8b
  have hT3 := hT2.trans (Tch.of_below b9 (fun _ => False)) (fun k h => h.elim)
  clear V3 K8b hT2 hg3 b9
  go_upto_region 5 with fail
  clear zz
  have K10 := bNew wc (.cells #[.int .i64 0, .string ⟨#[]⟩, .int .i64 0, .int .i64 0] 24)
  have s10 := bSz wc (.cells #[.int .i64 0, .string ⟨#[]⟩, .int .i64 0, .int .i64 0] 24)
  have K11 := bNew (wc.alloc (.cells #[.int .i64 0, .string ⟨#[]⟩, .int .i64 0, .int .i64 0] 24)) (.cells #[.int .i64 0, .string ⟨#[]⟩, .int .i64 0, .int .i64 0] 24)
  have K10 := bOld K10 (.cells #[.int .i64 0, .string ⟨#[]⟩, .int .i64 0, .int .i64 0] 24)
  rw [s10, s9] at K11
  rw [s9] at K10
  have b11 : Below wc.heap.size wc ((wc.alloc (.cells #[.int .i64 0, .string ⟨#[]⟩, .int .i64 0, .int .i64 0] 24)).alloc (.cells #[.int .i64 0, .string ⟨#[]⟩, .int .i64 0, .int .i64 0] 24)) := ((Below.refl _ _).alloc (Nat.le_refl _) _).alloc (Nat.le_trans (Nat.le_succ _) (Nat.le_of_eq (bSz _ _).symm)) _
  clear s10
  generalize (wc.alloc (.cells #[.int .i64 0, .string ⟨#[]⟩, .int .i64 0, .int .i64 0] 24)).alloc (.cells #[.int .i64 0, .string ⟨#[]⟩, .int .i64 0, .int .i64 0] 24) = wd at K10 K11 b11 ⊢
  have V := V4.bel b11
  have hgd := hg4.bel b11
  have K8 := (b11.block _ (bLt K8c)).trans K8c
  have K9d := (b11.block _ (bLt K9)).trans K9
  have hT := hT3.trans (Tch.of_below b11 (fun _ => False)) (fun k h => h.elim)
  clear V4 K8c K9 hg4 hT3
  have l3 := bLt V.h7
  have l4 := bLt K11
  have hw3 := hT.size
  have lw : w.heap.size + 1 + 1 + 1 < w1.heap.size := l1
  obtain ⟨h3, h4, h5, h7⟩ := V
  have x3_0 := (bCell h3 0).trans rfl
  have x4_0 := (bCell h4 0).trans rfl
  have x5_0 := (bCell h5 0).trans rfl
  have y11_0 := (bCell K11 0).trans rfl
  have y11_1 := (bCell K11 1).trans rfl
  have y11_2 := (bCell K11 2).trans rfl
  have y11_3 := (bCell K11 3).trans rfl
  have f11_0 := bFro K11 0
  have f11_1 := bFro K11 1
  have f11_2 := bFro K11 2
  have f11_3 := bFro K11 3
  have y10_0 := (bCell K10 0).trans rfl
  have y10_1 := (bCell K10 1).trans rfl
  have y10_2 := (bCell K10 2).trans rfl
  have y10_3 := (bCell K10 3).trans rfl
  have f10_0 := bFro K10 0
  have f10_1 := bFro K10 1
  have f10_2 := bFro K10 2
  have f10_3 := bFro K10 3
  go_upto_region 8 with fail
  clear x3_0 x4_0 x5_0 y10_0 f10_0 y10_1 f10_1 y10_2 f10_2 y10_3 f10_3 y11_0 f11_0 y11_1 f11_1 y11_2 f11_2 y11_3 f11_3
  have x3_0 := (bCell h3 0).trans rfl
  have x4_0 := (bCell h4 0).trans rfl
  have x5_0 := (bCell h5 0).trans rfl
  have y11_0 := (bCell K11 0).trans rfl
  have y11_1 := (bCell K11 1).trans rfl
  have y11_2 := (bCell K11 2).trans rfl
  have y11_3 := (bCell K11 3).trans rfl
  have f11_0 := bFro K11 0
  have f11_1 := bFro K11 1
  have f11_2 := bFro K11 2
  have f11_3 := bFro K11 3
  have y10_0 := (bCell K10 0).trans rfl
  have y10_1 := (bCell K10 1).trans rfl
  have y10_2 := (bCell K10 2).trans rfl
  have y10_3 := (bCell K10 3).trans rfl
  have f10_0 := bFro K10 0
  have f10_1 := bFro K10 1
  have f10_2 := bFro K10 2
  have f10_3 := bFro K10 3
  go_upto_region 11 with fail
  clear x3_0 x4_0 x5_0 y10_0 f10_0 y10_1 f10_1 y10_2 f10_2 y10_3 f10_3 y11_0 f11_0 y11_1 f11_1 y11_2 f11_2 y11_3 f11_3
  have lq := hgd.lt
  replace h3 := (bFar (w := (((wd.setCell ⟨w2.heap.size + 1, 0, none⟩ (.int .i64 2)).setCell ⟨w2.heap.size + 1, 1, none⟩ (.string ⟨#[]⟩)).setCell ⟨w2.heap.size + 1, 2, none⟩ (.int .i64 0))) 3 (.int .i64 p) (show w.heap.size ≠ w2.heap.size + 1 by omega)).trans ((bFar (w := ((wd.setCell ⟨w2.heap.size + 1, 0, none⟩ (.int .i64 2)).setCell ⟨w2.heap.size + 1, 1, none⟩ (.string ⟨#[]⟩))) 2 (.int .i64 0) (show w.heap.size ≠ w2.heap.size + 1 by omega)).trans ((bFar (w := (wd.setCell ⟨w2.heap.size + 1, 0, none⟩ (.int .i64 2))) 1 (.string ⟨#[]⟩) (show w.heap.size ≠ w2.heap.size + 1 by omega)).trans ((bFar (w := wd) 0 (.int .i64 2) (show w.heap.size ≠ w2.heap.size + 1 by omega)).trans h3)))
  replace h4 := (bFar (w := (((wd.setCell ⟨w2.heap.size + 1, 0, none⟩ (.int .i64 2)).setCell ⟨w2.heap.size + 1, 1, none⟩ (.string ⟨#[]⟩)).setCell ⟨w2.heap.size + 1, 2, none⟩ (.int .i64 0))) 3 (.int .i64 p) (show w.heap.size + 1 ≠ w2.heap.size + 1 by omega)).trans ((bFar (w := ((wd.setCell ⟨w2.heap.size + 1, 0, none⟩ (.int .i64 2)).setCell ⟨w2.heap.size + 1, 1, none⟩ (.string ⟨#[]⟩))) 2 (.int .i64 0) (show w.heap.size + 1 ≠ w2.heap.size + 1 by omega)).trans ((bFar (w := (wd.setCell ⟨w2.heap.size + 1, 0, none⟩ (.int .i64 2))) 1 (.string ⟨#[]⟩) (show w.heap.size + 1 ≠ w2.heap.size + 1 by omega)).trans ((bFar (w := wd) 0 (.int .i64 2) (show w.heap.size + 1 ≠ w2.heap.size + 1 by omega)).trans h4)))
  replace h5 := (bFar (w := (((wd.setCell ⟨w2.heap.size + 1, 0, none⟩ (.int .i64 2)).setCell ⟨w2.heap.size + 1, 1, none⟩ (.string ⟨#[]⟩)).setCell ⟨w2.heap.size + 1, 2, none⟩ (.int .i64 0))) 3 (.int .i64 p) (show w.heap.size + 1 + 1 ≠ w2.heap.size + 1 by omega)).trans ((bFar (w := ((wd.setCell ⟨w2.heap.size + 1, 0, none⟩ (.int .i64 2)).setCell ⟨w2.heap.size + 1, 1, none⟩ (.string ⟨#[]⟩))) 2 (.int .i64 0) (show w.heap.size + 1 + 1 ≠ w2.heap.size + 1 by omega)).trans ((bFar (w := (wd.setCell ⟨w2.heap.size + 1, 0, none⟩ (.int .i64 2))) 1 (.string ⟨#[]⟩) (show w.heap.size + 1 + 1 ≠ w2.heap.size + 1 by omega)).trans ((bFar (w := wd) 0 (.int .i64 2) (show w.heap.size + 1 + 1 ≠ w2.heap.size + 1 by omega)).trans h5)))
  replace h7 := (bFar (w := (((wd.setCell ⟨w2.heap.size + 1, 0, none⟩ (.int .i64 2)).setCell ⟨w2.heap.size + 1, 1, none⟩ (.string ⟨#[]⟩)).setCell ⟨w2.heap.size + 1, 2, none⟩ (.int .i64 0))) 3 (.int .i64 p) (show w.heap.size + 1 + 1 + 1 ≠ w2.heap.size + 1 by omega)).trans ((bFar (w := ((wd.setCell ⟨w2.heap.size + 1, 0, none⟩ (.int .i64 2)).setCell ⟨w2.heap.size + 1, 1, none⟩ (.string ⟨#[]⟩))) 2 (.int .i64 0) (show w.heap.size + 1 + 1 + 1 ≠ w2.heap.size + 1 by omega)).trans ((bFar (w := (wd.setCell ⟨w2.heap.size + 1, 0, none⟩ (.int .i64 2))) 1 (.string ⟨#[]⟩) (show w.heap.size + 1 + 1 + 1 ≠ w2.heap.size + 1 by omega)).trans ((bFar (w := wd) 0 (.int .i64 2) (show w.heap.size + 1 + 1 + 1 ≠ w2.heap.size + 1 by omega)).trans h7)))
  replace K8 := (bFar (w := (((wd.setCell ⟨w2.heap.size + 1, 0, none⟩ (.int .i64 2)).setCell ⟨w2.heap.size + 1, 1, none⟩ (.string ⟨#[]⟩)).setCell ⟨w2.heap.size + 1, 2, none⟩ (.int .i64 0))) 3 (.int .i64 p) (show w1.heap.size ≠ w2.heap.size + 1 by omega)).trans ((bFar (w := ((wd.setCell ⟨w2.heap.size + 1, 0, none⟩ (.int .i64 2)).setCell ⟨w2.heap.size + 1, 1, none⟩ (.string ⟨#[]⟩))) 2 (.int .i64 0) (show w1.heap.size ≠ w2.heap.size + 1 by omega)).trans ((bFar (w := (wd.setCell ⟨w2.heap.size + 1, 0, none⟩ (.int .i64 2))) 1 (.string ⟨#[]⟩) (show w1.heap.size ≠ w2.heap.size + 1 by omega)).trans ((bFar (w := wd) 0 (.int .i64 2) (show w1.heap.size ≠ w2.heap.size + 1 by omega)).trans K8)))
  replace K9d := (bFar (w := (((wd.setCell ⟨w2.heap.size + 1, 0, none⟩ (.int .i64 2)).setCell ⟨w2.heap.size + 1, 1, none⟩ (.string ⟨#[]⟩)).setCell ⟨w2.heap.size + 1, 2, none⟩ (.int .i64 0))) 3 (.int .i64 p) (show w2.heap.size ≠ w2.heap.size + 1 by omega)).trans ((bFar (w := ((wd.setCell ⟨w2.heap.size + 1, 0, none⟩ (.int .i64 2)).setCell ⟨w2.heap.size + 1, 1, none⟩ (.string ⟨#[]⟩))) 2 (.int .i64 0) (show w2.heap.size ≠ w2.heap.size + 1 by omega)).trans ((bFar (w := (wd.setCell ⟨w2.heap.size + 1, 0, none⟩ (.int .i64 2))) 1 (.string ⟨#[]⟩) (show w2.heap.size ≠ w2.heap.size + 1 by omega)).trans ((bFar (w := wd) 0 (.int .i64 2) (show w2.heap.size ≠ w2.heap.size + 1 by omega)).trans K9d)))
  replace K10 : ((((wd.setCell ⟨w2.heap.size + 1, 0, none⟩ (.int .i64 2)).setCell ⟨w2.heap.size + 1, 1, none⟩ (.string ⟨#[]⟩)).setCell ⟨w2.heap.size + 1, 2, none⟩ (.int .i64 0)).setCell ⟨w2.heap.size + 1, 3, none⟩ (.int .i64 p)).heap[w2.heap.size + 1]? = some (.cells #[.int .i64 2, .string ⟨#[]⟩, .int .i64 0, .int .i64 p] 24 (0, 0)) := (bSet (bSet (bSet (bSet K10 0 (.int .i64 2)) 1 (.string ⟨#[]⟩)) 2 (.int .i64 0)) 3 (.int .i64 p)).trans rfl
  replace K11 := (bFar (w := (((wd.setCell ⟨w2.heap.size + 1, 0, none⟩ (.int .i64 2)).setCell ⟨w2.heap.size + 1, 1, none⟩ (.string ⟨#[]⟩)).setCell ⟨w2.heap.size + 1, 2, none⟩ (.int .i64 0))) 3 (.int .i64 p) (show w2.heap.size + 1 + 1 ≠ w2.heap.size + 1 by omega)).trans ((bFar (w := ((wd.setCell ⟨w2.heap.size + 1, 0, none⟩ (.int .i64 2)).setCell ⟨w2.heap.size + 1, 1, none⟩ (.string ⟨#[]⟩))) 2 (.int .i64 0) (show w2.heap.size + 1 + 1 ≠ w2.heap.size + 1 by omega)).trans ((bFar (w := (wd.setCell ⟨w2.heap.size + 1, 0, none⟩ (.int .i64 2))) 1 (.string ⟨#[]⟩) (show w2.heap.size + 1 + 1 ≠ w2.heap.size + 1 by omega)).trans ((bFar (w := wd) 0 (.int .i64 2) (show w2.heap.size + 1 + 1 ≠ w2.heap.size + 1 by omega)).trans K11)))
  have hgd2 : EType ((((wd.setCell ⟨w2.heap.size + 1, 0, none⟩ (.int .i64 2)).setCell ⟨w2.heap.size + 1, 1, none⟩ (.string ⟨#[]⟩)).setCell ⟨w2.heap.size + 1, 2, none⟩ (.int .i64 0)).setCell ⟨w2.heap.size + 1, 3, none⟩ (.int .i64 p)) := hgd.keep ((bFar (w := (((wd.setCell ⟨w2.heap.size + 1, 0, none⟩ (.int .i64 2)).setCell ⟨w2.heap.size + 1, 1, none⟩ (.string ⟨#[]⟩)).setCell ⟨w2.heap.size + 1, 2, none⟩ (.int .i64 0))) 3 (.int .i64 p) (show 0 ≠ w2.heap.size + 1 by omega)).trans ((bFar (w := ((wd.setCell ⟨w2.heap.size + 1, 0, none⟩ (.int .i64 2)).setCell ⟨w2.heap.size + 1, 1, none⟩ (.string ⟨#[]⟩))) 2 (.int .i64 0) (show 0 ≠ w2.heap.size + 1 by omega)).trans ((bFar (w := (wd.setCell ⟨w2.heap.size + 1, 0, none⟩ (.int .i64 2))) 1 (.string ⟨#[]⟩) (show 0 ≠ w2.heap.size + 1 by omega)).trans (bFar (w := wd) 0 (.int .i64 2) (show 0 ≠ w2.heap.size + 1 by omega)))))
  have hTn : Tch w ((((wd.setCell ⟨w2.heap.size + 1, 0, none⟩ (.int .i64 2)).setCell ⟨w2.heap.size + 1, 1, none⟩ (.string ⟨#[]⟩)).setCell ⟨w2.heap.size + 1, 2, none⟩ (.int .i64 0)).setCell ⟨w2.heap.size + 1, 3, none⟩ (.int .i64 p)) (fun k => w.heap.size ≤ k) := ⟨hT.os, hT.tape, hT.output, by rw [bSsz, bSsz, bSsz, bSsz]; exact hT.size, fun k hk hn => (bFar (w := (((wd.setCell ⟨w2.heap.size + 1, 0, none⟩ (.int .i64 2)).setCell ⟨w2.heap.size + 1, 1, none⟩ (.string ⟨#[]⟩)).setCell ⟨w2.heap.size + 1, 2, none⟩ (.int .i64 0))) 3 (.int .i64 p) (show k ≠ w2.heap.size + 1 by omega)).trans ((bFar (w := ((wd.setCell ⟨w2.heap.size + 1, 0, none⟩ (.int .i64 2)).setCell ⟨w2.heap.size + 1, 1, none⟩ (.string ⟨#[]⟩))) 2 (.int .i64 0) (show k ≠ w2.heap.size + 1 by omega)).trans ((bFar (w := (wd.setCell ⟨w2.heap.size + 1, 0, none⟩ (.int .i64 2))) 1 (.string ⟨#[]⟩) (show k ≠ w2.heap.size + 1 by omega)).trans ((bFar (w := wd) 0 (.int .i64 2) (show k ≠ w2.heap.size + 1 by omega)).trans (hT.block k hk hn))))⟩
  clear hgd hT lq
  generalize ((((wd.setCell ⟨w2.heap.size + 1, 0, none⟩ (.int .i64 2)).setCell ⟨w2.heap.size + 1, 1, none⟩ (.string ⟨#[]⟩)).setCell ⟨w2.heap.size + 1, 2, none⟩ (.int .i64 0)).setCell ⟨w2.heap.size + 1, 3, none⟩ (.int .i64 p)) = wf at h3 h4 h5 h7 K8 K9d K10 K11 hgd2 hTn ⊢
  have hgd := hgd2
  have hT := hTn
  clear hgd2 hTn
  have u8_0 := (bCell K8 0).trans rfl
  have u8_1 := (bCell K8 1).trans rfl
  have u8_2 := (bCell K8 2).trans rfl
  have u8_3 := (bCell K8 3).trans rfl
  have u9_0 := (bCell K9d 0).trans rfl
  have u9_1 := (bCell K9d 1).trans rfl
  have u9_2 := (bCell K9d 2).trans rfl
  have u9_3 := (bCell K9d 3).trans rfl
  have u10_0 := (bCell K10 0).trans rfl
  have u10_1 := (bCell K10 1).trans rfl
  have u10_2 := (bCell K10 2).trans rfl
  have u10_3 := (bCell K10 3).trans rfl
  have u11_0 := (bCell K11 0).trans rfl
  have u11_1 := (bCell K11 1).trans rfl
  have u11_2 := (bCell K11 2).trans rfl
  have u11_3 := (bCell K11 3).trans rfl
  have x7_0 := (bCell h7 0).trans rfl
  go_wp2_with (first | (go_at_call 9; refine (awake_calls hgd).mono ?_; rintro e wz ⟨rfl, hbz⟩) | fail)
  go_ret
  exact ⟨rfl, (hT.below (fun k hk => hk)).trans (hbz.mono hT.size)⟩
theorem law_11 (hg : EType w) : Calls Tryd.prog 3 #[.int .i64 0, .bool true, .int .i64 p] w fun e w' => e = .returned (.bool true) ∧ Below w.heap.size w w' := by
  have hw := hg.lt
  go_enter Tryd.func3, Tryd.ntmps3
  go_upto_region 2 with fail
  have V := vars_new w 0 true p 0
  have hb0 := new_below w (.cells #[.int .i64 0] 22) (.cells #[.bool true] 4) (.cells #[.int .i64 p] 3) (.cells #[.int .i64 0] 3)
  generalize (((w.alloc (.cells #[.int .i64 0] 22)).alloc (.cells #[.bool true] 4)).alloc (.cells #[.int .i64 p] 3)).alloc (.cells #[.int .i64 0] 3) = wa at V hb0 ⊢
  have hga := hg.bel hb0
  have r1 := first_run hga (by omega) V
  rw [rC, if_pos rfl, if_pos rfl] at r1
  have zz : (0 : Int) = 0 := rfl
  go_upto_region 3 with (first | (go_at_call 4; refine r1.mono ?_; rintro e w1 ⟨rfl, V1, ht1⟩) | fail)
  have hg1 : EType w1 := hga.keep (ht1.block 0 hga.lt (by omega))
  have hT1 : Tch w w1 (fun k => w.heap.size ≤ k) := (Tch.of_below hb0 _).trans ht1 (fun k hk => .inr (by omega))
  have K8 := bNew w1 (.cells #[.int .i64 0, .string ⟨#[]⟩, .int .i64 0, .int .i64 0] 24)
  have s8 := bSz w1 (.cells #[.int .i64 0, .string ⟨#[]⟩, .int .i64 0, .int .i64 0] 24)
  have b8 : Below w1.heap.size w1 (w1.alloc (.cells #[.int .i64 0, .string ⟨#[]⟩, .int .i64 0, .int .i64 0] 24)) := (Below.refl _ _).alloc (Nat.le_refl _) _
  clear r1 V hga ht1
  generalize w1.alloc (.cells #[.int .i64 0, .string ⟨#[]⟩, .int .i64 0, .int .i64 0] 24) = wb at K8 s8 b8 ⊢
  have V2 := V1.bel b8
  have hg2 := hg1.bel b8
  have l1 := bLt V1.h7
  have r2 := second_run hg2 (by omega) V2
  rw [rD, if_pos rfl, if_pos rfl, show wrap64 (1 + 2) = 3 by unfold wrap64; omega] at r2
  go_upto_region 4 with (first | (go_at_call 4; refine r2.mono ?_; rintro e w2 ⟨rfl, V3, ht2⟩) | fail)
  have hg3 : EType w2 := hg2.keep (ht2.block 0 hg2.lt (by omega))
  have hT2 : Tch w w2 (fun k => w.heap.size ≤ k) := (hT1.trans (Tch.of_below b8 (fun _ => False)) (fun k h => h.elim)).trans ht2 (fun k hk => .inr (by omega))
  have K8b := (ht2.block _ (by omega) (by omega)).trans K8
  have K9 := bNew w2 (.cells #[.int .i64 0, .string ⟨#[]⟩, .int .i64 0, .int .i64 0] 24)
  have s9 := bSz w2 (.cells #[.int .i64 0, .string ⟨#[]⟩, .int .i64 0, .int .i64 0] 24)
  have b9 : Below w2.heap.size w2 (w2.alloc (.cells #[.int .i64 0, .string ⟨#[]⟩, .int .i64 0, .int .i64 0] 24)) := (Below.refl _ _).alloc (Nat.le_refl _) _
  clear r2 V1 V2 K8 b8 ht2 hg1 hg2
  generalize w2.alloc (.cells #[.int .i64 0, .string ⟨#[]⟩, .int .i64 0, .int .i64 0] 24) = wc at K9 s9 b9 ⊢
  have V4 := V3.bel b9
  have hg4 := hg3.bel b9
  have l2 := bLt K8b
  have K8c := (b9.block _ l2).trans K8b
  have hT3 := hT2.trans (Tch.of_below b9 (fun _ => False)) (fun k h => h.elim)
  clear V3 K8b hT2 hg3 b9
  go_upto_region 5 with fail
  clear zz
  have K10 := bNew wc (.cells #[.int .i64 0, .string ⟨#[]⟩, .int .i64 0, .int .i64 0] 24)
  have s10 := bSz wc (.cells #[.int .i64 0, .string ⟨#[]⟩, .int .i64 0, .int .i64 0] 24)
  have K11 := bNew (wc.alloc (.cells #[.int .i64 0, .string ⟨#[]⟩, .int .i64 0, .int .i64 0] 24)) (.cells #[.int .i64 0, .string ⟨#[]⟩, .int .i64 0, .int .i64 0] 24)
  have K10 := bOld K10 (.cells #[.int .i64 0, .string ⟨#[]⟩, .int .i64 0, .int .i64 0] 24)
  rw [s10, s9] at K11
  rw [s9] at K10
  have b11 : Below wc.heap.size wc ((wc.alloc (.cells #[.int .i64 0, .string ⟨#[]⟩, .int .i64 0, .int .i64 0] 24)).alloc (.cells #[.int .i64 0, .string ⟨#[]⟩, .int .i64 0, .int .i64 0] 24)) := ((Below.refl _ _).alloc (Nat.le_refl _) _).alloc (Nat.le_trans (Nat.le_succ _) (Nat.le_of_eq (bSz _ _).symm)) _
  clear s10
  generalize (wc.alloc (.cells #[.int .i64 0, .string ⟨#[]⟩, .int .i64 0, .int .i64 0] 24)).alloc (.cells #[.int .i64 0, .string ⟨#[]⟩, .int .i64 0, .int .i64 0] 24) = wd at K10 K11 b11 ⊢
  have V := V4.bel b11
  have hgd := hg4.bel b11
  have K8 := (b11.block _ (bLt K8c)).trans K8c
  have K9d := (b11.block _ (bLt K9)).trans K9
  have hT := hT3.trans (Tch.of_below b11 (fun _ => False)) (fun k h => h.elim)
  clear V4 K8c K9 hg4 hT3
  have l3 := bLt V.h7
  have l4 := bLt K11
  have hw3 := hT.size
  have lw : w.heap.size + 1 + 1 + 1 < w1.heap.size := l1
  obtain ⟨h3, h4, h5, h7⟩ := V
  have x3_0 := (bCell h3 0).trans rfl
  have x4_0 := (bCell h4 0).trans rfl
  have x5_0 := (bCell h5 0).trans rfl
  have y11_0 := (bCell K11 0).trans rfl
  have y11_1 := (bCell K11 1).trans rfl
  have y11_2 := (bCell K11 2).trans rfl
  have y11_3 := (bCell K11 3).trans rfl
  have f11_0 := bFro K11 0
  have f11_1 := bFro K11 1
  have f11_2 := bFro K11 2
  have f11_3 := bFro K11 3
  have y10_0 := (bCell K10 0).trans rfl
  have y10_1 := (bCell K10 1).trans rfl
  have y10_2 := (bCell K10 2).trans rfl
  have y10_3 := (bCell K10 3).trans rfl
  have f10_0 := bFro K10 0
  have f10_1 := bFro K10 1
  have f10_2 := bFro K10 2
  have f10_3 := bFro K10 3
  go_upto_region 8 with fail
  clear x3_0 x4_0 x5_0 y10_0 f10_0 y10_1 f10_1 y10_2 f10_2 y10_3 f10_3 y11_0 f11_0 y11_1 f11_1 y11_2 f11_2 y11_3 f11_3
  have x3_0 := (bCell h3 0).trans rfl
  have x4_0 := (bCell h4 0).trans rfl
  have x5_0 := (bCell h5 0).trans rfl
  have y11_0 := (bCell K11 0).trans rfl
  have y11_1 := (bCell K11 1).trans rfl
  have y11_2 := (bCell K11 2).trans rfl
  have y11_3 := (bCell K11 3).trans rfl
  have f11_0 := bFro K11 0
  have f11_1 := bFro K11 1
  have f11_2 := bFro K11 2
  have f11_3 := bFro K11 3
  have y10_0 := (bCell K10 0).trans rfl
  have y10_1 := (bCell K10 1).trans rfl
  have y10_2 := (bCell K10 2).trans rfl
  have y10_3 := (bCell K10 3).trans rfl
  have f10_0 := bFro K10 0
  have f10_1 := bFro K10 1
  have f10_2 := bFro K10 2
  have f10_3 := bFro K10 3
  go_upto_region 11 with fail
  clear x3_0 x4_0 x5_0 y10_0 f10_0 y10_1 f10_1 y10_2 f10_2 y10_3 f10_3 y11_0 f11_0 y11_1 f11_1 y11_2 f11_2 y11_3 f11_3
  have u8_0 := (bCell K8 0).trans rfl
  have u8_1 := (bCell K8 1).trans rfl
  have u8_2 := (bCell K8 2).trans rfl
  have u8_3 := (bCell K8 3).trans rfl
  have u9_0 := (bCell K9d 0).trans rfl
  have u9_1 := (bCell K9d 1).trans rfl
  have u9_2 := (bCell K9d 2).trans rfl
  have u9_3 := (bCell K9d 3).trans rfl
  have u10_0 := (bCell K10 0).trans rfl
  have u10_1 := (bCell K10 1).trans rfl
  have u10_2 := (bCell K10 2).trans rfl
  have u10_3 := (bCell K10 3).trans rfl
  have u11_0 := (bCell K11 0).trans rfl
  have u11_1 := (bCell K11 1).trans rfl
  have u11_2 := (bCell K11 2).trans rfl
  have u11_3 := (bCell K11 3).trans rfl
  have x7_0 := (bCell h7 0).trans rfl
  go_wp2_with (first | (go_at_call 9; refine (awake_calls hgd).mono ?_; rintro e wz ⟨rfl, hbz⟩) | fail)
  go_ret
  exact ⟨rfl, (hT.below (fun k hk => hk)).trans (hbz.mono hT.size)⟩
theorem law_calls (ok : Bool) (hg : EType w) : Calls Tryd.prog 3 #[.int .i64 c, .bool ok, .int .i64 p] w fun e w' => e = .returned (.bool true) ∧ Below w.heap.size w w' := by
  by_cases hc : c = 0
  · subst hc
    cases ok with
    | true => exact law_11 hg
    | false => exact law_10 hg
  · cases ok with
    | true => exact law_01 hc hg
    | false => exact law_00 hc hg
end
end Go.Proofs.YtbcclpbnmhbhpaaDoor.Gd
