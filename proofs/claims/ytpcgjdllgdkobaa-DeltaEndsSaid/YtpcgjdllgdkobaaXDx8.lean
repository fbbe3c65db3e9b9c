/- Go functions of this seat as Lean functions, with proofs that the calls come to them. (Written by xprint.py, a program of this session, over the kit's print.) -/
import Derived.Test.YtpcgjdllgdkobaaXDx0
import Derived.Test.YtpcgjdllgdkobaaXDx3
import Derived.Test.YtpcgjdllgdkobaaXDx7
namespace Go.Proofs.Ytpcgjdllgdkobaa.XD
open Go.RowKit Go.Proofs.YtpcgjdllgdkobaaW.PrintWords Go.Proofs.YtpcgjdllgdkobaaW.PrintLast Go.Proofs.YtpcgjdllgdkobaaW.PrintMore
attribute [local go_sem] max2_int min2_int max_two min_two max_three min_three max_four min_four   -- for this text's walks alone
set_option linter.unusedVariables false
set_option linter.unusedSimpArgs false
open List renaming setIfInBounds_toArray → xA, set_cons_zero → xB, set_cons_succ → xC
open Go.Proofs.YtpcgjdllgdkobaaW.PrintWords renaming blk_drewN → bN, blk_drew → bD, blk_alloc → bA, below_set → bS, blk_frozen → bF, blk_cell → bC, cell_far → cF, blk_far → bZ, blk_below → bB, pw_below_drewN → bwN, below_drew1 → bw1, below_alloc → bwA
open Go.Proofs.YtpcgjdllgdkobaaW.PrintZ
open Bool renaming true → T,false → F

/-! ### delta_ahead: function 48 -/
def delta_ahead.f (a0_0 : Int) (a0_1 : Int) (a0_2 : Nat) (a0_3 : Nat) (a0_4 : Int) (a1_0 : Int) (a1_1 : Int) (a1_2 : Nat) (a1_3 : Nat) (a1_4 : Int) : Option (Bool) := if a0_1 < a1_1 then (some true) else (if a0_1 = a1_1 then (some (decide (a0_0 < a1_0))) else (some false))
set_option maxHeartbeats 8000000 in
set_option maxRecDepth 100000 in
theorem delta_ahead.calls (a0_0 : Int) (a0_1 : Int) (a0_2 : Nat) (a0_3 : Nat) (a0_4 : Int) (a1_0 : Int) (a1_1 : Int) (a1_2 : Nat) (a1_3 : Nat) (a1_4 : Int) (r : Bool) (w : World) (h : delta_ahead.f a0_0 a0_1 a0_2 a0_3 a0_4 a1_0 a1_1 a1_2 a1_3 a1_4 = some r) :
  Calls Try.prog 48 #[.agg #[.int .i64 a0_0,.int .i64 a0_1,.float .f64 a0_2,.float .f64 a0_3,.int .i64 a0_4],.agg #[.int .i64 a1_0,.int .i64 a1_1,.float .f64 a1_2,.float .f64 a1_3,.int .i64 a1_4]] w fun e w' => e = .returned (.bool r) ∧ Below w.heap.size w w':=by
 have hu61:=Try.underlying61
 have HB:=zA (Below.refl w.heap.size w)
 have H : (if a0_1 < a1_1 then (some true) else (if a0_1 = a1_1 then (some (decide (a0_0 < a1_0))) else (some false))) = some r:=h
 clear h
 by_cases c3 : a0_1 < a1_1
 ·rw [if_pos c3] at H
  have c3b0 : decide (a0_1 < a1_1) = true:=decide_eq_true c3
  clear c3
  obtain rfl:=Option.some.inj H
  go_enter Try.func48,Try.ntmps48
  go_wp2_with (first|((with_reducible refine gate_dst (N:=2) rfl ?_);refine zb (N:=2) (cs:=#[.int .i64 a0_0,.int .i64 a0_1,.float .f64 a0_2,.float .f64 a0_3,.int .i64 a0_4]) (t:=61) ?_;intro G143 hg w4 hbox hb;have K143:=zA (hbox);have GW143:=zN HB hg;have GE143:=zN HB hg;replace HB:=zS HB hb;clear hb hbox hg)|((with_reducible refine gate_dst (N:=3) rfl ?_);refine zb (N:=3) (cs:=#[.int .i64 a1_0,.int .i64 a1_1,.float .f64 a1_2,.float .f64 a1_3,.int .i64 a1_4]) (t:=61) ?_;intro G144 hg w5 hbox hb;have K144:=zA (hbox);have GW144:=zN HB hg;have GE144:=zN HB hg;replace HB:=zS HB hb;have NB143_144:=zL K143 hg;have NB144_143:=zG K143 hg;replace K143:=zB K143 hb;clear hb hbox hg;have:=NB143_144.1;have:=NB144_143.1;obtain ⟨hcz7_0,hcz7_1,hcz7_2,hcz7_3,hcz7_4,hfz7_0,hfz7_1,hfz7_2,hfz7_3,hfz7_4⟩:=zc5 K143;obtain ⟨hcz8_0,hcz8_1,hcz8_2,hcz8_3,hcz8_4,hfz8_0,hfz8_1,hfz8_2,hfz8_3,hfz8_4⟩:=zc5 K144))
  go_ret
  exact ⟨zE,zH HB⟩
 ·rw [if_neg c3] at H
  have c3b0 : decide (a0_1 < a1_1) = false:=decide_eq_false c3
  clear c3
  by_cases c9 : a0_1 = a1_1
  ·rw [if_pos c9] at H
   have c9b0 : (a0_1 == a1_1) = true:=beq_iff_eq.mpr c9
   have c9b1 : (a0_1 != a1_1) = false:=bne_eq_false_iff_eq.mpr c9
   clear c9
   obtain rfl:=Option.some.inj H
   go_enter Try.func48,Try.ntmps48
   go_wp2_with (first|((with_reducible refine gate_dst (N:=2) rfl ?_);refine zb (N:=2) (cs:=#[.int .i64 a0_0,.int .i64 a0_1,.float .f64 a0_2,.float .f64 a0_3,.int .i64 a0_4]) (t:=61) ?_;intro G143 hg w10 hbox hb;have K143:=zA (hbox);have GW143:=zN HB hg;have GE143:=zN HB hg;replace HB:=zS HB hb;clear hb hbox hg)|((with_reducible refine gate_dst (N:=3) rfl ?_);refine zb (N:=3) (cs:=#[.int .i64 a1_0,.int .i64 a1_1,.float .f64 a1_2,.float .f64 a1_3,.int .i64 a1_4]) (t:=61) ?_;intro G144 hg w11 hbox hb;have K144:=zA (hbox);have GW144:=zN HB hg;have GE144:=zN HB hg;replace HB:=zS HB hb;have NB143_144:=zL K143 hg;have NB144_143:=zG K143 hg;replace K143:=zB K143 hb;clear hb hbox hg;have:=NB143_144.1;have:=NB144_143.1;obtain ⟨hcz13_0,hcz13_1,hcz13_2,hcz13_3,hcz13_4,hfz13_0,hfz13_1,hfz13_2,hfz13_3,hfz13_4⟩:=zc5 K143;obtain ⟨hcz14_0,hcz14_1,hcz14_2,hcz14_3,hcz14_4,hfz14_0,hfz14_1,hfz14_2,hfz14_3,hfz14_4⟩:=zc5 K144))
   go_ret
   exact ⟨zE,zH HB⟩
  ·rw [if_neg c9] at H
   have c9b0 : (a0_1 == a1_1) = false:=beq_eq_false_iff_ne.mpr c9
   have c9b1 : (a0_1 != a1_1) = true:=bne_iff_ne.mpr c9
   obtain rfl:=Option.some.inj H
   go_enter Try.func48,Try.ntmps48
   go_wp2_with (first|((with_reducible refine gate_dst (N:=2) rfl ?_);refine zb (N:=2) (cs:=#[.int .i64 a0_0,.int .i64 a0_1,.float .f64 a0_2,.float .f64 a0_3,.int .i64 a0_4]) (t:=61) ?_;intro G143 hg w15 hbox hb;have K143:=zA (hbox);have GW143:=zN HB hg;have GE143:=zN HB hg;replace HB:=zS HB hb;clear hb hbox hg)|((with_reducible refine gate_dst (N:=3) rfl ?_);refine zb (N:=3) (cs:=#[.int .i64 a1_0,.int .i64 a1_1,.float .f64 a1_2,.float .f64 a1_3,.int .i64 a1_4]) (t:=61) ?_;intro G144 hg w16 hbox hb;have K144:=zA (hbox);have GW144:=zN HB hg;have GE144:=zN HB hg;replace HB:=zS HB hb;have NB143_144:=zL K143 hg;have NB144_143:=zG K143 hg;replace K143:=zB K143 hb;clear hb hbox hg;have:=NB143_144.1;have:=NB144_143.1;obtain ⟨hcz18_0,hcz18_1,hcz18_2,hcz18_3,hcz18_4,hfz18_0,hfz18_1,hfz18_2,hfz18_3,hfz18_4⟩:=zc5 K143;obtain ⟨hcz19_0,hcz19_1,hcz19_2,hcz19_3,hcz19_4,hfz19_0,hfz19_1,hfz19_2,hfz19_3,hfz19_4⟩:=zc5 K144))
   go_ret
   exact ⟨zE,zH HB⟩

/-! ### delta_told: function 33 -/
def delta_told.l0 : Nat → List (S61) → Int → Option (Bool)
 | 0, _, _ => none
 | k + 1, x0, x3 => if x3 < (x0.length : Int) then (if 0 ≤ x3 then (if x3 ≤ (mn (wrap64 (x3 + 512)) (x0.length : Int)) then (if (mn (wrap64 (x3 + 512)) (x0.length : Int)) ≤ (x0.length : Int) then ((message_Check.f k 2 1 1 1 ((x0.take ((mn (wrap64 (x3 + 512)) (x0.length : Int)) : Int).toNat).drop (x3 : Int).toNat) 0 0 0 0 0 0 0 0 (⟨#[]⟩ : ByteArray) 0 0 (⟨#[]⟩ : ByteArray)).bind fun t149 => (if t149 = 0 then (if x3 > 0 then (if 0 ≤ (wrap64 (x3 - 1)) then (if (wrap64 (x3 - 1)) < (x0.length : Int) then ((delta_ahead.f ((rd_T61 x0 (wrap64 (x3 - 1))).f0) ((rd_T61 x0 (wrap64 (x3 - 1))).f1) ((rd_T61 x0 (wrap64 (x3 - 1))).f2) ((rd_T61 x0 (wrap64 (x3 - 1))).f3) ((rd_T61 x0 (wrap64 (x3 - 1))).f4) ((rd_T61 x0 x3).f0) ((rd_T61 x0 x3).f1) ((rd_T61 x0 x3).f2) ((rd_T61 x0 x3).f3) ((rd_T61 x0 x3).f4)).bind fun t152 => (if t152 = true then (delta_told.l0 k x0 (wrap64 (x3 + 512))) else (some false))) else (none)) else (none)) else (delta_told.l0 k x0 (wrap64 (x3 + 512)))) else (some false))) else (none)) else (none)) else (none)) else (some true)
def delta_told.f (k : Nat) (l0 : List (S61)) : Option (Bool) := delta_told.l0 k l0 0
theorem delta_told.mono_l : ∀ k, (∀ y0 y1, LeO (delta_told.l0 k y0 y1) (delta_told.l0 (k + 1) y0 y1))
 | 0 => fun _ _ r h => by simp [delta_told.l0] at h
 | k + 1 => by
  have ih0:=delta_told.mono_l k
  ·intro y0 y1
   unfold delta_told.l0
   repeat' first
   | (with_reducible exact ih0 _ _)
   | (with_reducible exact message_Check.mono _ _ _ _ _ _ _ _ _ _ _ _ _ _ _ _ _ _)
   | (with_reducible exact LeO.refl _)
   | (with_reducible exact LeO.none _)
   | (with_reducible refine LeO.ite ?_ ?_)
   | (with_reducible refine LeO.bind ?_ (fun _ => ?_))
   | exact ih0 _ _
   | exact message_Check.mono _ _ _ _ _ _ _ _ _ _ _ _ _ _ _ _ _ _
   | exact LeO.none _
   | refine LeO.ite ?_ ?_
   | refine LeO.bind ?_ (fun _ => ?_)
theorem delta_told.mono : ∀ a0 k, LeO (delta_told.f k a0) (delta_told.f (k + 1) a0) := by
 intro a0 k
 have ih0:=delta_told.mono_l k
 unfold delta_told.f
 repeat' first
   | (with_reducible exact ih0 _ _)
   | (with_reducible exact message_Check.mono _ _ _ _ _ _ _ _ _ _ _ _ _ _ _ _ _ _)
   | (with_reducible exact LeO.refl _)
   | (with_reducible exact LeO.none _)
   | (with_reducible refine LeO.ite ?_ ?_)
   | (with_reducible refine LeO.bind ?_ (fun _ => ?_))
   | exact ih0 _ _
   | exact message_Check.mono _ _ _ _ _ _ _ _ _ _ _ _ _ _ _ _ _ _
   | exact LeO.none _
   | refine LeO.ite ?_ ?_
   | refine LeO.bind ?_ (fun _ => ?_)
def delta_told.T7 : Bool × List (List Nat × List Nat) := (true, [([], []), ([0], [0]), ([1], [1]), ([2], [2]), ([2], [2]), ([4, 2], [2, 4]), ([3, 5, 2], [2, 3, 5]), ([6, 2], [2, 6]), ([2], [2]), ([2], [2]), ([8, 9, 2], [2, 8, 9]), ([10, 2], [2, 10]), ([7, 11, 2, 2], [2, 7, 11]), ([12, 2], [2, 12]), ([2, 13], [2, 13])])
def delta_told.B7 : List Nat := [0, 1, 3, 7, 7, 23, 63, 127, 7, 7, 775, 1799, 4095, 8191, 16383]
theorem delta_told.tab7 : rtab .any (opsOf Try.f33 7) = delta_told.T7 := by kernel_rfl
theorem delta_told.bits7 : waitsOk delta_told.T7.2 delta_told.B7 = true := by kernel_rfl
set_option maxHeartbeats 8000000 in
set_option maxRecDepth 100000 in
theorem delta_told.calls (k : Nat) (A0 : Option Addr) (c0 : Nat) (l0 : List (S61)) (r : Bool) (w : World) (hr0 : Kd.C k61 w A0 l0.length l0) (hc0 : l0.length ≤ c0) (h : delta_told.f k l0 = some r) :
  Calls Try.prog 33 #[.slice A0 l0.length c0] w fun e w' => e = .returned (.bool r) ∧ Below w.heap.size w w':=by
 have hu78:=Try.underlying78
 have hu61:=Try.underlying61
 have HR0:=zA hr0
 have HC0:=zA hc0
 clear hr0 hc0
 have HB:=zA (Below.refl w.heap.size w)
 have H : (delta_told.l0 k l0 0) = some r:=h
 clear h
 have H':=zA H
 clear H
 go_enter Try.func33,Try.ntmps33
 go_wp2
 go_loopg [3] k (fun kq v3 w' => ∃ (x3_1 : Int),v3 = .int .i64 x3_1 ∧ Aside0 (delta_told.l0 kq l0 x3_1 = some r) ∧ Aside0 (kq ≤ k) ∧ Aside0 (Below w.heap.size w w'))
 case atStart => exact ⟨(0),ze,H',⟨Nat.le_refl _⟩,⟨zH HB⟩⟩
 case round =>
  clear H'
  obtain ⟨x3_1,rfl,HA,HK1,HB⟩:=hrel
  cases gk with
  | zero => exact absurd HA.out (by simp [delta_told.l0])
  | succ k1 =>
   have H:=HA.out
   clear HA
   simp only [delta_told.l0] at H
   by_cases c2 : x3_1 < (l0.length : Int)
   ·rw [if_pos c2] at H
    have c2b0 : decide (x3_1 < (l0.length : Int)) = true:=decide_eq_true c2
    clear c2
    obtain ⟨ji3,hji3⟩ : ∃ j_ : Int,(mn (wrap64 (x3_1 + 512)) (l0.length : Int)) = j_:=⟨_,rfl⟩
    replace H : (if 0 ≤ x3_1 then (if x3_1 ≤ (ji3) then (if (ji3) ≤ (l0.length : Int) then ((message_Check.f k1 2 1 1 1 ((l0.take ((ji3) : Int).toNat).drop (x3_1 : Int).toNat) 0 0 0 0 0 0 0 0 (⟨#[]⟩ : ByteArray) 0 0 (⟨#[]⟩ : ByteArray)).bind fun t149 => (if t149 = 0 then (if x3_1 > 0 then (if 0 ≤ (wrap64 (x3_1 - 1)) then (if (wrap64 (x3_1 - 1)) < (l0.length : Int) then ((delta_ahead.f ((rd_T61 l0 (wrap64 (x3_1 - 1))).f0) ((rd_T61 l0 (wrap64 (x3_1 - 1))).f1) ((rd_T61 l0 (wrap64 (x3_1 - 1))).f2) ((rd_T61 l0 (wrap64 (x3_1 - 1))).f3) ((rd_T61 l0 (wrap64 (x3_1 - 1))).f4) ((rd_T61 l0 x3_1).f0) ((rd_T61 l0 x3_1).f1) ((rd_T61 l0 x3_1).f2) ((rd_T61 l0 x3_1).f3) ((rd_T61 l0 x3_1).f4)).bind fun t152 => (if t152 = true then (delta_told.l0 k1 l0 (wrap64 (x3_1 + 512))) else (some false))) else (none)) else (none)) else (delta_told.l0 k1 l0 (wrap64 (x3_1 + 512)))) else (some false))) else (none)) else (none)) else (none)) = some r:=by first|(rw [hji3] at H;exact H)|(simp only [hji3] at H ⊢;exact H)
    have hji3_ : (if (l0.length : Int) < (wrap64 (x3_1 + 512)) then (l0.length : Int) else (wrap64 (x3_1 + 512))) = ji3:=hji3
    by_cases c4 : 0 ≤ x3_1
    ·rw [if_pos c4] at H
     have c4b0:=eq_true c4
     have c4b1 : decide (0 ≤ x3_1) = true:=decide_eq_true c4
     clear c4
     by_cases c5 : x3_1 ≤ (ji3)
     ·rw [if_pos c5] at H
      have c5b0:=eq_true c5
      have c5b1 : decide (x3_1 ≤ (ji3)) = true:=decide_eq_true c5
      clear c5
      by_cases c6 : (ji3) ≤ (l0.length : Int)
      ·rw [if_pos c6] at H
       have c6b0:=eq_true c6
       have c6b1 : decide ((ji3) ≤ (l0.length : Int)) = true:=decide_eq_true c6
       clear c6
       obtain ⟨y145,hy145⟩ : ∃ y_ : List (S61),y_ = ((l0.take ((ji3) : Int).toNat).drop (x3_1 : Int).toNat):=⟨_,rfl⟩
       replace H : ((message_Check.f k1 2 1 1 1 y145 0 0 0 0 0 0 0 0 (⟨#[]⟩ : ByteArray) 0 0 (⟨#[]⟩ : ByteArray)).bind fun t149 => (if t149 = 0 then (if x3_1 > 0 then (if 0 ≤ (wrap64 (x3_1 - 1)) then (if (wrap64 (x3_1 - 1)) < (l0.length : Int) then ((delta_ahead.f ((rd_T61 l0 (wrap64 (x3_1 - 1))).f0) ((rd_T61 l0 (wrap64 (x3_1 - 1))).f1) ((rd_T61 l0 (wrap64 (x3_1 - 1))).f2) ((rd_T61 l0 (wrap64 (x3_1 - 1))).f3) ((rd_T61 l0 (wrap64 (x3_1 - 1))).f4) ((rd_T61 l0 x3_1).f0) ((rd_T61 l0 x3_1).f1) ((rd_T61 l0 x3_1).f2) ((rd_T61 l0 x3_1).f3) ((rd_T61 l0 x3_1).f4)).bind fun t152 => (if t152 = true then (delta_told.l0 k1 l0 (wrap64 (x3_1 + 512))) else (some false))) else (none)) else (none)) else (delta_told.l0 k1 l0 (wrap64 (x3_1 + 512)))) else (some false))) = some r:=by first|(rw [hy145];with_reducible exact H)|(have H2_:=(Option.bind_some _ _).symm.trans H;rw [hy145];with_reducible exact H2_)|(have H2_:=(Option.bind_some _ _).symm.trans H;with_reducible exact H2_)|with_reducible exact H|(rw [hy145];exact H)|exact H
       have Ny145:=zA hy145
       clear hy145
       replace H:=Option.bind_eq_some_iff.mp H
       obtain ⟨t149,A70,H⟩:=H
       (try dsimp only at H)
       have A7:=zA A70
       clear A70
       by_cases c8 : t149 = 0
       ·rw [if_pos c8] at H
        have c8b0 : (t149 == 0) = true:=beq_iff_eq.mpr c8
        have c8b1 : (t149 != 0) = false:=bne_eq_false_iff_eq.mpr c8
        clear c8
        by_cases c9 : x3_1 > 0
        ·rw [if_pos c9] at H
         have c9b0 : decide (0 < x3_1) = true:=decide_eq_true c9
         clear c9
         obtain ⟨ji10,hji10⟩ : ∃ j_ : Int,(wrap64 (x3_1 - 1)) = j_:=⟨_,rfl⟩
         replace H : (if 0 ≤ (ji10) then (if (ji10) < (l0.length : Int) then ((delta_ahead.f ((rd_T61 l0 (ji10)).f0) ((rd_T61 l0 (ji10)).f1) ((rd_T61 l0 (ji10)).f2) ((rd_T61 l0 (ji10)).f3) ((rd_T61 l0 (ji10)).f4) ((rd_T61 l0 x3_1).f0) ((rd_T61 l0 x3_1).f1) ((rd_T61 l0 x3_1).f2) ((rd_T61 l0 x3_1).f3) ((rd_T61 l0 x3_1).f4)).bind fun t152 => (if t152 = true then (delta_told.l0 k1 l0 (wrap64 (x3_1 + 512))) else (some false))) else (none)) else (none)) = some r:=by first|(rw [hji10] at H;exact H)|(simp only [hji10] at H ⊢;exact H)
         (try rw [hji10] at A7)
         have hji10w : (IntKind.i64.wrap (x3_1 - 1)) = ji10:=(i64_w _).trans hji10
         by_cases c11 : 0 ≤ (ji10)
         ·rw [if_pos c11] at H
          have c11b0 : decide (0 ≤ (ji10)) = true:=decide_eq_true c11
          clear c11
          by_cases c12 : (ji10) < (l0.length : Int)
          ·rw [if_pos c12] at H
           have c12b0 : decide ((ji10) < (l0.length : Int)) = true:=decide_eq_true c12
           clear c12
           replace H:=Option.bind_eq_some_iff.mp H
           obtain ⟨t152,A130,H⟩:=H
           (try dsimp only at H)
           have A13:=zA A130
           clear A130
           by_cases c14 : t152 = true
           ·subst c14
            rw [if_pos rfl] at H
            have H':=zA H
            clear H
            have q15 : ((ji3) : Int) ≤ ((l0.length : Int) : Int):=zd
            obtain ⟨i015,hi015,_,hsz15,_⟩:=info_parts info61
            have hroom15 : l0.length ≤ c0:=HC0.out
            have hC15 : Kd.C k61 _ A0 l0.length l0:=HR0.out
            have ql15 : (x3_1 : Int) ≤ ((ji3) : Int):=zd
            have q015 : (0 : Int) ≤ (x3_1 : Int):=zd
            have hcut15:=cut_mid (P:=Try.prog) 30 61 .i64 .i64 Try.underlying30 hi015 5 hsz15 A0 l0.length c0 x3_1 (ji3) q015 ql15 q15 hroom15
            have hr15:=Kd.C_mid (lo:=(x3_1 : Int).toNat) (hi:=((ji3) : Int).toNat) (c:=c0) hC15 (by omega) (by omega) hroom15
            obtain ⟨A15,hA15⟩ : ∃ A1,A1 = (if c0 = (x3_1 : Int).toNat then A0 else (A0 : Option Addr).map (·.add ((x3_1 : Int).toNat * 5))):=⟨_,rfl⟩
            obtain ⟨c15,hc15⟩ : ∃ c1,c1 = c0 - (x3_1 : Int).toNat:=⟨_,rfl⟩
            have hy15 : y145.length = ((ji3) : Int).toNat - (x3_1 : Int).toNat:=(by rw [Ny145.out,List.length_drop,List.length_take] <;> omega)
            rw [show ((l0).take ((ji3) : Int).toNat).drop (x3_1 : Int).toNat = y145 from Ny145.out.symm] at hr15
            replace hr15 : Kd.C k61 _ A15 y145.length y145:=(by rw [hA15];exact hr15)
            rw [← hy15,← hA15,← hc15] at hcut15
            have HR148:=zA hr15
            have HC148:=zA (show y145.length ≤ c15 from by rw [hy15,hc15];exact Nat.sub_le_sub_right (Nat.le_trans (by omega) hroom15) _)
            clear hr15 hC15 hroom15 hi015 hsz15 hc15
            have KY15:=zA hy15
            have KA15:=zA hA15
            clear hy15 hA15
            replace q15:=eq_true q15
            try go_wp2_with (first|((with_reducible refine gate_callee (f:=47) rfl ?_);refine zg (some 21) Try.func47 #[.agg #[.int .i64 2,.int .u64 1,.int .u64 1,.int .u64 1,.slice A15 y145.length c15,.int .i64 0,.int .i64 0,.int .i64 0,.int .i64 0,.int .i64 0,.int .i64 0,.int .u64 0,.int .i64 0,.string (⟨#[]⟩ : ByteArray),.int .i64 0,.int .i64 0,.string (⟨#[]⟩ : ByteArray)]] ?_;(with_reducible refine (message_Check.calls k1 2 1 1 1 _ _ y145 0 0 0 0 0 0 0 0 (⟨#[]⟩ : ByteArray) 0 0 (⟨#[]⟩ : ByteArray) t149 _ ?side1 ?side2 A7.out).mono ?_);(case side1 => exact zC (Kd.C_below HR148.out HB.1));(case side2 => exact HC148.out);rintro e w16 ⟨rfl,hb⟩;refine ⟨_,rfl,?_⟩;replace HB:=zS HB hb;(try clear hb)))
            replace HB:=zA (bw1 HB.1)
            have p150 : 0 ≤ ((ji10) : Int):=zd
            have q150 : (ji10) < (l0.length : Int):=zd
            obtain ⟨ad150,e150,hx150_0,hx150_1,hx150_2,hx150_3,hx150_4⟩:=at_T61 HR0.out (ji10) p150 q150
            have hw150_4:=hx150_4
            have hw150_3:=hx150_3
            have hw150_2:=hx150_2
            have hw150_1:=hx150_1
            have hw150_0:=hx150_0
            cases e150
            replace hx150_0:=zh HB hx150_0
            replace hx150_1:=zh HB hx150_1
            replace hx150_2:=zh HB hx150_2
            replace hx150_3:=zh HB hx150_3
            replace hx150_4:=zh HB hx150_4
            replace p150:=eq_true p150
            replace q150:=eq_true q150
            have p151 : 0 ≤ (x3_1 : Int):=zd
            have q151 : x3_1 < (l0.length : Int):=zd
            obtain ⟨ad151,e151,hx151_0,hx151_1,hx151_2,hx151_3,hx151_4⟩:=at_T61 HR0.out x3_1 p151 q151
            have hw151_4:=hx151_4
            have hw151_3:=hx151_3
            have hw151_2:=hx151_2
            have hw151_1:=hx151_1
            have hw151_0:=hx151_0
            obtain rfl : ad150 = ad151:=(by injection e151)
            replace hx151_0:=zh HB hx151_0
            replace hx151_1:=zh HB hx151_1
            replace hx151_2:=zh HB hx151_2
            replace hx151_3:=zh HB hx151_3
            replace hx151_4:=zh HB hx151_4
            replace p151:=eq_true p151
            replace q151:=eq_true q151
            refine start_ (n:=15) (S:=fun w' => w'.cell? (ad150.add (((ji10)).toNat * 5)) = some (.int .i64 ((rd_T61 l0 (ji10)).f0)) ∧ w'.cell? ⟨(ad150.add (((ji10)).toNat * 5)).block,(ad150.add (((ji10)).toNat * 5)).off + 1,none⟩ = some (.int .i64 ((rd_T61 l0 (ji10)).f1)) ∧ w'.cell? ⟨(ad150.add (((ji10)).toNat * 5)).block,(ad150.add (((ji10)).toNat * 5)).off + 2,none⟩ = some (.float .f64 ((rd_T61 l0 (ji10)).f2)) ∧ w'.cell? ⟨(ad150.add (((ji10)).toNat * 5)).block,(ad150.add (((ji10)).toNat * 5)).off + 3,none⟩ = some (.float .f64 ((rd_T61 l0 (ji10)).f3)) ∧ w'.cell? ⟨(ad150.add (((ji10)).toNat * 5)).block,(ad150.add (((ji10)).toNat * 5)).off + 4,none⟩ = some (.int .i64 ((rd_T61 l0 (ji10)).f4)) ∧ w'.cell? (ad150.add ((x3_1).toNat * 5)) = some (.int .i64 ((rd_T61 l0 x3_1).f0)) ∧ w'.cell? ⟨(ad150.add ((x3_1).toNat * 5)).block,(ad150.add ((x3_1).toNat * 5)).off + 1,none⟩ = some (.int .i64 ((rd_T61 l0 x3_1).f1)) ∧ w'.cell? ⟨(ad150.add ((x3_1).toNat * 5)).block,(ad150.add ((x3_1).toNat * 5)).off + 2,none⟩ = some (.float .f64 ((rd_T61 l0 x3_1).f2)) ∧ w'.cell? ⟨(ad150.add ((x3_1).toNat * 5)).block,(ad150.add ((x3_1).toNat * 5)).off + 3,none⟩ = some (.float .f64 ((rd_T61 l0 x3_1).f3)) ∧ w'.cell? ⟨(ad150.add ((x3_1).toNat * 5)).block,(ad150.add ((x3_1).toNat * 5)).off + 4,none⟩ = some (.int .i64 ((rd_T61 l0 x3_1).f4))) (ds:=[]) #[F,F,F,F,F,F,F,F,F,F,F,F,F,F,F] (by kernel_rfl) rfl rfl ⟨(zh HB hw150_0),(zh HB hw150_1),(zh HB hw150_2),(zh HB hw150_3),(zh HB hw150_4),(zh HB hw151_0),(zh HB hw151_1),(zh HB hw151_2),(zh HB hw151_3),(zh HB hw151_4)⟩ (fun hHeld => ?_);refine with_tabW delta_told.tab7 delta_told.bits7 (fun HT_ HW_ => ?_)
            generalize w16.drew = w17 at HB hx150_0 hx150_1 hx150_2 hx150_3 hx150_4 hx151_0 hx151_1 hx151_2 hx151_3 hx151_4 hHeld ⊢
            refine pz 0 23 #[T,F,F,F,F,F,F,F,F,F,F,F,F,F,F] HT_.1 ?_
            refine pz 1 24 #[T,T,F,F,F,F,F,F,F,F,F,F,F,F,F] HT_.1 ?_
            refine pz 2 25 #[T,T,T,F,F,F,F,F,F,F,F,F,F,F,F] HT_.1 ?_
            refine pz 3 26 #[T,T,T,T,F,F,F,F,F,F,F,F,F,F,F] HT_.1 ?_
            refine pz 4 27 #[T,T,T,T,T,F,F,F,F,F,F,F,F,F,F] HT_.1 ?_
            refine pz 5 28 #[T,T,T,T,T,T,F,F,F,F,F,F,F,F,F] HT_.1 ?_
            refine pz 6 29 #[T,T,T,T,T,T,T,F,F,F,F,F,F,F,F] HT_.1 ?_
            refine pz 8 31 #[T,T,T,T,T,T,T,F,T,F,F,F,F,F,F] HT_.1 ?_
            refine pz 9 32 #[T,T,T,T,T,T,T,F,T,T,F,F,F,F,F] HT_.1 ?_
            refine pz 10 33 #[T,T,T,T,T,T,T,F,T,T,T,F,F,F,F] HT_.1 ?_
            refine tz 7 30 #[T,T,T,T,T,T,T,T,T,T,T,F,F,F,F] HT_.1 HW_.1 hHeld ?_
            refine tz 11 34 #[T,T,T,T,T,T,T,T,T,T,T,T,F,F,F] HT_.1 HW_.1 hHeld ?_
            refine one_ (i:=12) (N:=some 35) #[T,T,T,T,T,T,T,T,T,T,T,T,T,F,F] rfl rfl (one_of HT_.out (by kernel_rfl)) (by decide) (fun K hK => ?_)
            refine goes_ Try.func48 (by kernel_rfl) rfl #[.agg #[.int .i64 ((rd_T61 l0 (ji10)).f0),.int .i64 ((rd_T61 l0 (ji10)).f1),.float .f64 ((rd_T61 l0 (ji10)).f2),.float .f64 ((rd_T61 l0 (ji10)).f3),.int .i64 ((rd_T61 l0 (ji10)).f4)],.agg #[.int .i64 ((rd_T61 l0 x3_1).f0),.int .i64 ((rd_T61 l0 x3_1).f1),.float .f64 ((rd_T61 l0 x3_1).f2),.float .f64 ((rd_T61 l0 x3_1).f3),.int .i64 ((rd_T61 l0 x3_1).f4)]] (by rfl) rfl rfl (by (try simp only [List.map_toArray,List.map_cons,List.map_nil]);first|done|(simp only [hji10];rfl)|rfl|(simp only [List.length_drop,List.length_take];rfl)) ?_
            with_reducible refine (delta_ahead.calls ((rd_T61 l0 (ji10)).f0) ((rd_T61 l0 (ji10)).f1) ((rd_T61 l0 (ji10)).f2) ((rd_T61 l0 (ji10)).f3) ((rd_T61 l0 (ji10)).f4) ((rd_T61 l0 x3_1).f0) ((rd_T61 l0 x3_1).f1) ((rd_T61 l0 x3_1).f2) ((rd_T61 l0 x3_1).f3) ((rd_T61 l0 x3_1).f4) true _ A13.out).mono ?_
            rintro e w18 ⟨rfl,hb⟩
            refine ⟨_,rfl,?_⟩
            replace HB:=zS HB hb
            (try clear hb)
            (try clear hb2)
            (try clear hk)
            (try clear hi)
            refine hK.out _ _ ⟨(zh HB hw150_0),(zh HB hw150_1),(zh HB hw150_2),(zh HB hw150_3),(zh HB hw150_4),(zh HB hw151_0),(zh HB hw151_1),(zh HB hw151_2),(zh HB hw151_3),(zh HB hw151_4)⟩ (fun hHeld => ?_)
            clear hK K
            refine nz 35 ?_
            refine pz 13 36 #[T,T,T,T,T,T,T,T,T,T,T,T,T,T,F] HT_.1 ?_
            refine pz 14 37 #[T,T,T,T,T,T,T,T,T,T,T,T,T,T,T] HT_.1 ?_
            refine done_ (done_of HT_.out (by kernel_rfl)) ?_
            try go_wp2
            go_roundg k1
            case measure => have:=HK1.out;omega
            case rel => exact ⟨(wrap64 (x3_1 + 512)),ze,H',⟨by have:=HK1.out;omega⟩,⟨zH HB⟩⟩
           ·replace c14:=Bool.eq_false_iff.mpr c14
            subst c14
            rw [if_neg (show ¬ (false = true) by decide)] at H
            obtain rfl:=Option.some.inj H
            have q19 : ((ji3) : Int) ≤ ((l0.length : Int) : Int):=zd
            obtain ⟨i019,hi019,_,hsz19,_⟩:=info_parts info61
            have hroom19 : l0.length ≤ c0:=HC0.out
            have hC19 : Kd.C k61 _ A0 l0.length l0:=HR0.out
            have ql19 : (x3_1 : Int) ≤ ((ji3) : Int):=zd
            have q019 : (0 : Int) ≤ (x3_1 : Int):=zd
            have hcut19:=cut_mid (P:=Try.prog) 30 61 .i64 .i64 Try.underlying30 hi019 5 hsz19 A0 l0.length c0 x3_1 (ji3) q019 ql19 q19 hroom19
            have hr19:=Kd.C_mid (lo:=(x3_1 : Int).toNat) (hi:=((ji3) : Int).toNat) (c:=c0) hC19 (by omega) (by omega) hroom19
            obtain ⟨A19,hA19⟩ : ∃ A1,A1 = (if c0 = (x3_1 : Int).toNat then A0 else (A0 : Option Addr).map (·.add ((x3_1 : Int).toNat * 5))):=⟨_,rfl⟩
            obtain ⟨c19,hc19⟩ : ∃ c1,c1 = c0 - (x3_1 : Int).toNat:=⟨_,rfl⟩
            have hy19 : y145.length = ((ji3) : Int).toNat - (x3_1 : Int).toNat:=(by rw [Ny145.out,List.length_drop,List.length_take] <;> omega)
            rw [show ((l0).take ((ji3) : Int).toNat).drop (x3_1 : Int).toNat = y145 from Ny145.out.symm] at hr19
            replace hr19 : Kd.C k61 _ A19 y145.length y145:=(by rw [hA19];exact hr19)
            rw [← hy19,← hA19,← hc19] at hcut19
            have HR148:=zA hr19
            have HC148:=zA (show y145.length ≤ c19 from by rw [hy19,hc19];exact Nat.sub_le_sub_right (Nat.le_trans (by omega) hroom19) _)
            clear hr19 hC19 hroom19 hi019 hsz19 hc19
            have KY19:=zA hy19
            have KA19:=zA hA19
            clear hy19 hA19
            replace q19:=eq_true q19
            try go_wp2_with (first|((with_reducible refine gate_callee (f:=47) rfl ?_);refine zg (some 21) Try.func47 #[.agg #[.int .i64 2,.int .u64 1,.int .u64 1,.int .u64 1,.slice A19 y145.length c19,.int .i64 0,.int .i64 0,.int .i64 0,.int .i64 0,.int .i64 0,.int .i64 0,.int .u64 0,.int .i64 0,.string (⟨#[]⟩ : ByteArray),.int .i64 0,.int .i64 0,.string (⟨#[]⟩ : ByteArray)]] ?_;(with_reducible refine (message_Check.calls k1 2 1 1 1 _ _ y145 0 0 0 0 0 0 0 0 (⟨#[]⟩ : ByteArray) 0 0 (⟨#[]⟩ : ByteArray) t149 _ ?side1 ?side2 A7.out).mono ?_);(case side1 => exact zC (Kd.C_below HR148.out HB.1));(case side2 => exact HC148.out);rintro e w20 ⟨rfl,hb⟩;refine ⟨_,rfl,?_⟩;replace HB:=zS HB hb;(try clear hb)))
            replace HB:=zA (bw1 HB.1)
            have p150 : 0 ≤ ((ji10) : Int):=zd
            have q150 : (ji10) < (l0.length : Int):=zd
            obtain ⟨ad150,e150,hx150_0,hx150_1,hx150_2,hx150_3,hx150_4⟩:=at_T61 HR0.out (ji10) p150 q150
            have hw150_4:=hx150_4
            have hw150_3:=hx150_3
            have hw150_2:=hx150_2
            have hw150_1:=hx150_1
            have hw150_0:=hx150_0
            cases e150
            replace hx150_0:=zh HB hx150_0
            replace hx150_1:=zh HB hx150_1
            replace hx150_2:=zh HB hx150_2
            replace hx150_3:=zh HB hx150_3
            replace hx150_4:=zh HB hx150_4
            replace p150:=eq_true p150
            replace q150:=eq_true q150
            have p151 : 0 ≤ (x3_1 : Int):=zd
            have q151 : x3_1 < (l0.length : Int):=zd
            obtain ⟨ad151,e151,hx151_0,hx151_1,hx151_2,hx151_3,hx151_4⟩:=at_T61 HR0.out x3_1 p151 q151
            have hw151_4:=hx151_4
            have hw151_3:=hx151_3
            have hw151_2:=hx151_2
            have hw151_1:=hx151_1
            have hw151_0:=hx151_0
            obtain rfl : ad150 = ad151:=(by injection e151)
            replace hx151_0:=zh HB hx151_0
            replace hx151_1:=zh HB hx151_1
            replace hx151_2:=zh HB hx151_2
            replace hx151_3:=zh HB hx151_3
            replace hx151_4:=zh HB hx151_4
            replace p151:=eq_true p151
            replace q151:=eq_true q151
            refine start_ (n:=15) (S:=fun w' => w'.cell? (ad150.add (((ji10)).toNat * 5)) = some (.int .i64 ((rd_T61 l0 (ji10)).f0)) ∧ w'.cell? ⟨(ad150.add (((ji10)).toNat * 5)).block,(ad150.add (((ji10)).toNat * 5)).off + 1,none⟩ = some (.int .i64 ((rd_T61 l0 (ji10)).f1)) ∧ w'.cell? ⟨(ad150.add (((ji10)).toNat * 5)).block,(ad150.add (((ji10)).toNat * 5)).off + 2,none⟩ = some (.float .f64 ((rd_T61 l0 (ji10)).f2)) ∧ w'.cell? ⟨(ad150.add (((ji10)).toNat * 5)).block,(ad150.add (((ji10)).toNat * 5)).off + 3,none⟩ = some (.float .f64 ((rd_T61 l0 (ji10)).f3)) ∧ w'.cell? ⟨(ad150.add (((ji10)).toNat * 5)).block,(ad150.add (((ji10)).toNat * 5)).off + 4,none⟩ = some (.int .i64 ((rd_T61 l0 (ji10)).f4)) ∧ w'.cell? (ad150.add ((x3_1).toNat * 5)) = some (.int .i64 ((rd_T61 l0 x3_1).f0)) ∧ w'.cell? ⟨(ad150.add ((x3_1).toNat * 5)).block,(ad150.add ((x3_1).toNat * 5)).off + 1,none⟩ = some (.int .i64 ((rd_T61 l0 x3_1).f1)) ∧ w'.cell? ⟨(ad150.add ((x3_1).toNat * 5)).block,(ad150.add ((x3_1).toNat * 5)).off + 2,none⟩ = some (.float .f64 ((rd_T61 l0 x3_1).f2)) ∧ w'.cell? ⟨(ad150.add ((x3_1).toNat * 5)).block,(ad150.add ((x3_1).toNat * 5)).off + 3,none⟩ = some (.float .f64 ((rd_T61 l0 x3_1).f3)) ∧ w'.cell? ⟨(ad150.add ((x3_1).toNat * 5)).block,(ad150.add ((x3_1).toNat * 5)).off + 4,none⟩ = some (.int .i64 ((rd_T61 l0 x3_1).f4))) (ds:=[]) #[F,F,F,F,F,F,F,F,F,F,F,F,F,F,F] (by kernel_rfl) rfl rfl ⟨(zh HB hw150_0),(zh HB hw150_1),(zh HB hw150_2),(zh HB hw150_3),(zh HB hw150_4),(zh HB hw151_0),(zh HB hw151_1),(zh HB hw151_2),(zh HB hw151_3),(zh HB hw151_4)⟩ (fun hHeld => ?_);refine with_tabW delta_told.tab7 delta_told.bits7 (fun HT_ HW_ => ?_)
            generalize w20.drew = w21 at HB hx150_0 hx150_1 hx150_2 hx150_3 hx150_4 hx151_0 hx151_1 hx151_2 hx151_3 hx151_4 hHeld ⊢
            refine pz 0 23 #[T,F,F,F,F,F,F,F,F,F,F,F,F,F,F] HT_.1 ?_
            refine pz 1 24 #[T,T,F,F,F,F,F,F,F,F,F,F,F,F,F] HT_.1 ?_
            refine pz 2 25 #[T,T,T,F,F,F,F,F,F,F,F,F,F,F,F] HT_.1 ?_
            refine pz 3 26 #[T,T,T,T,F,F,F,F,F,F,F,F,F,F,F] HT_.1 ?_
            refine pz 4 27 #[T,T,T,T,T,F,F,F,F,F,F,F,F,F,F] HT_.1 ?_
            refine pz 5 28 #[T,T,T,T,T,T,F,F,F,F,F,F,F,F,F] HT_.1 ?_
            refine pz 6 29 #[T,T,T,T,T,T,T,F,F,F,F,F,F,F,F] HT_.1 ?_
            refine pz 8 31 #[T,T,T,T,T,T,T,F,T,F,F,F,F,F,F] HT_.1 ?_
            refine pz 9 32 #[T,T,T,T,T,T,T,F,T,T,F,F,F,F,F] HT_.1 ?_
            refine pz 10 33 #[T,T,T,T,T,T,T,F,T,T,T,F,F,F,F] HT_.1 ?_
            refine tz 7 30 #[T,T,T,T,T,T,T,T,T,T,T,F,F,F,F] HT_.1 HW_.1 hHeld ?_
            refine tz 11 34 #[T,T,T,T,T,T,T,T,T,T,T,T,F,F,F] HT_.1 HW_.1 hHeld ?_
            refine one_ (i:=12) (N:=some 35) #[T,T,T,T,T,T,T,T,T,T,T,T,T,F,F] rfl rfl (one_of HT_.out (by kernel_rfl)) (by decide) (fun K hK => ?_)
            refine goes_ Try.func48 (by kernel_rfl) rfl #[.agg #[.int .i64 ((rd_T61 l0 (ji10)).f0),.int .i64 ((rd_T61 l0 (ji10)).f1),.float .f64 ((rd_T61 l0 (ji10)).f2),.float .f64 ((rd_T61 l0 (ji10)).f3),.int .i64 ((rd_T61 l0 (ji10)).f4)],.agg #[.int .i64 ((rd_T61 l0 x3_1).f0),.int .i64 ((rd_T61 l0 x3_1).f1),.float .f64 ((rd_T61 l0 x3_1).f2),.float .f64 ((rd_T61 l0 x3_1).f3),.int .i64 ((rd_T61 l0 x3_1).f4)]] (by rfl) rfl rfl (by (try simp only [List.map_toArray,List.map_cons,List.map_nil]);first|done|(simp only [hji10];rfl)|rfl|(simp only [List.length_drop,List.length_take];rfl)) ?_
            with_reducible refine (delta_ahead.calls ((rd_T61 l0 (ji10)).f0) ((rd_T61 l0 (ji10)).f1) ((rd_T61 l0 (ji10)).f2) ((rd_T61 l0 (ji10)).f3) ((rd_T61 l0 (ji10)).f4) ((rd_T61 l0 x3_1).f0) ((rd_T61 l0 x3_1).f1) ((rd_T61 l0 x3_1).f2) ((rd_T61 l0 x3_1).f3) ((rd_T61 l0 x3_1).f4) false _ A13.out).mono ?_
            rintro e w22 ⟨rfl,hb⟩
            refine ⟨_,rfl,?_⟩
            replace HB:=zS HB hb
            (try clear hb)
            (try clear hb2)
            (try clear hk)
            (try clear hi)
            refine hK.out _ _ ⟨(zh HB hw150_0),(zh HB hw150_1),(zh HB hw150_2),(zh HB hw150_3),(zh HB hw150_4),(zh HB hw151_0),(zh HB hw151_1),(zh HB hw151_2),(zh HB hw151_3),(zh HB hw151_4)⟩ (fun hHeld => ?_)
            clear hK K
            refine nz 35 ?_
            refine pz 13 36 #[T,T,T,T,T,T,T,T,T,T,T,T,T,T,F] HT_.1 ?_
            refine pz 14 37 #[T,T,T,T,T,T,T,T,T,T,T,T,T,T,T] HT_.1 ?_
            refine done_ (done_of HT_.out (by kernel_rfl)) ?_
            try go_wp2
            go_ret
            exact ⟨by first|rfl|(simp [errW_none,errW_some] <;> rfl)|(simp only [← hji3,← hji10];first|rfl|(simp [errW_none,errW_some] <;> rfl))|(simp [*,errW_none,errW_some] <;> rfl),zH HB⟩
          ·rw [if_neg c12] at H
           exact absurd H (by simp)
         ·rw [if_neg c11] at H
          exact absurd H (by simp)
        ·rw [if_neg c9] at H
         have c9b0 : decide (0 < x3_1) = false:=decide_eq_false c9
         clear c9
         have H':=zA H
         clear H
         have q23 : ((ji3) : Int) ≤ ((l0.length : Int) : Int):=zd
         obtain ⟨i023,hi023,_,hsz23,_⟩:=info_parts info61
         have hroom23 : l0.length ≤ c0:=HC0.out
         have hC23 : Kd.C k61 _ A0 l0.length l0:=HR0.out
         have ql23 : (x3_1 : Int) ≤ ((ji3) : Int):=zd
         have q023 : (0 : Int) ≤ (x3_1 : Int):=zd
         have hcut23:=cut_mid (P:=Try.prog) 30 61 .i64 .i64 Try.underlying30 hi023 5 hsz23 A0 l0.length c0 x3_1 (ji3) q023 ql23 q23 hroom23
         have hr23:=Kd.C_mid (lo:=(x3_1 : Int).toNat) (hi:=((ji3) : Int).toNat) (c:=c0) hC23 (by omega) (by omega) hroom23
         obtain ⟨A23,hA23⟩ : ∃ A1,A1 = (if c0 = (x3_1 : Int).toNat then A0 else (A0 : Option Addr).map (·.add ((x3_1 : Int).toNat * 5))):=⟨_,rfl⟩
         obtain ⟨c23,hc23⟩ : ∃ c1,c1 = c0 - (x3_1 : Int).toNat:=⟨_,rfl⟩
         have hy23 : y145.length = ((ji3) : Int).toNat - (x3_1 : Int).toNat:=(by rw [Ny145.out,List.length_drop,List.length_take] <;> omega)
         rw [show ((l0).take ((ji3) : Int).toNat).drop (x3_1 : Int).toNat = y145 from Ny145.out.symm] at hr23
         replace hr23 : Kd.C k61 _ A23 y145.length y145:=(by rw [hA23];exact hr23)
         rw [← hy23,← hA23,← hc23] at hcut23
         have HR148:=zA hr23
         have HC148:=zA (show y145.length ≤ c23 from by rw [hy23,hc23];exact Nat.sub_le_sub_right (Nat.le_trans (by omega) hroom23) _)
         clear hr23 hC23 hroom23 hi023 hsz23 hc23
         have KY23:=zA hy23
         have KA23:=zA hA23
         clear hy23 hA23
         replace q23:=eq_true q23
         try go_wp2_with (first|((with_reducible refine gate_callee (f:=47) rfl ?_);refine zg (some 21) Try.func47 #[.agg #[.int .i64 2,.int .u64 1,.int .u64 1,.int .u64 1,.slice A23 y145.length c23,.int .i64 0,.int .i64 0,.int .i64 0,.int .i64 0,.int .i64 0,.int .i64 0,.int .u64 0,.int .i64 0,.string (⟨#[]⟩ : ByteArray),.int .i64 0,.int .i64 0,.string (⟨#[]⟩ : ByteArray)]] ?_;(with_reducible refine (message_Check.calls k1 2 1 1 1 _ _ y145 0 0 0 0 0 0 0 0 (⟨#[]⟩ : ByteArray) 0 0 (⟨#[]⟩ : ByteArray) t149 _ ?side1 ?side2 A7.out).mono ?_);(case side1 => exact zC (Kd.C_below HR148.out HB.1));(case side2 => exact HC148.out);rintro e w24 ⟨rfl,hb⟩;refine ⟨_,rfl,?_⟩;replace HB:=zS HB hb;(try clear hb)))
         replace HB:=zA (bw1 HB.1)
         refine start_ (n:=15) (S:=fun w' => True) (ds:=[]) #[F,F,F,F,F,F,F,F,F,F,F,F,F,F,F] (by kernel_rfl) rfl rfl trivial (fun hHeld => ?_);refine with_tabW delta_told.tab7 delta_told.bits7 (fun HT_ HW_ => ?_)
         generalize w24.drew = w25 at HB hHeld ⊢
         refine pz 0 23 #[T,F,F,F,F,F,F,F,F,F,F,F,F,F,F] HT_.1 ?_
         refine pz 1 24 #[T,T,F,F,F,F,F,F,F,F,F,F,F,F,F] HT_.1 ?_
         refine pz 2 25 #[T,T,T,F,F,F,F,F,F,F,F,F,F,F,F] HT_.1 ?_
         refine pu 3 26 #[T,T,T,T,F,F,F,F,F,F,F,F,F,F,F] HT_.1 ?_
         refine pu 4 27 #[T,T,T,T,T,F,F,F,F,F,F,F,F,F,F] HT_.1 ?_
         refine pu 5 28 #[T,T,T,T,T,T,F,F,F,F,F,F,F,F,F] HT_.1 ?_
         refine pu 6 29 #[T,T,T,T,T,T,T,F,F,F,F,F,F,F,F] HT_.1 ?_
         refine pu 7 30 #[T,T,T,T,T,T,T,T,F,F,F,F,F,F,F] HT_.1 ?_
         refine pu 8 31 #[T,T,T,T,T,T,T,T,T,F,F,F,F,F,F] HT_.1 ?_
         refine pu 9 32 #[T,T,T,T,T,T,T,T,T,T,F,F,F,F,F] HT_.1 ?_
         refine pu 10 33 #[T,T,T,T,T,T,T,T,T,T,T,F,F,F,F] HT_.1 ?_
         refine pu 11 34 #[T,T,T,T,T,T,T,T,T,T,T,T,F,F,F] HT_.1 ?_
         refine pu 12 35 #[T,T,T,T,T,T,T,T,T,T,T,T,T,F,F] HT_.1 ?_
         refine pu 13 36 #[T,T,T,T,T,T,T,T,T,T,T,T,T,T,F] HT_.1 ?_
         refine pz 14 37 #[T,T,T,T,T,T,T,T,T,T,T,T,T,T,T] HT_.1 ?_
         refine done_ (done_of HT_.out (by kernel_rfl)) ?_
         try go_wp2
         go_roundg k1
         case measure => have:=HK1.out;omega
         case rel => exact ⟨(wrap64 (x3_1 + 512)),ze,H',⟨by have:=HK1.out;omega⟩,⟨zH HB⟩⟩
       ·rw [if_neg c8] at H
        have c8b0 : (t149 == 0) = false:=beq_eq_false_iff_ne.mpr c8
        have c8b1 : (t149 != 0) = true:=bne_iff_ne.mpr c8
        obtain rfl:=Option.some.inj H
        have q26 : ((ji3) : Int) ≤ ((l0.length : Int) : Int):=zd
        obtain ⟨i026,hi026,_,hsz26,_⟩:=info_parts info61
        have hroom26 : l0.length ≤ c0:=HC0.out
        have hC26 : Kd.C k61 _ A0 l0.length l0:=HR0.out
        have ql26 : (x3_1 : Int) ≤ ((ji3) : Int):=zd
        have q026 : (0 : Int) ≤ (x3_1 : Int):=zd
        have hcut26:=cut_mid (P:=Try.prog) 30 61 .i64 .i64 Try.underlying30 hi026 5 hsz26 A0 l0.length c0 x3_1 (ji3) q026 ql26 q26 hroom26
        have hr26:=Kd.C_mid (lo:=(x3_1 : Int).toNat) (hi:=((ji3) : Int).toNat) (c:=c0) hC26 (by omega) (by omega) hroom26
        obtain ⟨A26,hA26⟩ : ∃ A1,A1 = (if c0 = (x3_1 : Int).toNat then A0 else (A0 : Option Addr).map (·.add ((x3_1 : Int).toNat * 5))):=⟨_,rfl⟩
        obtain ⟨c26,hc26⟩ : ∃ c1,c1 = c0 - (x3_1 : Int).toNat:=⟨_,rfl⟩
        have hy26 : y145.length = ((ji3) : Int).toNat - (x3_1 : Int).toNat:=(by rw [Ny145.out,List.length_drop,List.length_take] <;> omega)
        rw [show ((l0).take ((ji3) : Int).toNat).drop (x3_1 : Int).toNat = y145 from Ny145.out.symm] at hr26
        replace hr26 : Kd.C k61 _ A26 y145.length y145:=(by rw [hA26];exact hr26)
        rw [← hy26,← hA26,← hc26] at hcut26
        have HR148:=zA hr26
        have HC148:=zA (show y145.length ≤ c26 from by rw [hy26,hc26];exact Nat.sub_le_sub_right (Nat.le_trans (by omega) hroom26) _)
        clear hr26 hC26 hroom26 hi026 hsz26 hc26
        have KY26:=zA hy26
        have KA26:=zA hA26
        clear hy26 hA26
        replace q26:=eq_true q26
        go_wp2_with (first|((with_reducible refine gate_callee (f:=47) rfl ?_);refine zg (some 21) Try.func47 #[.agg #[.int .i64 2,.int .u64 1,.int .u64 1,.int .u64 1,.slice A26 y145.length c26,.int .i64 0,.int .i64 0,.int .i64 0,.int .i64 0,.int .i64 0,.int .i64 0,.int .u64 0,.int .i64 0,.string (⟨#[]⟩ : ByteArray),.int .i64 0,.int .i64 0,.string (⟨#[]⟩ : ByteArray)]] ?_;(with_reducible refine (message_Check.calls k1 2 1 1 1 _ _ y145 0 0 0 0 0 0 0 0 (⟨#[]⟩ : ByteArray) 0 0 (⟨#[]⟩ : ByteArray) t149 _ ?side1 ?side2 A7.out).mono ?_);(case side1 => exact zC (Kd.C_below HR148.out HB.1));(case side2 => exact HC148.out);rintro e w27 ⟨rfl,hb⟩;refine ⟨_,rfl,?_⟩;replace HB:=zS HB hb;(try clear hb)))
        go_ret
        exact ⟨by first|rfl|(simp [errW_none,errW_some] <;> rfl)|(simp only [← hji3];first|rfl|(simp [errW_none,errW_some] <;> rfl))|(simp [*,errW_none,errW_some] <;> rfl),zH HB⟩
      ·rw [if_neg c6] at H
       exact absurd H (by simp)
     ·rw [if_neg c5] at H
      exact absurd H (by simp)
    ·rw [if_neg c4] at H
     exact absurd H (by simp)
   ·rw [if_neg c2] at H
    have c2b0 : decide (x3_1 < (l0.length : Int)) = false:=decide_eq_false c2
    clear c2
    obtain rfl:=Option.some.inj H
    go_wp2
    go_ret
    exact ⟨zE,zH HB⟩

/-! ### delta_list: function 30 -/
def delta_list.l0 : Nat → List (S61) → List (S61) → Int → Int → Option (Bool)
 | 0, _, _, _, _ => none
 | k + 1, x0, x5, x6, x7 => if x7 < x6 then (if 0 ≤ x7 then (if x7 < (x5.length : Int) then ((math_IsInf.f ((rd_T61 x5 x7).f2) 1).bind fun t155 => (if t155 = true then (some false) else (delta_list.l0 k x0 x5 x6 (wrap64 (x7 + 1))))) else (none)) else (none)) else ((delta_told.f k x0).bind fun t156 => (some t156))
def delta_list.f (k : Nat) (l0 : List (S61)) : Option (Bool) := delta_list.l0 k l0 l0 (l0.length : Int) 0
theorem delta_list.mono_l : ∀ k, (∀ y0 y1 y2 y3, LeO (delta_list.l0 k y0 y1 y2 y3) (delta_list.l0 (k + 1) y0 y1 y2 y3))
 | 0 => fun _ _ _ _ r h => by simp [delta_list.l0] at h
 | k + 1 => by
  have ih0:=delta_list.mono_l k
  ·intro y0 y1 y2 y3
   unfold delta_list.l0
   repeat' first
   | (with_reducible exact ih0 _ _ _ _)
   | (with_reducible exact delta_told.mono _ _)
   | (with_reducible exact LeO.refl _)
   | (with_reducible exact LeO.none _)
   | (with_reducible refine LeO.ite ?_ ?_)
   | (with_reducible refine LeO.bind ?_ (fun _ => ?_))
   | exact ih0 _ _ _ _
   | exact delta_told.mono _ _
   | exact LeO.none _
   | refine LeO.ite ?_ ?_
   | refine LeO.bind ?_ (fun _ => ?_)
theorem delta_list.mono : ∀ a0 k, LeO (delta_list.f k a0) (delta_list.f (k + 1) a0) := by
 intro a0 k
 have ih0:=delta_list.mono_l k
 unfold delta_list.f
 repeat' first
   | (with_reducible exact ih0 _ _ _ _)
   | (with_reducible exact delta_told.mono _ _)
   | (with_reducible exact LeO.refl _)
   | (with_reducible exact LeO.none _)
   | (with_reducible refine LeO.ite ?_ ?_)
   | (with_reducible refine LeO.bind ?_ (fun _ => ?_))
   | exact ih0 _ _ _ _
   | exact delta_told.mono _ _
   | exact LeO.none _
   | refine LeO.ite ?_ ?_
   | refine LeO.bind ?_ (fun _ => ?_)
set_option maxHeartbeats 8000000 in
set_option maxRecDepth 100000 in
theorem delta_list.calls (k : Nat) (A0 : Option Addr) (c0 : Nat) (l0 : List (S61)) (r : Bool) (w : World) (hr0 : Kd.C k61 w A0 l0.length l0) (hc0 : l0.length ≤ c0) (h : delta_list.f k l0 = some r) :
  Calls Try.prog 30 #[.slice A0 l0.length c0] w fun e w' => e = .returned (.bool r) ∧ Below w.heap.size w w':=by
 have hu61:=Try.underlying61
 have HR0:=zA hr0
 have HC0:=zA hc0
 clear hr0 hc0
 have HB:=zA (Below.refl w.heap.size w)
 have H : (delta_list.l0 k l0 l0 (l0.length : Int) 0) = some r:=h
 clear h
 have H':=zA H
 clear H
 go_enter Try.func30,Try.ntmps30
 go_wp2
 go_loopg [7] k (fun kq v7 w' => ∃ (x7_1 : Int),v7 = .int .i64 x7_1 ∧ Aside0 (delta_list.l0 kq l0 l0 (l0.length : Int) x7_1 = some r) ∧ Aside0 (kq ≤ k) ∧ Aside0 (Below w.heap.size w w'))
 case atStart => exact ⟨(0),ze,H',⟨Nat.le_refl _⟩,⟨zH HB⟩⟩
 case round =>
  clear H'
  obtain ⟨x7_1,rfl,HA,HK1,HB⟩:=hrel
  cases gk with
  | zero => exact absurd HA.out (by simp [delta_list.l0])
  | succ k1 =>
   have H:=HA.out
   clear HA
   simp only [delta_list.l0] at H
   by_cases c2 : x7_1 < (l0.length : Int)
   ·rw [if_pos c2] at H
    have c2b0 : decide (x7_1 < (l0.length : Int)) = true:=decide_eq_true c2
    clear c2
    by_cases c3 : 0 ≤ x7_1
    ·rw [if_pos c3] at H
     have c3b0 : decide (0 ≤ x7_1) = true:=decide_eq_true c3
     clear c3
     by_cases c4 : x7_1 < (l0.length : Int)
     ·rw [if_pos c4] at H
      have c4b0 : decide (x7_1 < (l0.length : Int)) = true:=decide_eq_true c4
      clear c4
      replace H:=Option.bind_eq_some_iff.mp H
      obtain ⟨t155,A50,H⟩:=H
      (try dsimp only at H)
      have A5:=zA A50
      clear A50
      by_cases c6 : t155 = true
      ·subst c6
       rw [if_pos rfl] at H
       obtain rfl:=Option.some.inj H
       have p153 : 0 ≤ (x7_1 : Int):=zd
       have q153 : x7_1 < (l0.length : Int):=zd
       obtain ⟨ad153,e153,hx153_0,hx153_1,hx153_2,hx153_3,hx153_4⟩:=at_T61 HR0.out x7_1 p153 q153
       cases e153
       replace hx153_0:=zh HB hx153_0
       replace hx153_1:=zh HB hx153_1
       replace hx153_2:=zh HB hx153_2
       replace hx153_3:=zh HB hx153_3
       replace hx153_4:=zh HB hx153_4
       replace p153:=eq_true p153
       replace q153:=eq_true q153
       go_wp2_with (first|((with_reducible refine gate_dst (N:=4) rfl ?_);refine zb (N:=4) (cs:=#[.int .i64 0,.int .i64 0,.float .f64 0,.float .f64 0,.int .i64 0]) (t:=61) ?_;intro G154 hg w7 hbox hb;have K154:=zA (hbox);have GW154:=zN HB hg;have GE154:=zN HB hg;replace HB:=zS HB hb;clear hb hbox hg;obtain ⟨hcz8_0,hcz8_1,hcz8_2,hcz8_3,hcz8_4,hfz8_0,hfz8_1,hfz8_2,hfz8_3,hfz8_4⟩:=zc5 K154)|((with_reducible refine gate_store (t:=61) (p:=4) rfl ?_);refine store_event (t:=61) (p:=4) (v:=?vo_w9) (w1:=(((((w7.setCell ⟨G154,0,none⟩ (.int .i64 ((rd_T61 l0 x7_1).f0))).setCell ⟨G154,1,none⟩ (.int .i64 ((rd_T61 l0 x7_1).f1))).setCell ⟨G154,2,none⟩ (.float .f64 ((rd_T61 l0 x7_1).f2))).setCell ⟨G154,3,none⟩ (.float .f64 ((rd_T61 l0 x7_1).f3))).setCell ⟨G154,4,none⟩ (.int .i64 ((rd_T61 l0 x7_1).f4)))) ?hg ?ho ?hn ?hr ?_;(case ho => rfl);(case hg => rfl);(case hn => rfl);(case hr => first|(go_simp;done)|(go_simp;rfl));intro w9 hw;replace K154:=zVp hw (.cells #[.int .i64 ((rd_T61 l0 x7_1).f0),.int .i64 ((rd_T61 l0 x7_1).f1),.float .f64 ((rd_T61 l0 x7_1).f2),.float .f64 ((rd_T61 l0 x7_1).f3),.int .i64 ((rd_T61 l0 x7_1).f4)] 61 (0,0)) K154;replace HB:=zU hw HB;clear hw;obtain ⟨hcz10_0,hcz10_1,hcz10_2,hcz10_3,hcz10_4,hfz10_0,hfz10_1,hfz10_2,hfz10_3,hfz10_4⟩:=zc5 K154)|((with_reducible refine gate_callee (f:=38) rfl ?_);refine zg (some 13) Try.func38 #[.float .f64 ((rd_T61 l0 x7_1).f2),.int .i64 1] ?_;(with_reducible refine (math_IsInf.calls ((rd_T61 l0 x7_1).f2) 1 true _ A5.out).mono ?_);rintro e w' ⟨rfl,⟨nd,rfl⟩⟩;refine ⟨_,rfl,?_⟩))
       go_ret
       exact ⟨zE,zH HB⟩
      ·replace c6:=Bool.eq_false_iff.mpr c6
       subst c6
       rw [if_neg (show ¬ (false = true) by decide)] at H
       have H':=zA H
       clear H
       have p153 : 0 ≤ (x7_1 : Int):=zd
       have q153 : x7_1 < (l0.length : Int):=zd
       obtain ⟨ad153,e153,hx153_0,hx153_1,hx153_2,hx153_3,hx153_4⟩:=at_T61 HR0.out x7_1 p153 q153
       cases e153
       replace hx153_0:=zh HB hx153_0
       replace hx153_1:=zh HB hx153_1
       replace hx153_2:=zh HB hx153_2
       replace hx153_3:=zh HB hx153_3
       replace hx153_4:=zh HB hx153_4
       replace p153:=eq_true p153
       replace q153:=eq_true q153
       go_wp2_with (first|((with_reducible refine gate_dst (N:=4) rfl ?_);refine zb (N:=4) (cs:=#[.int .i64 0,.int .i64 0,.float .f64 0,.float .f64 0,.int .i64 0]) (t:=61) ?_;intro G154 hg w11 hbox hb;have K154:=zA (hbox);have GW154:=zN HB hg;have GE154:=zN HB hg;replace HB:=zS HB hb;clear hb hbox hg;obtain ⟨hcz12_0,hcz12_1,hcz12_2,hcz12_3,hcz12_4,hfz12_0,hfz12_1,hfz12_2,hfz12_3,hfz12_4⟩:=zc5 K154)|((with_reducible refine gate_store (t:=61) (p:=4) rfl ?_);refine store_event (t:=61) (p:=4) (v:=?vo_w13) (w1:=(((((w11.setCell ⟨G154,0,none⟩ (.int .i64 ((rd_T61 l0 x7_1).f0))).setCell ⟨G154,1,none⟩ (.int .i64 ((rd_T61 l0 x7_1).f1))).setCell ⟨G154,2,none⟩ (.float .f64 ((rd_T61 l0 x7_1).f2))).setCell ⟨G154,3,none⟩ (.float .f64 ((rd_T61 l0 x7_1).f3))).setCell ⟨G154,4,none⟩ (.int .i64 ((rd_T61 l0 x7_1).f4)))) ?hg ?ho ?hn ?hr ?_;(case ho => rfl);(case hg => rfl);(case hn => rfl);(case hr => first|(go_simp;done)|(go_simp;rfl));intro w13 hw;replace K154:=zVp hw (.cells #[.int .i64 ((rd_T61 l0 x7_1).f0),.int .i64 ((rd_T61 l0 x7_1).f1),.float .f64 ((rd_T61 l0 x7_1).f2),.float .f64 ((rd_T61 l0 x7_1).f3),.int .i64 ((rd_T61 l0 x7_1).f4)] 61 (0,0)) K154;replace HB:=zU hw HB;clear hw;obtain ⟨hcz14_0,hcz14_1,hcz14_2,hcz14_3,hcz14_4,hfz14_0,hfz14_1,hfz14_2,hfz14_3,hfz14_4⟩:=zc5 K154)|((with_reducible refine gate_callee (f:=38) rfl ?_);refine zg (some 13) Try.func38 #[.float .f64 ((rd_T61 l0 x7_1).f2),.int .i64 1] ?_;(with_reducible refine (math_IsInf.calls ((rd_T61 l0 x7_1).f2) 1 false _ A5.out).mono ?_);rintro e w' ⟨rfl,⟨nd,rfl⟩⟩;refine ⟨_,rfl,?_⟩))
       go_roundg k1
       case measure => have:=HK1.out;omega
       case rel => exact ⟨(wrap64 (x7_1 + 1)),ze,H',⟨by have:=HK1.out;omega⟩,⟨zH HB⟩⟩
     ·rw [if_neg c4] at H
      exact absurd H (by simp)
    ·rw [if_neg c3] at H
     exact absurd H (by simp)
   ·rw [if_neg c2] at H
    have c2b0 : decide (x7_1 < (l0.length : Int)) = false:=decide_eq_false c2
    clear c2
    replace H:=Option.bind_eq_some_iff.mp H
    obtain ⟨t156,A150,H⟩:=H
    (try dsimp only at H)
    have A15:=zA A150
    clear A150
    obtain rfl:=Option.some.inj H
    go_wp2_with (first|((with_reducible refine gate_callee (f:=33) rfl ?_);refine zg (some 16) Try.func33 #[.slice A0 l0.length c0] ?_;(with_reducible refine (delta_told.calls k1 _ _ l0 t156 _ ?side1 ?side2 A15.out).mono ?_);(case side1 => exact zC (Kd.C_below HR0.out HB.1));(case side2 => exact HC0.out);rintro e w16 ⟨rfl,hb⟩;refine ⟨_,rfl,?_⟩;replace HB:=zS HB hb;(try clear hb)))
    go_ret
    exact ⟨zE,zH HB⟩

end Go.Proofs.Ytpcgjdllgdkobaa.XD
