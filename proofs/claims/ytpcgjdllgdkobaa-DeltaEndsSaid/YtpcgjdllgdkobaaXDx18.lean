/- Go functions of this seat as Lean functions, with proofs that the calls come to them. (Written by xprint.py, a program of this session, over the kit's print.) -/
import Derived.Test.YtpcgjdllgdkobaaXDx0
import Derived.Test.YtpcgjdllgdkobaaXDx14
namespace Go.Proofs.Ytpcgjdllgdkobaa.XD
open Go.RowKit Go.Proofs.YtpcgjdllgdkobaaW.PrintWords Go.Proofs.YtpcgjdllgdkobaaW.PrintLast Go.Proofs.YtpcgjdllgdkobaaW.PrintMore
attribute [local go_sem] max2_int min2_int max_two min_two max_three min_three max_four min_four   -- for this text's walks alone
set_option linter.unusedVariables false
set_option linter.unusedSimpArgs false
open List renaming setIfInBounds_toArray → xA, set_cons_zero → xB, set_cons_succ → xC
open Go.Proofs.YtpcgjdllgdkobaaW.PrintWords renaming blk_drewN → bN, blk_drew → bD, blk_alloc → bA, below_set → bS, blk_frozen → bF, blk_cell → bC, cell_far → cF, blk_far → bZ, blk_below → bB, pw_below_drewN → bwN, below_drew1 → bw1, below_alloc → bwA
open Go.Proofs.YtpcgjdllgdkobaaW.PrintZ
open Bool renaming true → T,false → F

/-! ### beaconref14_place: function 45 -/
def beaconref14_place.l0 : Nat → List (S61) → Int → Int → Int → Nat → Nat → Int → Option (Int)
 | 0, _, _, _, _, _, _, _ => none
 | k + 1, x0, x5, x219000, x219001, x219002, x219003, x219004 => if x5 < (x0.length : Int) then (if 0 ≤ x5 then (if ((rd_T61 x0 x5).f1) = x219001 then (if ((rd_T61 x0 x5).f0) = x219000 then (some x5) else (beaconref14_place.l0 k x0 (wrap64 (x5 + 1)) x219000 x219001 x219002 x219003 x219004)) else (beaconref14_place.l0 k x0 (wrap64 (x5 + 1)) x219000 x219001 x219002 x219003 x219004)) else (none)) else (some (-1))
def beaconref14_place.f (k : Nat) (l0 : List (S61)) (a1_0 : Int) (a1_1 : Int) (a1_2 : Nat) (a1_3 : Nat) (a1_4 : Int) : Option (Int) := beaconref14_place.l0 k l0 0 a1_0 a1_1 a1_2 a1_3 a1_4
theorem beaconref14_place.mono_l : ∀ k, (∀ y0 y1 y2 y3 y4 y5 y6, LeO (beaconref14_place.l0 k y0 y1 y2 y3 y4 y5 y6) (beaconref14_place.l0 (k + 1) y0 y1 y2 y3 y4 y5 y6))
 | 0 => fun _ _ _ _ _ _ _ r h => by simp [beaconref14_place.l0] at h
 | k + 1 => by
  have ih0:=beaconref14_place.mono_l k
  ·intro y0 y1 y2 y3 y4 y5 y6
   unfold beaconref14_place.l0
   repeat' first
   | (with_reducible exact ih0 _ _ _ _ _ _ _)
   | (with_reducible exact LeO.refl _)
   | (with_reducible exact LeO.none _)
   | (with_reducible refine LeO.ite ?_ ?_)
   | (with_reducible refine LeO.bind ?_ (fun _ => ?_))
   | exact ih0 _ _ _ _ _ _ _
   | exact LeO.none _
   | refine LeO.ite ?_ ?_
   | refine LeO.bind ?_ (fun _ => ?_)
theorem beaconref14_place.mono : ∀ a0 a1 a2 a3 a4 a5 k, LeO (beaconref14_place.f k a0 a1 a2 a3 a4 a5) (beaconref14_place.f (k + 1) a0 a1 a2 a3 a4 a5) := by
 intro a0 a1 a2 a3 a4 a5 k
 have ih0:=beaconref14_place.mono_l k
 unfold beaconref14_place.f
 repeat' first
   | (with_reducible exact ih0 _ _ _ _ _ _ _)
   | (with_reducible exact LeO.refl _)
   | (with_reducible exact LeO.none _)
   | (with_reducible refine LeO.ite ?_ ?_)
   | (with_reducible refine LeO.bind ?_ (fun _ => ?_))
   | exact ih0 _ _ _ _ _ _ _
   | exact LeO.none _
   | refine LeO.ite ?_ ?_
   | refine LeO.bind ?_ (fun _ => ?_)
set_option maxHeartbeats 8000000 in
set_option maxRecDepth 100000 in
theorem beaconref14_place.calls (k : Nat) (A0 : Option Addr) (c0 : Nat) (l0 : List (S61)) (a1_0 : Int) (a1_1 : Int) (a1_2 : Nat) (a1_3 : Nat) (a1_4 : Int) (r : Int) (w : World) (hr0 : Kd.C k61 w A0 l0.length l0) (hc0 : l0.length ≤ c0) (h : beaconref14_place.f k l0 a1_0 a1_1 a1_2 a1_3 a1_4 = some r) :
  Calls Try.prog 45 #[.slice A0 l0.length c0,.agg #[.int .i64 a1_0,.int .i64 a1_1,.float .f64 a1_2,.float .f64 a1_3,.int .i64 a1_4]] w fun e w' => e = .returned (.int .i64 r) ∧ Below w.heap.size w w':=by
 have hu61:=Try.underlying61
 have HR0:=zA hr0
 have HC0:=zA hc0
 clear hr0 hc0
 have HB:=zA (Below.refl w.heap.size w)
 have H : (beaconref14_place.l0 k l0 0 a1_0 a1_1 a1_2 a1_3 a1_4) = some r:=h
 clear h
 have H':=zA H
 clear H
 go_enter Try.func45,Try.ntmps45
 go_wp2_with (first|((with_reducible refine gate_dst (N:=3) rfl ?_);refine zb (N:=3) (cs:=#[.int .i64 a1_0,.int .i64 a1_1,.float .f64 a1_2,.float .f64 a1_3,.int .i64 a1_4]) (t:=61) ?_;intro G218 hg w3 hbox hb;have K218:=zA (hbox);have GW218:=zN HB hg;have GE218:=zN HB hg;replace HB:=zS HB hb;clear hb hbox hg))
 repeat (go_quiet (first|((with_reducible refine gate_dst (N:=3) rfl ?_);refine zb (N:=3) (cs:=#[.int .i64 a1_0,.int .i64 a1_1,.float .f64 a1_2,.float .f64 a1_3,.int .i64 a1_4]) (t:=61) ?_;intro G218 hg w3 hbox hb;have K218:=zA (hbox);have GW218:=zN HB hg;have GE218:=zN HB hg;replace HB:=zS HB hb;clear hb hbox hg));try go_wp2_with (first|((with_reducible refine gate_dst (N:=3) rfl ?_);refine zb (N:=3) (cs:=#[.int .i64 a1_0,.int .i64 a1_1,.float .f64 a1_2,.float .f64 a1_3,.int .i64 a1_4]) (t:=61) ?_;intro G218 hg w3 hbox hb;have K218:=zA (hbox);have GW218:=zN HB hg;have GE218:=zN HB hg;replace HB:=zS HB hb;clear hb hbox hg)))
 go_loopg [5] k (fun kq v5 w' => ∃ (x5_1 : Int),v5 = .int .i64 x5_1 ∧ Aside0 (beaconref14_place.l0 kq l0 x5_1 a1_0 a1_1 a1_2 a1_3 a1_4 = some r) ∧ Aside0 (kq ≤ k) ∧ Aside0 (w'.heap[G218]? = some (.cells #[.int .i64 a1_0,.int .i64 a1_1,.float .f64 a1_2,.float .f64 a1_3,.int .i64 a1_4] 61 (0,0))) ∧ Aside0 (Below w.heap.size w w'))
 case atStart => exact ⟨(0),ze,H',⟨Nat.le_refl _⟩,⟨z1 K218.1⟩,⟨zH HB⟩⟩
 case round =>
  clear H'
  obtain ⟨x5_1,rfl,HA,HK1,K218,HB⟩:=hrel
  cases gk with
  | zero => exact absurd HA.out (by simp [beaconref14_place.l0])
  | succ k1 =>
   have H:=HA.out
   clear HA
   simp only [beaconref14_place.l0] at H
   by_cases c4 : x5_1 < (l0.length : Int)
   ·rw [if_pos c4] at H
    have c4b0 : decide (x5_1 < (l0.length : Int)) = true:=decide_eq_true c4
    clear c4
    by_cases c5 : 0 ≤ x5_1
    ·rw [if_pos c5] at H
     have c5b0 : decide (0 ≤ x5_1) = true:=decide_eq_true c5
     clear c5
     by_cases c6 : ((rd_T61 l0 x5_1).f1) = a1_1
     ·rw [if_pos c6] at H
      have c6b0 : (((rd_T61 l0 x5_1).f1) == a1_1) = true:=beq_iff_eq.mpr c6
      have c6b1 : (((rd_T61 l0 x5_1).f1) != a1_1) = false:=bne_eq_false_iff_eq.mpr c6
      clear c6
      by_cases c7 : ((rd_T61 l0 x5_1).f0) = a1_0
      ·rw [if_pos c7] at H
       have c7b0 : (((rd_T61 l0 x5_1).f0) == a1_0) = true:=beq_iff_eq.mpr c7
       have c7b1 : (((rd_T61 l0 x5_1).f0) != a1_0) = false:=bne_eq_false_iff_eq.mpr c7
       clear c7
       obtain rfl:=Option.some.inj H
       have p219 : 0 ≤ (x5_1 : Int):=zd
       have q219 : x5_1 < (l0.length : Int):=zd
       obtain ⟨ad219,e219,hx219_0,hx219_1,hx219_2,hx219_3,hx219_4⟩:=at_T61 HR0.out x5_1 p219 q219
       cases e219
       replace hx219_0:=zh HB hx219_0
       replace hx219_1:=zh HB hx219_1
       replace hx219_2:=zh HB hx219_2
       replace hx219_3:=zh HB hx219_3
       replace hx219_4:=zh HB hx219_4
       replace p219:=eq_true p219
       replace q219:=eq_true q219
       obtain ⟨hcz8_0,hcz8_1,hcz8_2,hcz8_3,hcz8_4,hfz8_0,hfz8_1,hfz8_2,hfz8_3,hfz8_4⟩:=zc5 K218
       have p220 : 0 ≤ (x5_1 : Int):=zd
       have q220 : x5_1 < (l0.length : Int):=zd
       obtain ⟨ad220,e220,hx220_0,hx220_1,hx220_2,hx220_3,hx220_4⟩:=at_T61 HR0.out x5_1 p220 q220
       obtain rfl : ad219 = ad220:=(by injection e220)
       replace hx220_0:=zh HB hx220_0
       replace hx220_1:=zh HB hx220_1
       replace hx220_2:=zh HB hx220_2
       replace hx220_3:=zh HB hx220_3
       replace hx220_4:=zh HB hx220_4
       replace p220:=eq_true p220
       replace q220:=eq_true q220
       go_wp2
       repeat (go_quiet (fail);try go_wp2)
       go_ret
       exact ⟨zE,zH HB⟩
      ·rw [if_neg c7] at H
       have c7b0 : (((rd_T61 l0 x5_1).f0) == a1_0) = false:=beq_eq_false_iff_ne.mpr c7
       have c7b1 : (((rd_T61 l0 x5_1).f0) != a1_0) = true:=bne_iff_ne.mpr c7
       have H':=zA H
       clear H
       have p219 : 0 ≤ (x5_1 : Int):=zd
       have q219 : x5_1 < (l0.length : Int):=zd
       obtain ⟨ad219,e219,hx219_0,hx219_1,hx219_2,hx219_3,hx219_4⟩:=at_T61 HR0.out x5_1 p219 q219
       cases e219
       replace hx219_0:=zh HB hx219_0
       replace hx219_1:=zh HB hx219_1
       replace hx219_2:=zh HB hx219_2
       replace hx219_3:=zh HB hx219_3
       replace hx219_4:=zh HB hx219_4
       replace p219:=eq_true p219
       replace q219:=eq_true q219
       obtain ⟨hcz9_0,hcz9_1,hcz9_2,hcz9_3,hcz9_4,hfz9_0,hfz9_1,hfz9_2,hfz9_3,hfz9_4⟩:=zc5 K218
       have p220 : 0 ≤ (x5_1 : Int):=zd
       have q220 : x5_1 < (l0.length : Int):=zd
       obtain ⟨ad220,e220,hx220_0,hx220_1,hx220_2,hx220_3,hx220_4⟩:=at_T61 HR0.out x5_1 p220 q220
       obtain rfl : ad219 = ad220:=(by injection e220)
       replace hx220_0:=zh HB hx220_0
       replace hx220_1:=zh HB hx220_1
       replace hx220_2:=zh HB hx220_2
       replace hx220_3:=zh HB hx220_3
       replace hx220_4:=zh HB hx220_4
       replace p220:=eq_true p220
       replace q220:=eq_true q220
       go_wp2
       repeat (go_quiet (fail);try go_wp2)
       go_roundg k1
       case measure => have:=HK1.out;omega
       case rel => exact ⟨(wrap64 (x5_1 + 1)),ze,H',⟨by have:=HK1.out;omega⟩,⟨z1 K218.1⟩,⟨zH HB⟩⟩
     ·rw [if_neg c6] at H
      have c6b0 : (((rd_T61 l0 x5_1).f1) == a1_1) = false:=beq_eq_false_iff_ne.mpr c6
      have c6b1 : (((rd_T61 l0 x5_1).f1) != a1_1) = true:=bne_iff_ne.mpr c6
      have H':=zA H
      clear H
      have p219 : 0 ≤ (x5_1 : Int):=zd
      have q219 : x5_1 < (l0.length : Int):=zd
      obtain ⟨ad219,e219,hx219_0,hx219_1,hx219_2,hx219_3,hx219_4⟩:=at_T61 HR0.out x5_1 p219 q219
      cases e219
      replace hx219_0:=zh HB hx219_0
      replace hx219_1:=zh HB hx219_1
      replace hx219_2:=zh HB hx219_2
      replace hx219_3:=zh HB hx219_3
      replace hx219_4:=zh HB hx219_4
      replace p219:=eq_true p219
      replace q219:=eq_true q219
      obtain ⟨hcz10_0,hcz10_1,hcz10_2,hcz10_3,hcz10_4,hfz10_0,hfz10_1,hfz10_2,hfz10_3,hfz10_4⟩:=zc5 K218
      go_wp2
      repeat (go_quiet (fail);try go_wp2)
      go_roundg k1
      case measure => have:=HK1.out;omega
      case rel => exact ⟨(wrap64 (x5_1 + 1)),ze,H',⟨by have:=HK1.out;omega⟩,⟨z1 K218.1⟩,⟨zH HB⟩⟩
    ·rw [if_neg c5] at H
     exact absurd H (by simp)
   ·rw [if_neg c4] at H
    have c4b0 : decide (x5_1 < (l0.length : Int)) = false:=decide_eq_false c4
    clear c4
    obtain rfl:=Option.some.inj H
    go_wp2
    repeat (go_quiet (fail);try go_wp2)
    go_ret
    exact ⟨zE,zH HB⟩

/-! ### beaconref14_put: function 46 -/
def beaconref14_put.l0 : Nat → List (S61) → List (S61) → Bool → Int → Int → Int → Nat → Nat → Int → Option ((List (S61)))
 | 0, _, _, _, _, _, _, _, _, _ => none
 | k + 1, x0, x5, x6, x7, x222000, x222001, x222002, x222003, x222004 => if x7 < (x0.length : Int) then (if x6 = true then (if 0 ≤ x7 then (if x5.length < 3518437208883 then (beaconref14_put.l0 k x0 (x5 ++ [(⟨(rd_T61 x0 x7).f0, (rd_T61 x0 x7).f1, (rd_T61 x0 x7).f2, (rd_T61 x0 x7).f3, (rd_T61 x0 x7).f4⟩ : S61)]) x6 (wrap64 (x7 + 1)) x222000 x222001 x222002 x222003 x222004) else (none)) else (none)) else (if 0 ≤ x7 then ((beaconref06_Before.f x222000 x222001 x222002 x222003 x222004 ((rd_T61 x0 x7).f0) ((rd_T61 x0 x7).f1) ((rd_T61 x0 x7).f2) ((rd_T61 x0 x7).f3) ((rd_T61 x0 x7).f4)).bind fun t227 => (if t227 = true then (if x5.length < 3518437208883 then ((some (x5 ++ [(⟨x222000, x222001, x222002, x222003, x222004⟩ : S61)] : List (S61))).bind fun y228 => (if y228.length < 3518437208883 then (beaconref14_put.l0 k x0 (y228 ++ [(⟨(rd_T61 x0 x7).f0, (rd_T61 x0 x7).f1, (rd_T61 x0 x7).f2, (rd_T61 x0 x7).f3, (rd_T61 x0 x7).f4⟩ : S61)]) true (wrap64 (x7 + 1)) x222000 x222001 x222002 x222003 x222004) else (none))) else (none)) else (if x5.length < 3518437208883 then (beaconref14_put.l0 k x0 (x5 ++ [(⟨(rd_T61 x0 x7).f0, (rd_T61 x0 x7).f1, (rd_T61 x0 x7).f2, (rd_T61 x0 x7).f3, (rd_T61 x0 x7).f4⟩ : S61)]) x6 (wrap64 (x7 + 1)) x222000 x222001 x222002 x222003 x222004) else (none)))) else (none))) else (if x6 = true then (some x5) else (if x5.length < 3518437208883 then (some (x5 ++ [(⟨x222000, x222001, x222002, x222003, x222004⟩ : S61)])) else (none)))
def beaconref14_put.f (k : Nat) (l0 : List (S61)) (a1_0 : Int) (a1_1 : Int) (a1_2 : Nat) (a1_3 : Nat) (a1_4 : Int) : Option ((List (S61))) := beaconref14_put.l0 k l0 ([] : List (S61)) false 0 a1_0 a1_1 a1_2 a1_3 a1_4
theorem beaconref14_put.mono_l : ∀ k, (∀ y0 y1 y2 y3 y4 y5 y6 y7 y8, LeO (beaconref14_put.l0 k y0 y1 y2 y3 y4 y5 y6 y7 y8) (beaconref14_put.l0 (k + 1) y0 y1 y2 y3 y4 y5 y6 y7 y8))
 | 0 => fun _ _ _ _ _ _ _ _ _ r h => by simp [beaconref14_put.l0] at h
 | k + 1 => by
  have ih0:=beaconref14_put.mono_l k
  ·intro y0 y1 y2 y3 y4 y5 y6 y7 y8
   unfold beaconref14_put.l0
   repeat' first
   | (with_reducible exact ih0 _ _ _ _ _ _ _ _ _)
   | (with_reducible exact LeO.refl _)
   | (with_reducible exact LeO.none _)
   | (with_reducible refine LeO.ite ?_ ?_)
   | (with_reducible refine LeO.bind ?_ (fun _ => ?_))
   | exact ih0 _ _ _ _ _ _ _ _ _
   | exact LeO.none _
   | refine LeO.ite ?_ ?_
   | refine LeO.bind ?_ (fun _ => ?_)
theorem beaconref14_put.mono : ∀ a0 a1 a2 a3 a4 a5 k, LeO (beaconref14_put.f k a0 a1 a2 a3 a4 a5) (beaconref14_put.f (k + 1) a0 a1 a2 a3 a4 a5) := by
 intro a0 a1 a2 a3 a4 a5 k
 have ih0:=beaconref14_put.mono_l k
 unfold beaconref14_put.f
 repeat' first
   | (with_reducible exact ih0 _ _ _ _ _ _ _ _ _)
   | (with_reducible exact LeO.refl _)
   | (with_reducible exact LeO.none _)
   | (with_reducible refine LeO.ite ?_ ?_)
   | (with_reducible refine LeO.bind ?_ (fun _ => ?_))
   | exact ih0 _ _ _ _ _ _ _ _ _
   | exact LeO.none _
   | refine LeO.ite ?_ ?_
   | refine LeO.bind ?_ (fun _ => ?_)
def beaconref14_put.T6 : Bool × List (List Nat × List Nat) := (true, [([], []), ([0], [0]), ([1], [1]), ([2], [2]), ([2], [2]), ([2], [2]), ([4, 5, 2], [2, 4, 5]), ([6, 2], [2, 6]), ([3, 7, 2, 2], [2, 3, 7]), ([2, 8], [2, 8])])
def beaconref14_put.B6 : List Nat := [0, 1, 3, 7, 7, 7, 55, 119, 255, 511]
theorem beaconref14_put.tab6 : rtab .any (opsOf Try.f46 6) = beaconref14_put.T6 := by kernel_rfl
theorem beaconref14_put.bits6 : waitsOk beaconref14_put.T6.2 beaconref14_put.B6 = true := by kernel_rfl
set_option maxHeartbeats 8000000 in
set_option maxRecDepth 100000 in
theorem beaconref14_put.calls (k : Nat) (A0 : Option Addr) (c0 : Nat) (l0 : List (S61)) (a1_0 : Int) (a1_1 : Int) (a1_2 : Nat) (a1_3 : Nat) (a1_4 : Int) (r : List (S61)) (w : World) (hr0 : Kd.C k61 w A0 l0.length l0) (hc0 : l0.length ≤ c0) (h : beaconref14_put.f k l0 a1_0 a1_1 a1_2 a1_3 a1_4 = some r) :
  Calls Try.prog 46 #[.slice A0 l0.length c0,.agg #[.int .i64 a1_0,.int .i64 a1_1,.float .f64 a1_2,.float .f64 a1_3,.int .i64 a1_4]] w fun e w' => ∃ v0_ : Value,e = .returned (v0_) ∧ Kd.R k61 61 w' w.heap.size (fun _ => True) v0_ r ∧ Below w.heap.size w w':=by
 have hu61:=Try.underlying61
 have HR0:=zA hr0
 have HC0:=zA hc0
 clear hr0 hc0
 have HB:=zA (Below.refl w.heap.size w)
 have H : (beaconref14_put.l0 k l0 ([] : List (S61)) false 0 a1_0 a1_1 a1_2 a1_3 a1_4) = some r:=h
 clear h
 have H':=zA H
 clear H
 go_enter Try.func46,Try.ntmps46
 go_wp2_with (first|((with_reducible refine gate_dst (N:=3) rfl ?_);refine zb (N:=3) (cs:=#[.int .i64 a1_0,.int .i64 a1_1,.float .f64 a1_2,.float .f64 a1_3,.int .i64 a1_4]) (t:=61) ?_;intro G221 hg w3 hbox hb;have K221:=zA (hbox);have GW221:=zN HB hg;have GE221:=zN HB hg;replace HB:=zS HB hb;clear hb hbox hg))
 go_loopg [5,6,7] k (fun kq v5 v6 v7 w' => ∃ (x5_1 : List (S61)) (x6_1 : Bool) (x7_1 : Int),v6 = .bool x6_1 ∧ v7 = .int .i64 x7_1 ∧ Aside0 (beaconref14_put.l0 kq l0 x5_1 x6_1 x7_1 a1_0 a1_1 a1_2 a1_3 a1_4 = some r) ∧ Aside0 (kq ≤ k) ∧ Aside0 (Kd.R k61 61 w' w.heap.size (fun k_ => k_ ≠ G221) v5 x5_1) ∧ Aside0 (w'.heap[G221]? = some (.cells #[.int .i64 a1_0,.int .i64 a1_1,.float .f64 a1_2,.float .f64 a1_3,.int .i64 a1_4] 61 (0,0))) ∧ Aside0 (Below w.heap.size w w'))
 case atStart => exact ⟨(([] : List (S61))),(false),(0),ze,ze,H',⟨Nat.le_refl _⟩,⟨by first|exact Kd.R_nil _ _ _ _ _|exact Kd.N_nil _ _ _ _ _|exact Kd.V_nil _ _ _ _ _|exact Kd.Q_nil _ _ _ _ _|exact Kd.S_nil _ _ _ _ _⟩,⟨z1 K221.1⟩,⟨zH HB⟩⟩
 case round =>
  clear H'
  obtain ⟨x5_1,x6_1,x7_1,rfl,rfl,HA,HK1,HO_5,K221,HB⟩:=hrel
  cases gk with
  | zero => exact absurd HA.out (by simp [beaconref14_put.l0])
  | succ k1 =>
   have H:=HA.out
   clear HA
   simp only [beaconref14_put.l0] at H
   by_cases c4 : x7_1 < (l0.length : Int)
   ·rw [if_pos c4] at H
    have c4b0 : decide (x7_1 < (l0.length : Int)) = true:=decide_eq_true c4
    clear c4
    by_cases c5 : x6_1 = true
    ·subst c5
     rw [if_pos rfl] at H
     by_cases c6 : 0 ≤ x7_1
     ·rw [if_pos c6] at H
      have c6b0 : decide (0 ≤ x7_1) = true:=decide_eq_true c6
      clear c6
      by_cases c7 : x5_1.length < 3518437208883
      ·rw [if_pos c7] at H
       have LMc7:=zA c7
       clear c7
       obtain ⟨y223,hy223⟩ : ∃ y_ : List (S61),y_ = (x5_1 ++ [(⟨(rd_T61 l0 x7_1).f0,(rd_T61 l0 x7_1).f1,(rd_T61 l0 x7_1).f2,(rd_T61 l0 x7_1).f3,(rd_T61 l0 x7_1).f4⟩ : S61)]):=⟨_,rfl⟩
       replace H : (beaconref14_put.l0 k1 l0 y223 true (wrap64 (x7_1 + 1)) a1_0 a1_1 a1_2 a1_3 a1_4) = some r:=by first|(rw [hy223];with_reducible exact H)|(have H2_:=(Option.bind_some _ _).symm.trans H;rw [hy223];with_reducible exact H2_)|(have H2_:=(Option.bind_some _ _).symm.trans H;with_reducible exact H2_)|with_reducible exact H|(rw [hy223];exact H)|exact H
       have Ny223:=zA hy223
       clear hy223
       have H':=zA H
       clear H
       try go_wp2
       replace HO_5:=zA (Kd.R_drew HO_5.out)
       replace K221:=zA (bD K221.1)
       replace HB:=zA (bw1 HB.1)
       refine start_ (n:=10) (S:=fun w' => True) (ds:=[]) #[F,F,F,F,F,F,F,F,F,F] (by kernel_rfl) rfl rfl trivial (fun hHeld => ?_);refine with_tabW beaconref14_put.tab6 beaconref14_put.bits6 (fun HT_ HW_ => ?_)
       generalize wr.drew = w8 at HO_5 K221 HB hHeld ⊢
       refine pz 0 14 #[T,F,F,F,F,F,F,F,F,F] HT_.1 ?_
       refine pz 1 15 #[T,T,F,F,F,F,F,F,F,F] HT_.1 ?_
       refine pz 2 16 #[T,T,T,F,F,F,F,F,F,F] HT_.1 ?_
       refine pu 3 17 #[T,T,T,T,F,F,F,F,F,F] HT_.1 ?_
       refine pu 4 18 #[T,T,T,T,T,F,F,F,F,F] HT_.1 ?_
       refine pu 5 19 #[T,T,T,T,T,T,F,F,F,F] HT_.1 ?_
       refine pu 6 20 #[T,T,T,T,T,T,T,F,F,F] HT_.1 ?_
       refine pu 7 21 #[T,T,T,T,T,T,T,T,F,F] HT_.1 ?_
       refine pu 8 22 #[T,T,T,T,T,T,T,T,T,F] HT_.1 ?_
       refine pz 9 23 #[T,T,T,T,T,T,T,T,T,T] HT_.1 ?_
       refine done_ (done_of HT_.out (by kernel_rfl)) ?_
       have p222 : 0 ≤ (x7_1 : Int):=zd
       have q222 : x7_1 < (l0.length : Int):=zd
       obtain ⟨ad222,e222,hx222_0,hx222_1,hx222_2,hx222_3,hx222_4⟩:=at_T61 HR0.out x7_1 p222 q222
       cases e222
       replace hx222_0:=zh HB hx222_0
       replace hx222_1:=zh HB hx222_1
       replace hx222_2:=zh HB hx222_2
       replace hx222_3:=zh HB hx222_3
       replace hx222_4:=zh HB hx222_4
       replace p222:=eq_true p222
       replace q222:=eq_true q222
       try go_wp2_with (first|((with_reducible refine gate_builtin (b:=.append) (xs:=#[.tmp 28,.tmp 33]) rfl ?_);at_builtin;refine Kd.R_append k61 (w0:=w) w.heap.size rfl (.tmp 28) (.tmp 33) 30 61 (.agg #[(.int .i64 0),(.int .i64 0),(.float .f64 0),(.float .f64 0),(.int .i64 0)]) 40 rfl Try.underlying30 info61 rfl (by decide) (by omega) u5 x5_1 (⟨(rd_T61 l0 x7_1).f0,(rd_T61 l0 x7_1).f1,(rd_T61 l0 x7_1).f2,(rd_T61 l0 x7_1).f3,(rd_T61 l0 x7_1).f4⟩ : S61) [.int .i64 ((rd_T61 l0 x7_1).f0),.int .i64 ((rd_T61 l0 x7_1).f1),.float .f64 ((rd_T61 l0 x7_1).f2),.float .f64 ((rd_T61 l0 x7_1).f3),.int .i64 ((rd_T61 l0 x7_1).f4)] (fun k_ => k_ ≠ G221) (fun _ => False) rfl rfl ?aP (fun _ hk => hk.elim) ?aF ?aO ?aB ?aS ?aL ?_;(case aP => exact k61_mkM _ _ _ (⟨(rd_T61 l0 x7_1).f0,(rd_T61 l0 x7_1).f1,(rd_T61 l0 x7_1).f2,(rd_T61 l0 x7_1).f3,(rd_T61 l0 x7_1).f4⟩ : S61));(case aB => exact (zH HB));(case aF => exact (fun k_ hk => Kd.freshB (g:=G221) (z1 K221.1) k_ hk));(case aO => exact (zR HO_5));(case aS => exact (zW HB));(case aL => have:=LMc7.out;omega);intro v224 w9 ho hb hg hat;rw [← Ny223.out] at ho;replace K221:=zA (blk_grown (g:=G221) (z1 K221.1) hg (Kd.R_away HO_5.out (fun _ hk => hk)));replace HB:=zA (hb);have HO225:=zA (ho);clear HO_5;clear ho hb hg hat))
       go_roundg k1
       case measure => have:=HK1.out;omega
       case rel => exact ⟨(y223),(true),(wrap64 (x7_1 + 1)),ze,ze,H',⟨by have:=HK1.out;omega⟩,⟨zR HO225⟩,⟨z1 K221.1⟩,⟨zH HB⟩⟩
      ·rw [if_neg c7] at H
       exact absurd H (by simp)
     ·rw [if_neg c6] at H
      exact absurd H (by simp)
    ·replace c5:=Bool.eq_false_iff.mpr c5
     subst c5
     rw [if_neg (show ¬ (false = true) by decide)] at H
     by_cases c10 : 0 ≤ x7_1
     ·rw [if_pos c10] at H
      have c10b0 : decide (0 ≤ x7_1) = true:=decide_eq_true c10
      clear c10
      replace H:=Option.bind_eq_some_iff.mp H
      obtain ⟨t227,A110,H⟩:=H
      (try dsimp only at H)
      have A11:=zA A110
      clear A110
      by_cases c12 : t227 = true
      ·subst c12
       rw [if_pos rfl] at H
       by_cases c13 : x5_1.length < 3518437208883
       ·rw [if_pos c13] at H
        have LMc13:=zA c13
        clear c13
        obtain ⟨y228,hy228⟩ : ∃ y_ : List (S61),y_ = (x5_1 ++ [(⟨a1_0,a1_1,a1_2,a1_3,a1_4⟩ : S61)]):=⟨_,rfl⟩
        replace H : (if y228.length < 3518437208883 then (beaconref14_put.l0 k1 l0 (y228 ++ [(⟨(rd_T61 l0 x7_1).f0,(rd_T61 l0 x7_1).f1,(rd_T61 l0 x7_1).f2,(rd_T61 l0 x7_1).f3,(rd_T61 l0 x7_1).f4⟩ : S61)]) true (wrap64 (x7_1 + 1)) a1_0 a1_1 a1_2 a1_3 a1_4) else (none)) = some r:=by first|(rw [hy228];with_reducible exact H)|(have H2_:=(Option.bind_some _ _).symm.trans H;rw [hy228];with_reducible exact H2_)|(have H2_:=(Option.bind_some _ _).symm.trans H;with_reducible exact H2_)|with_reducible exact H|(rw [hy228];exact H)|exact H
        have Ny228:=zA hy228
        clear hy228
        by_cases c14 : y228.length < 3518437208883
        ·rw [if_pos c14] at H
         have LMc14:=zA c14
         clear c14
         obtain ⟨y232,hy232⟩ : ∃ y_ : List (S61),y_ = (y228 ++ [(⟨(rd_T61 l0 x7_1).f0,(rd_T61 l0 x7_1).f1,(rd_T61 l0 x7_1).f2,(rd_T61 l0 x7_1).f3,(rd_T61 l0 x7_1).f4⟩ : S61)]):=⟨_,rfl⟩
         replace H : (beaconref14_put.l0 k1 l0 y232 true (wrap64 (x7_1 + 1)) a1_0 a1_1 a1_2 a1_3 a1_4) = some r:=by first|(rw [hy232];with_reducible exact H)|(have H2_:=(Option.bind_some _ _).symm.trans H;rw [hy232];with_reducible exact H2_)|(have H2_:=(Option.bind_some _ _).symm.trans H;with_reducible exact H2_)|with_reducible exact H|(rw [hy232];exact H)|exact H
         have Ny232:=zA hy232
         clear hy232
         have H':=zA H
         clear H
         try go_wp2
         replace HO_5:=zA (Kd.R_drew HO_5.out)
         replace K221:=zA (bD K221.1)
         replace HB:=zA (bw1 HB.1)
         have p226 : 0 ≤ (x7_1 : Int):=zd
         have q226 : x7_1 < (l0.length : Int):=zd
         obtain ⟨ad226,e226,hx226_0,hx226_1,hx226_2,hx226_3,hx226_4⟩:=at_T61 HR0.out x7_1 p226 q226
         have hw226_4:=hx226_4
         have hw226_3:=hx226_3
         have hw226_2:=hx226_2
         have hw226_1:=hx226_1
         have hw226_0:=hx226_0
         cases e226
         replace hx226_0:=zh HB hx226_0
         replace hx226_1:=zh HB hx226_1
         replace hx226_2:=zh HB hx226_2
         replace hx226_3:=zh HB hx226_3
         replace hx226_4:=zh HB hx226_4
         replace p226:=eq_true p226
         replace q226:=eq_true q226
         refine start_ (n:=10) (S:=fun w' => w'.cell? ⟨G221,0,none⟩ = some (.int .i64 a1_0) ∧ w'.cell? ⟨G221,1,none⟩ = some (.int .i64 a1_1) ∧ w'.cell? ⟨G221,2,none⟩ = some (.float .f64 a1_2) ∧ w'.cell? ⟨G221,3,none⟩ = some (.float .f64 a1_3) ∧ w'.cell? ⟨G221,4,none⟩ = some (.int .i64 a1_4) ∧ w'.cell? (ad226.add ((x7_1).toNat * 5)) = some (.int .i64 ((rd_T61 l0 x7_1).f0)) ∧ w'.cell? ⟨(ad226.add ((x7_1).toNat * 5)).block,(ad226.add ((x7_1).toNat * 5)).off + 1,none⟩ = some (.int .i64 ((rd_T61 l0 x7_1).f1)) ∧ w'.cell? ⟨(ad226.add ((x7_1).toNat * 5)).block,(ad226.add ((x7_1).toNat * 5)).off + 2,none⟩ = some (.float .f64 ((rd_T61 l0 x7_1).f2)) ∧ w'.cell? ⟨(ad226.add ((x7_1).toNat * 5)).block,(ad226.add ((x7_1).toNat * 5)).off + 3,none⟩ = some (.float .f64 ((rd_T61 l0 x7_1).f3)) ∧ w'.cell? ⟨(ad226.add ((x7_1).toNat * 5)).block,(ad226.add ((x7_1).toNat * 5)).off + 4,none⟩ = some (.int .i64 ((rd_T61 l0 x7_1).f4))) (ds:=[]) #[F,F,F,F,F,F,F,F,F,F] (by kernel_rfl) rfl rfl ⟨zk K221 0,zk K221 1,zk K221 2,zk K221 3,zk K221 4,(zh HB hw226_0),(zh HB hw226_1),(zh HB hw226_2),(zh HB hw226_3),(zh HB hw226_4)⟩ (fun hHeld => ?_);refine with_tabW beaconref14_put.tab6 beaconref14_put.bits6 (fun HT_ HW_ => ?_)
         generalize wr.drew = w15 at HO_5 K221 HB hx226_0 hx226_1 hx226_2 hx226_3 hx226_4 hHeld ⊢
         refine pz 0 14 #[T,F,F,F,F,F,F,F,F,F] HT_.1 ?_
         refine pz 1 15 #[T,T,F,F,F,F,F,F,F,F] HT_.1 ?_
         refine pz 2 16 #[T,T,T,F,F,F,F,F,F,F] HT_.1 ?_
         refine pz 4 18 #[T,T,T,F,T,F,F,F,F,F] HT_.1 ?_
         refine pz 5 19 #[T,T,T,F,T,T,F,F,F,F] HT_.1 ?_
         refine pz 6 20 #[T,T,T,F,T,T,T,F,F,F] HT_.1 ?_
         refine tz 3 17 #[T,T,T,T,T,T,T,F,F,F] HT_.1 HW_.1 hHeld ?_
         refine tz 7 21 #[T,T,T,T,T,T,T,T,F,F] HT_.1 HW_.1 hHeld ?_
         refine one_ (i:=8) (N:=some 22) #[T,T,T,T,T,T,T,T,T,F] rfl rfl (one_of HT_.out (by kernel_rfl)) (by decide) (fun K hK => ?_)
         refine zo_ Try.func50 #[.agg #[.int .i64 a1_0,.int .i64 a1_1,.float .f64 a1_2,.float .f64 a1_3,.int .i64 a1_4],.agg #[.int .i64 ((rd_T61 l0 x7_1).f0),.int .i64 ((rd_T61 l0 x7_1).f1),.float .f64 ((rd_T61 l0 x7_1).f2),.float .f64 ((rd_T61 l0 x7_1).f3),.int .i64 ((rd_T61 l0 x7_1).f4)]] ?_
         with_reducible refine (beaconref06_Before.calls a1_0 a1_1 a1_2 a1_3 a1_4 ((rd_T61 l0 x7_1).f0) ((rd_T61 l0 x7_1).f1) ((rd_T61 l0 x7_1).f2) ((rd_T61 l0 x7_1).f3) ((rd_T61 l0 x7_1).f4) true _ A11.out).mono ?_
         rintro e w16 ⟨rfl,hb⟩
         refine ⟨_,rfl,?_⟩
         replace HO_5:=zRb HO_5 hb
         replace K221:=zB K221 hb
         replace HB:=zS HB hb
         (try clear hb)
         (try clear hb2)
         (try clear hk)
         (try clear hi)
         refine hK.out _ _ ⟨zk K221 0,zk K221 1,zk K221 2,zk K221 3,zk K221 4,(zh HB hw226_0),(zh HB hw226_1),(zh HB hw226_2),(zh HB hw226_3),(zh HB hw226_4)⟩ (fun hHeld => ?_)
         clear hK K
         refine nz 22 ?_
         refine pz 9 23 #[T,T,T,T,T,T,T,T,T,T] HT_.1 ?_
         refine done_ (done_of HT_.out (by kernel_rfl)) ?_
         obtain ⟨hcz17_0,hcz17_1,hcz17_2,hcz17_3,hcz17_4,hfz17_0,hfz17_1,hfz17_2,hfz17_3,hfz17_4⟩:=zc5 K221
         try go_wp2_with (first|((with_reducible refine gate_builtin (b:=.append) (xs:=#[.tmp 24,.tmp 26]) rfl ?_);at_builtin;refine Kd.R_append k61 (w0:=w) w.heap.size rfl (.tmp 24) (.tmp 26) 30 61 (.agg #[(.int .i64 0),(.int .i64 0),(.float .f64 0),(.float .f64 0),(.int .i64 0)]) 40 rfl Try.underlying30 info61 rfl (by decide) (by omega) u5 x5_1 (⟨a1_0,a1_1,a1_2,a1_3,a1_4⟩ : S61) [.int .i64 a1_0,.int .i64 a1_1,.float .f64 a1_2,.float .f64 a1_3,.int .i64 a1_4] (fun k_ => k_ ≠ G221) (fun _ => False) rfl rfl ?aP (fun _ hk => hk.elim) ?aF ?aO ?aB ?aS ?aL ?_;(case aP => exact k61_mkM _ _ _ (⟨a1_0,a1_1,a1_2,a1_3,a1_4⟩ : S61));(case aB => exact (zH HB));(case aF => exact (fun k_ hk => Kd.freshB (g:=G221) (z1 K221.1) k_ hk));(case aO => exact (zR HO_5));(case aS => exact (zW HB));(case aL => have:=LMc13.out;omega);intro v229 w18 ho hb hg hat;rw [← Ny228.out] at ho;replace K221:=zA (blk_grown (g:=G221) (z1 K221.1) hg (Kd.R_away HO_5.out (fun _ hk => hk)));replace HB:=zA (hb);have HO230:=zA (ho);clear HO_5;clear ho hb hg hat;have p231 : 0 ≤ (x7_1 : Int):=zd;have q231 : x7_1 < (l0.length : Int):=zd;obtain ⟨ad231,e231,hx231_0,hx231_1,hx231_2,hx231_3,hx231_4⟩:=at_T61 HR0.out x7_1 p231 q231;obtain rfl : ad226 = ad231:=(by injection e231);replace hx231_0:=zh HB hx231_0;replace hx231_1:=zh HB hx231_1;replace hx231_2:=zh HB hx231_2;replace hx231_3:=zh HB hx231_3;replace hx231_4:=zh HB hx231_4;replace p231:=eq_true p231;replace q231:=eq_true q231)|((with_reducible refine gate_builtin (b:=.append) (xs:=#[.tmp 28,.tmp 33]) rfl ?_);at_builtin;refine Kd.R_append k61 (w0:=w) w.heap.size rfl (.tmp 28) (.tmp 33) 30 61 (.agg #[(.int .i64 0),(.int .i64 0),(.float .f64 0),(.float .f64 0),(.int .i64 0)]) 40 rfl Try.underlying30 info61 rfl (by decide) (by omega) v229 y228 (⟨(rd_T61 l0 x7_1).f0,(rd_T61 l0 x7_1).f1,(rd_T61 l0 x7_1).f2,(rd_T61 l0 x7_1).f3,(rd_T61 l0 x7_1).f4⟩ : S61) [.int .i64 ((rd_T61 l0 x7_1).f0),.int .i64 ((rd_T61 l0 x7_1).f1),.float .f64 ((rd_T61 l0 x7_1).f2),.float .f64 ((rd_T61 l0 x7_1).f3),.int .i64 ((rd_T61 l0 x7_1).f4)] (fun k_ => k_ ≠ G221) (fun _ => False) rfl rfl ?aP (fun _ hk => hk.elim) ?aF ?aO ?aB ?aS ?aL ?_;(case aP => exact k61_mkM _ _ _ (⟨(rd_T61 l0 x7_1).f0,(rd_T61 l0 x7_1).f1,(rd_T61 l0 x7_1).f2,(rd_T61 l0 x7_1).f3,(rd_T61 l0 x7_1).f4⟩ : S61));(case aB => exact (zH HB));(case aF => exact (fun k_ hk => Kd.freshB (g:=G221) (z1 K221.1) k_ hk));(case aO => exact (zR HO230));(case aS => exact (zW HB));(case aL => have:=LMc14.out;omega);intro v233 w19 ho hb hg hat;rw [← Ny232.out] at ho;replace K221:=zA (blk_grown (g:=G221) (z1 K221.1) hg (Kd.R_away HO230.out (fun _ hk => hk)));replace HB:=zA (hb);have HO234:=zA (ho);clear HO230;clear ho hb hg hat))
         go_roundg k1
         case measure => have:=HK1.out;omega
         case rel => exact ⟨(y232),(true),(wrap64 (x7_1 + 1)),ze,ze,H',⟨by have:=HK1.out;omega⟩,⟨zR HO234⟩,⟨z1 K221.1⟩,⟨zH HB⟩⟩
        ·rw [if_neg c14] at H
         exact absurd H (by simp)
       ·rw [if_neg c13] at H
        exact absurd H (by simp)
      ·replace c12:=Bool.eq_false_iff.mpr c12
       subst c12
       rw [if_neg (show ¬ (false = true) by decide)] at H
       by_cases c20 : x5_1.length < 3518437208883
       ·rw [if_pos c20] at H
        have LMc20:=zA c20
        clear c20
        obtain ⟨y236,hy236⟩ : ∃ y_ : List (S61),y_ = (x5_1 ++ [(⟨(rd_T61 l0 x7_1).f0,(rd_T61 l0 x7_1).f1,(rd_T61 l0 x7_1).f2,(rd_T61 l0 x7_1).f3,(rd_T61 l0 x7_1).f4⟩ : S61)]):=⟨_,rfl⟩
        replace H : (beaconref14_put.l0 k1 l0 y236 false (wrap64 (x7_1 + 1)) a1_0 a1_1 a1_2 a1_3 a1_4) = some r:=by first|(rw [hy236];with_reducible exact H)|(have H2_:=(Option.bind_some _ _).symm.trans H;rw [hy236];with_reducible exact H2_)|(have H2_:=(Option.bind_some _ _).symm.trans H;with_reducible exact H2_)|with_reducible exact H|(rw [hy236];exact H)|exact H
        have Ny236:=zA hy236
        clear hy236
        have H':=zA H
        clear H
        try go_wp2
        replace HO_5:=zA (Kd.R_drew HO_5.out)
        replace K221:=zA (bD K221.1)
        replace HB:=zA (bw1 HB.1)
        have p226 : 0 ≤ (x7_1 : Int):=zd
        have q226 : x7_1 < (l0.length : Int):=zd
        obtain ⟨ad226,e226,hx226_0,hx226_1,hx226_2,hx226_3,hx226_4⟩:=at_T61 HR0.out x7_1 p226 q226
        have hw226_4:=hx226_4
        have hw226_3:=hx226_3
        have hw226_2:=hx226_2
        have hw226_1:=hx226_1
        have hw226_0:=hx226_0
        cases e226
        replace hx226_0:=zh HB hx226_0
        replace hx226_1:=zh HB hx226_1
        replace hx226_2:=zh HB hx226_2
        replace hx226_3:=zh HB hx226_3
        replace hx226_4:=zh HB hx226_4
        replace p226:=eq_true p226
        replace q226:=eq_true q226
        refine start_ (n:=10) (S:=fun w' => w'.cell? ⟨G221,0,none⟩ = some (.int .i64 a1_0) ∧ w'.cell? ⟨G221,1,none⟩ = some (.int .i64 a1_1) ∧ w'.cell? ⟨G221,2,none⟩ = some (.float .f64 a1_2) ∧ w'.cell? ⟨G221,3,none⟩ = some (.float .f64 a1_3) ∧ w'.cell? ⟨G221,4,none⟩ = some (.int .i64 a1_4) ∧ w'.cell? (ad226.add ((x7_1).toNat * 5)) = some (.int .i64 ((rd_T61 l0 x7_1).f0)) ∧ w'.cell? ⟨(ad226.add ((x7_1).toNat * 5)).block,(ad226.add ((x7_1).toNat * 5)).off + 1,none⟩ = some (.int .i64 ((rd_T61 l0 x7_1).f1)) ∧ w'.cell? ⟨(ad226.add ((x7_1).toNat * 5)).block,(ad226.add ((x7_1).toNat * 5)).off + 2,none⟩ = some (.float .f64 ((rd_T61 l0 x7_1).f2)) ∧ w'.cell? ⟨(ad226.add ((x7_1).toNat * 5)).block,(ad226.add ((x7_1).toNat * 5)).off + 3,none⟩ = some (.float .f64 ((rd_T61 l0 x7_1).f3)) ∧ w'.cell? ⟨(ad226.add ((x7_1).toNat * 5)).block,(ad226.add ((x7_1).toNat * 5)).off + 4,none⟩ = some (.int .i64 ((rd_T61 l0 x7_1).f4))) (ds:=[]) #[F,F,F,F,F,F,F,F,F,F] (by kernel_rfl) rfl rfl ⟨zk K221 0,zk K221 1,zk K221 2,zk K221 3,zk K221 4,(zh HB hw226_0),(zh HB hw226_1),(zh HB hw226_2),(zh HB hw226_3),(zh HB hw226_4)⟩ (fun hHeld => ?_);refine with_tabW beaconref14_put.tab6 beaconref14_put.bits6 (fun HT_ HW_ => ?_)
        generalize wr.drew = w21 at HO_5 K221 HB hx226_0 hx226_1 hx226_2 hx226_3 hx226_4 hHeld ⊢
        refine pz 0 14 #[T,F,F,F,F,F,F,F,F,F] HT_.1 ?_
        refine pz 1 15 #[T,T,F,F,F,F,F,F,F,F] HT_.1 ?_
        refine pz 2 16 #[T,T,T,F,F,F,F,F,F,F] HT_.1 ?_
        refine pz 4 18 #[T,T,T,F,T,F,F,F,F,F] HT_.1 ?_
        refine pz 5 19 #[T,T,T,F,T,T,F,F,F,F] HT_.1 ?_
        refine pz 6 20 #[T,T,T,F,T,T,T,F,F,F] HT_.1 ?_
        refine tz 3 17 #[T,T,T,T,T,T,T,F,F,F] HT_.1 HW_.1 hHeld ?_
        refine tz 7 21 #[T,T,T,T,T,T,T,T,F,F] HT_.1 HW_.1 hHeld ?_
        refine one_ (i:=8) (N:=some 22) #[T,T,T,T,T,T,T,T,T,F] rfl rfl (one_of HT_.out (by kernel_rfl)) (by decide) (fun K hK => ?_)
        refine zo_ Try.func50 #[.agg #[.int .i64 a1_0,.int .i64 a1_1,.float .f64 a1_2,.float .f64 a1_3,.int .i64 a1_4],.agg #[.int .i64 ((rd_T61 l0 x7_1).f0),.int .i64 ((rd_T61 l0 x7_1).f1),.float .f64 ((rd_T61 l0 x7_1).f2),.float .f64 ((rd_T61 l0 x7_1).f3),.int .i64 ((rd_T61 l0 x7_1).f4)]] ?_
        with_reducible refine (beaconref06_Before.calls a1_0 a1_1 a1_2 a1_3 a1_4 ((rd_T61 l0 x7_1).f0) ((rd_T61 l0 x7_1).f1) ((rd_T61 l0 x7_1).f2) ((rd_T61 l0 x7_1).f3) ((rd_T61 l0 x7_1).f4) false _ A11.out).mono ?_
        rintro e w22 ⟨rfl,hb⟩
        refine ⟨_,rfl,?_⟩
        replace HO_5:=zRb HO_5 hb
        replace K221:=zB K221 hb
        replace HB:=zS HB hb
        (try clear hb)
        (try clear hb2)
        (try clear hk)
        (try clear hi)
        refine hK.out _ _ ⟨zk K221 0,zk K221 1,zk K221 2,zk K221 3,zk K221 4,(zh HB hw226_0),(zh HB hw226_1),(zh HB hw226_2),(zh HB hw226_3),(zh HB hw226_4)⟩ (fun hHeld => ?_)
        clear hK K
        refine nz 22 ?_
        refine pz 9 23 #[T,T,T,T,T,T,T,T,T,T] HT_.1 ?_
        refine done_ (done_of HT_.out (by kernel_rfl)) ?_
        have p235 : 0 ≤ (x7_1 : Int):=zd
        have q235 : x7_1 < (l0.length : Int):=zd
        obtain ⟨ad235,e235,hx235_0,hx235_1,hx235_2,hx235_3,hx235_4⟩:=at_T61 HR0.out x7_1 p235 q235
        obtain rfl : ad226 = ad235:=(by injection e235)
        replace hx235_0:=zh HB hx235_0
        replace hx235_1:=zh HB hx235_1
        replace hx235_2:=zh HB hx235_2
        replace hx235_3:=zh HB hx235_3
        replace hx235_4:=zh HB hx235_4
        replace p235:=eq_true p235
        replace q235:=eq_true q235
        try go_wp2_with (first|((with_reducible refine gate_builtin (b:=.append) (xs:=#[.tmp 28,.tmp 33]) rfl ?_);at_builtin;refine Kd.R_append k61 (w0:=w) w.heap.size rfl (.tmp 28) (.tmp 33) 30 61 (.agg #[(.int .i64 0),(.int .i64 0),(.float .f64 0),(.float .f64 0),(.int .i64 0)]) 40 rfl Try.underlying30 info61 rfl (by decide) (by omega) u5 x5_1 (⟨(rd_T61 l0 x7_1).f0,(rd_T61 l0 x7_1).f1,(rd_T61 l0 x7_1).f2,(rd_T61 l0 x7_1).f3,(rd_T61 l0 x7_1).f4⟩ : S61) [.int .i64 ((rd_T61 l0 x7_1).f0),.int .i64 ((rd_T61 l0 x7_1).f1),.float .f64 ((rd_T61 l0 x7_1).f2),.float .f64 ((rd_T61 l0 x7_1).f3),.int .i64 ((rd_T61 l0 x7_1).f4)] (fun k_ => k_ ≠ G221) (fun _ => False) rfl rfl ?aP (fun _ hk => hk.elim) ?aF ?aO ?aB ?aS ?aL ?_;(case aP => exact k61_mkM _ _ _ (⟨(rd_T61 l0 x7_1).f0,(rd_T61 l0 x7_1).f1,(rd_T61 l0 x7_1).f2,(rd_T61 l0 x7_1).f3,(rd_T61 l0 x7_1).f4⟩ : S61));(case aB => exact (zH HB));(case aF => exact (fun k_ hk => Kd.freshB (g:=G221) (z1 K221.1) k_ hk));(case aO => exact (zR HO_5));(case aS => exact (zW HB));(case aL => have:=LMc20.out;omega);intro v237 w23 ho hb hg hat;rw [← Ny236.out] at ho;replace K221:=zA (blk_grown (g:=G221) (z1 K221.1) hg (Kd.R_away HO_5.out (fun _ hk => hk)));replace HB:=zA (hb);have HO238:=zA (ho);clear HO_5;clear ho hb hg hat))
        go_roundg k1
        case measure => have:=HK1.out;omega
        case rel => exact ⟨(y236),(false),(wrap64 (x7_1 + 1)),ze,ze,H',⟨by have:=HK1.out;omega⟩,⟨zR HO238⟩,⟨z1 K221.1⟩,⟨zH HB⟩⟩
       ·rw [if_neg c20] at H
        exact absurd H (by simp)
     ·rw [if_neg c10] at H
      exact absurd H (by simp)
   ·rw [if_neg c4] at H
    have c4b0 : decide (x7_1 < (l0.length : Int)) = false:=decide_eq_false c4
    clear c4
    by_cases c24 : x6_1 = true
    ·subst c24
     rw [if_pos rfl] at H
     obtain rfl:=Option.some.inj H
     go_wp2
     go_ret
     exact ⟨_,by first|rfl|(simp [errW_none,errW_some] <;> rfl)|(simp [*,errW_none,errW_some] <;> rfl),by (with_reducible repeat (first|apply Kd.R_alloc|apply Kd.R_drewN|apply Kd.R_drew));exact Kd.R_mono HO_5.out (fun _ hk => trivial),zH HB⟩
    ·replace c24:=Bool.eq_false_iff.mpr c24
     subst c24
     rw [if_neg (show ¬ (false = true) by decide)] at H
     by_cases c25 : x5_1.length < 3518437208883
     ·rw [if_pos c25] at H
      have LMc25:=zA c25
      clear c25
      obtain ⟨y239,hy239⟩ : ∃ y_ : List (S61),y_ = (x5_1 ++ [(⟨a1_0,a1_1,a1_2,a1_3,a1_4⟩ : S61)]):=⟨_,rfl⟩
      replace H : (some y239) = some r:=by first|(rw [hy239];with_reducible exact H)|(have H2_:=(Option.bind_some _ _).symm.trans H;rw [hy239];with_reducible exact H2_)|(have H2_:=(Option.bind_some _ _).symm.trans H;with_reducible exact H2_)|with_reducible exact H|(rw [hy239];exact H)|exact H
      have Ny239:=zA hy239
      clear hy239
      obtain rfl:=Option.some.inj H
      obtain ⟨hcz26_0,hcz26_1,hcz26_2,hcz26_3,hcz26_4,hfz26_0,hfz26_1,hfz26_2,hfz26_3,hfz26_4⟩:=zc5 K221
      go_wp2_with (first|((with_reducible refine gate_builtin (b:=.append) (xs:=#[.tmp 37,.tmp 39]) rfl ?_);at_builtin;refine Kd.R_append k61 (w0:=w) w.heap.size rfl (.tmp 37) (.tmp 39) 30 61 (.agg #[(.int .i64 0),(.int .i64 0),(.float .f64 0),(.float .f64 0),(.int .i64 0)]) 40 rfl Try.underlying30 info61 rfl (by decide) (by omega) u5 x5_1 (⟨a1_0,a1_1,a1_2,a1_3,a1_4⟩ : S61) [.int .i64 a1_0,.int .i64 a1_1,.float .f64 a1_2,.float .f64 a1_3,.int .i64 a1_4] (fun k_ => k_ ≠ G221) (fun _ => False) rfl rfl ?aP (fun _ hk => hk.elim) ?aF ?aO ?aB ?aS ?aL ?_;(case aP => exact k61_mkM _ _ _ (⟨a1_0,a1_1,a1_2,a1_3,a1_4⟩ : S61));(case aB => exact (zH HB));(case aF => exact (fun k_ hk => Kd.freshB (g:=G221) (z1 K221.1) k_ hk));(case aO => exact (zR HO_5));(case aS => exact (zW HB));(case aL => have:=LMc25.out;omega);intro v240 w27 ho hb hg hat;rw [← Ny239.out] at ho;replace K221:=zA (blk_grown (g:=G221) (z1 K221.1) hg (Kd.R_away HO_5.out (fun _ hk => hk)));replace HB:=zA (hb);have HO241:=zA (ho);clear HO_5;clear ho hb hg hat))
      go_ret
      exact ⟨_,by first|rfl|(simp [errW_none,errW_some] <;> rfl)|(simp [*,errW_none,errW_some] <;> rfl),by (with_reducible repeat (first|apply Kd.R_alloc|apply Kd.R_drewN|apply Kd.R_drew));exact Kd.R_mono HO241.out (fun _ hk => trivial),zH HB⟩
     ·rw [if_neg c25] at H
      exact absurd H (by simp)

end Go.Proofs.Ytpcgjdllgdkobaa.XD
