/- Go functions of this seat as Lean functions, with proofs that the calls come to them. (Written by xprint.py, a program of this session, over the kit's print.) -/
import Derived.Test.YtpcgjdllgdkobaaXDx0
import Derived.Test.YtpcgjdllgdkobaaXDx8
import Derived.Test.YtpcgjdllgdkobaaXDx12
import Derived.Test.YtpcgjdllgdkobaaXDx14
import Derived.Test.YtpcgjdllgdkobaaXDx16
import Derived.Test.YtpcgjdllgdkobaaXDx17
import Derived.Test.YtpcgjdllgdkobaaXDx22
namespace Go.Proofs.Ytpcgjdllgdkobaa.XD
open Go.RowKit Go.Proofs.YtpcgjdllgdkobaaW.PrintWords Go.Proofs.YtpcgjdllgdkobaaW.PrintLast Go.Proofs.YtpcgjdllgdkobaaW.PrintMore
attribute [local go_sem] max2_int min2_int max_two min_two max_three min_three max_four min_four   -- for this text's walks alone
set_option linter.unusedVariables false
set_option linter.unusedSimpArgs false
open List renaming setIfInBounds_toArray → xA, set_cons_zero → xB, set_cons_succ → xC
open Go.Proofs.YtpcgjdllgdkobaaW.PrintWords renaming blk_drewN → bN, blk_drew → bD, blk_alloc → bA, below_set → bS, blk_frozen → bF, blk_cell → bC, cell_far → cF, blk_far → bZ, blk_below → bB, pw_below_drewN → bwN, below_drew1 → bw1, below_alloc → bwA
open Go.Proofs.YtpcgjdllgdkobaaW.PrintZ
open Bool renaming true → T,false → F

/-! ### delta_Check: function 22 -/
def delta_Check.f (k : Nat) (a0_0 : Int) (l0_1 : List (S61)) (l0_2 : List (S61)) (a0_3 : Bool) (a0_4 : Int) : Option (Int) := (delta_list.f k l0_1).bind fun t383 => (if a0_3 = true then (if t383 = true then (if a0_0 > 0 then (if (l0_2.length : Int) > 0 then (if (l0_2.length : Int) ≤ 512 then ((delta_told.f k l0_2).bind fun t384 => (if t384 = true then (if a0_4 ≥ 0 then (some 0) else (some 1)) else (some 1))) else (some 1)) else (some 1)) else (some 1)) else (some 1)) else (if t383 = true then (if (l0_2.length : Int) = 0 then (if a0_4 = 0 then (some 0) else (some 1)) else (some 1)) else (some 1)))
theorem delta_Check.mono : ∀ a0 a1 a2 a3 a4 k, LeO (delta_Check.f k a0 a1 a2 a3 a4) (delta_Check.f (k + 1) a0 a1 a2 a3 a4) := by
 intro a0 a1 a2 a3 a4 k
 unfold delta_Check.f
 repeat' first
   | (with_reducible exact delta_list.mono _ _)
   | (with_reducible exact delta_told.mono _ _)
   | (with_reducible exact LeO.refl _)
   | (with_reducible exact LeO.none _)
   | (with_reducible refine LeO.ite ?_ ?_)
   | (with_reducible refine LeO.bind ?_ (fun _ => ?_))
   | exact delta_list.mono _ _
   | exact delta_told.mono _ _
   | exact LeO.none _
   | refine LeO.ite ?_ ?_
   | refine LeO.bind ?_ (fun _ => ?_)
set_option maxHeartbeats 8000000 in
set_option maxRecDepth 100000 in
theorem delta_Check.calls (k : Nat) (a0_0 : Int) (A0_1 : Option Addr) (c0_1 : Nat) (l0_1 : List (S61)) (A0_2 : Option Addr) (c0_2 : Nat) (l0_2 : List (S61)) (a0_3 : Bool) (a0_4 : Int) (r : Int) (w : World) (hr0_1 : Kd.C k61 w A0_1 l0_1.length l0_1) (hc0_1 : l0_1.length ≤ c0_1) (hr0_2 : Kd.C k61 w A0_2 l0_2.length l0_2) (hc0_2 : l0_2.length ≤ c0_2) (h : delta_Check.f k a0_0 l0_1 l0_2 a0_3 a0_4 = some r) :
  Calls Try.prog 22 #[.agg #[.int .u64 a0_0,.slice A0_1 l0_1.length c0_1,.slice A0_2 l0_2.length c0_2,.bool a0_3,.int .i64 a0_4]] w fun e w' => e = .returned (.int .i64 r) ∧ Below w.heap.size w w':=by
 have hu39:=Try.underlying39
 have HR0_1:=zA hr0_1
 have HC0_1:=zA hc0_1
 clear hr0_1 hc0_1
 have HR0_2:=zA hr0_2
 have HC0_2:=zA hc0_2
 clear hr0_2 hc0_2
 have HB:=zA (Below.refl w.heap.size w)
 have H : ((delta_list.f k l0_1).bind fun t383 => (if a0_3 = true then (if t383 = true then (if a0_0 > 0 then (if (l0_2.length : Int) > 0 then (if (l0_2.length : Int) ≤ 512 then ((delta_told.f k l0_2).bind fun t384 => (if t384 = true then (if a0_4 ≥ 0 then (some 0) else (some 1)) else (some 1))) else (some 1)) else (some 1)) else (some 1)) else (some 1)) else (if t383 = true then (if (l0_2.length : Int) = 0 then (if a0_4 = 0 then (some 0) else (some 1)) else (some 1)) else (some 1)))) = some r:=h
 clear h
 replace H:=Option.bind_eq_some_iff.mp H
 obtain ⟨t383,A20,H⟩:=H
 (try dsimp only at H)
 have A2:=zA A20
 clear A20
 by_cases c3 : a0_3 = true
 ·subst c3
  rw [if_pos rfl] at H
  by_cases c4 : t383 = true
  ·subst c4
   rw [if_pos rfl] at H
   by_cases c5 : a0_0 > 0
   ·rw [if_pos c5] at H
    have c5b0 : decide (0 < a0_0) = true:=decide_eq_true c5
    clear c5
    by_cases c6 : (l0_2.length : Int) > 0
    ·rw [if_pos c6] at H
     have c6b0 : decide (0 < (l0_2.length : Int)) = true:=decide_eq_true c6
     have c6b1 : decide (0 < l0_2.length) = true:=decide_eq_true (by omega)
     clear c6
     by_cases c7 : (l0_2.length : Int) ≤ 512
     ·rw [if_pos c7] at H
      have c7b0 : decide ((l0_2.length : Int) ≤ 512) = true:=decide_eq_true c7
      have c7b1 : decide (l0_2.length ≤ 512) = true:=decide_eq_true (by omega)
      clear c7
      replace H:=Option.bind_eq_some_iff.mp H
      obtain ⟨t384,A80,H⟩:=H
      (try dsimp only at H)
      have A8:=zA A80
      clear A80
      by_cases c9 : t384 = true
      ·subst c9
       rw [if_pos rfl] at H
       by_cases c10 : a0_4 ≥ 0
       ·rw [if_pos c10] at H
        have c10b0 : decide (0 ≤ a0_4) = true:=decide_eq_true c10
        clear c10
        obtain rfl:=Option.some.inj H
        go_enter Try.func22,Try.ntmps22
        go_wp2_with (first|((with_reducible refine gate_dst (N:=1) rfl ?_);(try (refine gate_guard (by rfl) ?_;dsimp only));refine zb (N:=1) (cs:=#[.int .u64 a0_0,.slice A0_1 l0_1.length c0_1,.slice A0_2 l0_2.length c0_2,.bool true,.int .i64 a0_4]) (t:=39) ?_;intro G382 hg w11 hbox hb;have K382:=zA (hbox);have GW382:=zN HB hg;have GE382:=zN HB hg;replace HB:=zS HB hb;clear hb hbox hg;obtain ⟨hcz12_0,hcz12_1,hcz12_2,hcz12_3,hcz12_4,hfz12_0,hfz12_1,hfz12_2,hfz12_3,hfz12_4⟩:=zc5 K382)|((with_reducible refine gate_callee (f:=30) rfl ?_);refine zg (some 6) Try.func30 #[.slice A0_1 l0_1.length c0_1] ?_;(with_reducible refine (delta_list.calls k _ _ l0_1 true _ ?side1 ?side2 A2.out).mono ?_);(case side1 => exact zC (Kd.C_below HR0_1.out HB.1));(case side2 => exact HC0_1.out);rintro e w13 ⟨rfl,hb⟩;refine ⟨_,rfl,?_⟩;replace K382:=zB K382 hb;replace HB:=zS HB hb;(try clear hb);obtain ⟨hcz14_0,hcz14_1,hcz14_2,hcz14_3,hcz14_4,hfz14_0,hfz14_1,hfz14_2,hfz14_3,hfz14_4⟩:=zc5 K382)|(go_at_call 33;(with_reducible refine (delta_told.calls k _ _ l0_2 true _ ?side1 ?side2 A8.out).mono ?_);(case side1 => exact zC (Kd.C_below HR0_2.out HB.1));(case side2 => exact HC0_2.out);rintro e w15 ⟨rfl,hb⟩;replace K382:=zB K382 hb;replace HB:=zS HB hb;(try clear hb);obtain ⟨hcz16_0,hcz16_1,hcz16_2,hcz16_3,hcz16_4,hfz16_0,hfz16_1,hfz16_2,hfz16_3,hfz16_4⟩:=zc5 K382))
        go_ret
        exact ⟨zE,zH HB⟩
       ·rw [if_neg c10] at H
        have c10b0 : decide (0 ≤ a0_4) = false:=decide_eq_false c10
        clear c10
        obtain rfl:=Option.some.inj H
        go_enter Try.func22,Try.ntmps22
        go_wp2_with (first|((with_reducible refine gate_dst (N:=1) rfl ?_);(try (refine gate_guard (by rfl) ?_;dsimp only));refine zb (N:=1) (cs:=#[.int .u64 a0_0,.slice A0_1 l0_1.length c0_1,.slice A0_2 l0_2.length c0_2,.bool true,.int .i64 a0_4]) (t:=39) ?_;intro G382 hg w17 hbox hb;have K382:=zA (hbox);have GW382:=zN HB hg;have GE382:=zN HB hg;replace HB:=zS HB hb;clear hb hbox hg;obtain ⟨hcz18_0,hcz18_1,hcz18_2,hcz18_3,hcz18_4,hfz18_0,hfz18_1,hfz18_2,hfz18_3,hfz18_4⟩:=zc5 K382)|((with_reducible refine gate_callee (f:=30) rfl ?_);refine zg (some 6) Try.func30 #[.slice A0_1 l0_1.length c0_1] ?_;(with_reducible refine (delta_list.calls k _ _ l0_1 true _ ?side1 ?side2 A2.out).mono ?_);(case side1 => exact zC (Kd.C_below HR0_1.out HB.1));(case side2 => exact HC0_1.out);rintro e w19 ⟨rfl,hb⟩;refine ⟨_,rfl,?_⟩;replace K382:=zB K382 hb;replace HB:=zS HB hb;(try clear hb);obtain ⟨hcz20_0,hcz20_1,hcz20_2,hcz20_3,hcz20_4,hfz20_0,hfz20_1,hfz20_2,hfz20_3,hfz20_4⟩:=zc5 K382)|(go_at_call 33;(with_reducible refine (delta_told.calls k _ _ l0_2 true _ ?side1 ?side2 A8.out).mono ?_);(case side1 => exact zC (Kd.C_below HR0_2.out HB.1));(case side2 => exact HC0_2.out);rintro e w21 ⟨rfl,hb⟩;replace K382:=zB K382 hb;replace HB:=zS HB hb;(try clear hb);obtain ⟨hcz22_0,hcz22_1,hcz22_2,hcz22_3,hcz22_4,hfz22_0,hfz22_1,hfz22_2,hfz22_3,hfz22_4⟩:=zc5 K382))
        go_ret
        exact ⟨zE,zH HB⟩
      ·replace c9:=Bool.eq_false_iff.mpr c9
       subst c9
       rw [if_neg (show ¬ (false = true) by decide)] at H
       obtain rfl:=Option.some.inj H
       go_enter Try.func22,Try.ntmps22
       go_wp2_with (first|((with_reducible refine gate_dst (N:=1) rfl ?_);(try (refine gate_guard (by rfl) ?_;dsimp only));refine zb (N:=1) (cs:=#[.int .u64 a0_0,.slice A0_1 l0_1.length c0_1,.slice A0_2 l0_2.length c0_2,.bool true,.int .i64 a0_4]) (t:=39) ?_;intro G382 hg w23 hbox hb;have K382:=zA (hbox);have GW382:=zN HB hg;have GE382:=zN HB hg;replace HB:=zS HB hb;clear hb hbox hg;obtain ⟨hcz24_0,hcz24_1,hcz24_2,hcz24_3,hcz24_4,hfz24_0,hfz24_1,hfz24_2,hfz24_3,hfz24_4⟩:=zc5 K382)|((with_reducible refine gate_callee (f:=30) rfl ?_);refine zg (some 6) Try.func30 #[.slice A0_1 l0_1.length c0_1] ?_;(with_reducible refine (delta_list.calls k _ _ l0_1 true _ ?side1 ?side2 A2.out).mono ?_);(case side1 => exact zC (Kd.C_below HR0_1.out HB.1));(case side2 => exact HC0_1.out);rintro e w25 ⟨rfl,hb⟩;refine ⟨_,rfl,?_⟩;replace K382:=zB K382 hb;replace HB:=zS HB hb;(try clear hb);obtain ⟨hcz26_0,hcz26_1,hcz26_2,hcz26_3,hcz26_4,hfz26_0,hfz26_1,hfz26_2,hfz26_3,hfz26_4⟩:=zc5 K382)|(go_at_call 33;(with_reducible refine (delta_told.calls k _ _ l0_2 false _ ?side1 ?side2 A8.out).mono ?_);(case side1 => exact zC (Kd.C_below HR0_2.out HB.1));(case side2 => exact HC0_2.out);rintro e w27 ⟨rfl,hb⟩;replace K382:=zB K382 hb;replace HB:=zS HB hb;(try clear hb)))
       go_ret
       exact ⟨zE,zH HB⟩
     ·rw [if_neg c7] at H
      have c7b0 : decide ((l0_2.length : Int) ≤ 512) = false:=decide_eq_false c7
      have c7b1 : decide (l0_2.length ≤ 512) = false:=decide_eq_false (by omega)
      clear c7
      obtain rfl:=Option.some.inj H
      go_enter Try.func22,Try.ntmps22
      go_wp2_with (first|((with_reducible refine gate_dst (N:=1) rfl ?_);(try (refine gate_guard (by rfl) ?_;dsimp only));refine zb (N:=1) (cs:=#[.int .u64 a0_0,.slice A0_1 l0_1.length c0_1,.slice A0_2 l0_2.length c0_2,.bool true,.int .i64 a0_4]) (t:=39) ?_;intro G382 hg w28 hbox hb;have K382:=zA (hbox);have GW382:=zN HB hg;have GE382:=zN HB hg;replace HB:=zS HB hb;clear hb hbox hg;obtain ⟨hcz29_0,hcz29_1,hcz29_2,hcz29_3,hcz29_4,hfz29_0,hfz29_1,hfz29_2,hfz29_3,hfz29_4⟩:=zc5 K382)|((with_reducible refine gate_callee (f:=30) rfl ?_);refine zg (some 6) Try.func30 #[.slice A0_1 l0_1.length c0_1] ?_;(with_reducible refine (delta_list.calls k _ _ l0_1 true _ ?side1 ?side2 A2.out).mono ?_);(case side1 => exact zC (Kd.C_below HR0_1.out HB.1));(case side2 => exact HC0_1.out);rintro e w30 ⟨rfl,hb⟩;refine ⟨_,rfl,?_⟩;replace K382:=zB K382 hb;replace HB:=zS HB hb;(try clear hb);obtain ⟨hcz31_0,hcz31_1,hcz31_2,hcz31_3,hcz31_4,hfz31_0,hfz31_1,hfz31_2,hfz31_3,hfz31_4⟩:=zc5 K382))
      go_ret
      exact ⟨zE,zH HB⟩
    ·rw [if_neg c6] at H
     have c6b0 : decide (0 < (l0_2.length : Int)) = false:=decide_eq_false c6
     have c6b1 : decide (0 < l0_2.length) = false:=decide_eq_false (by omega)
     clear c6
     obtain rfl:=Option.some.inj H
     go_enter Try.func22,Try.ntmps22
     go_wp2_with (first|((with_reducible refine gate_dst (N:=1) rfl ?_);(try (refine gate_guard (by rfl) ?_;dsimp only));refine zb (N:=1) (cs:=#[.int .u64 a0_0,.slice A0_1 l0_1.length c0_1,.slice A0_2 l0_2.length c0_2,.bool true,.int .i64 a0_4]) (t:=39) ?_;intro G382 hg w32 hbox hb;have K382:=zA (hbox);have GW382:=zN HB hg;have GE382:=zN HB hg;replace HB:=zS HB hb;clear hb hbox hg;obtain ⟨hcz33_0,hcz33_1,hcz33_2,hcz33_3,hcz33_4,hfz33_0,hfz33_1,hfz33_2,hfz33_3,hfz33_4⟩:=zc5 K382)|((with_reducible refine gate_callee (f:=30) rfl ?_);refine zg (some 6) Try.func30 #[.slice A0_1 l0_1.length c0_1] ?_;(with_reducible refine (delta_list.calls k _ _ l0_1 true _ ?side1 ?side2 A2.out).mono ?_);(case side1 => exact zC (Kd.C_below HR0_1.out HB.1));(case side2 => exact HC0_1.out);rintro e w34 ⟨rfl,hb⟩;refine ⟨_,rfl,?_⟩;replace K382:=zB K382 hb;replace HB:=zS HB hb;(try clear hb);obtain ⟨hcz35_0,hcz35_1,hcz35_2,hcz35_3,hcz35_4,hfz35_0,hfz35_1,hfz35_2,hfz35_3,hfz35_4⟩:=zc5 K382))
     go_ret
     exact ⟨zE,zH HB⟩
   ·rw [if_neg c5] at H
    have c5b0 : decide (0 < a0_0) = false:=decide_eq_false c5
    clear c5
    obtain rfl:=Option.some.inj H
    go_enter Try.func22,Try.ntmps22
    go_wp2_with (first|((with_reducible refine gate_dst (N:=1) rfl ?_);(try (refine gate_guard (by rfl) ?_;dsimp only));refine zb (N:=1) (cs:=#[.int .u64 a0_0,.slice A0_1 l0_1.length c0_1,.slice A0_2 l0_2.length c0_2,.bool true,.int .i64 a0_4]) (t:=39) ?_;intro G382 hg w36 hbox hb;have K382:=zA (hbox);have GW382:=zN HB hg;have GE382:=zN HB hg;replace HB:=zS HB hb;clear hb hbox hg;obtain ⟨hcz37_0,hcz37_1,hcz37_2,hcz37_3,hcz37_4,hfz37_0,hfz37_1,hfz37_2,hfz37_3,hfz37_4⟩:=zc5 K382)|((with_reducible refine gate_callee (f:=30) rfl ?_);refine zg (some 6) Try.func30 #[.slice A0_1 l0_1.length c0_1] ?_;(with_reducible refine (delta_list.calls k _ _ l0_1 true _ ?side1 ?side2 A2.out).mono ?_);(case side1 => exact zC (Kd.C_below HR0_1.out HB.1));(case side2 => exact HC0_1.out);rintro e w38 ⟨rfl,hb⟩;refine ⟨_,rfl,?_⟩;replace K382:=zB K382 hb;replace HB:=zS HB hb;(try clear hb);obtain ⟨hcz39_0,hcz39_1,hcz39_2,hcz39_3,hcz39_4,hfz39_0,hfz39_1,hfz39_2,hfz39_3,hfz39_4⟩:=zc5 K382))
    go_ret
    exact ⟨zE,zH HB⟩
  ·replace c4:=Bool.eq_false_iff.mpr c4
   subst c4
   rw [if_neg (show ¬ (false = true) by decide)] at H
   obtain rfl:=Option.some.inj H
   go_enter Try.func22,Try.ntmps22
   go_wp2_with (first|((with_reducible refine gate_dst (N:=1) rfl ?_);(try (refine gate_guard (by rfl) ?_;dsimp only));refine zb (N:=1) (cs:=#[.int .u64 a0_0,.slice A0_1 l0_1.length c0_1,.slice A0_2 l0_2.length c0_2,.bool true,.int .i64 a0_4]) (t:=39) ?_;intro G382 hg w40 hbox hb;have K382:=zA (hbox);have GW382:=zN HB hg;have GE382:=zN HB hg;replace HB:=zS HB hb;clear hb hbox hg;obtain ⟨hcz41_0,hcz41_1,hcz41_2,hcz41_3,hcz41_4,hfz41_0,hfz41_1,hfz41_2,hfz41_3,hfz41_4⟩:=zc5 K382)|((with_reducible refine gate_callee (f:=30) rfl ?_);refine zg (some 6) Try.func30 #[.slice A0_1 l0_1.length c0_1] ?_;(with_reducible refine (delta_list.calls k _ _ l0_1 false _ ?side1 ?side2 A2.out).mono ?_);(case side1 => exact zC (Kd.C_below HR0_1.out HB.1));(case side2 => exact HC0_1.out);rintro e w42 ⟨rfl,hb⟩;refine ⟨_,rfl,?_⟩;replace K382:=zB K382 hb;replace HB:=zS HB hb;(try clear hb);obtain ⟨hcz43_0,hcz43_1,hcz43_2,hcz43_3,hcz43_4,hfz43_0,hfz43_1,hfz43_2,hfz43_3,hfz43_4⟩:=zc5 K382))
   go_ret
   exact ⟨zE,zH HB⟩
 ·replace c3:=Bool.eq_false_iff.mpr c3
  subst c3
  rw [if_neg (show ¬ (false = true) by decide)] at H
  by_cases c44 : t383 = true
  ·subst c44
   rw [if_pos rfl] at H
   by_cases c45 : (l0_2.length : Int) = 0
   ·rw [if_pos c45] at H
    have c45b0 : ((l0_2.length : Int) == 0) = true:=beq_iff_eq.mpr c45
    have c45b1 : ((l0_2.length : Int) != 0) = false:=bne_eq_false_iff_eq.mpr c45
    clear c45
    by_cases c46 : a0_4 = 0
    ·rw [if_pos c46] at H
     have c46b0 : (a0_4 == 0) = true:=beq_iff_eq.mpr c46
     have c46b1 : (a0_4 != 0) = false:=bne_eq_false_iff_eq.mpr c46
     clear c46
     obtain rfl:=Option.some.inj H
     go_enter Try.func22,Try.ntmps22
     go_wp2_with (first|((with_reducible refine gate_dst (N:=1) rfl ?_);(try (refine gate_guard (by rfl) ?_;dsimp only));refine zb (N:=1) (cs:=#[.int .u64 a0_0,.slice A0_1 l0_1.length c0_1,.slice A0_2 l0_2.length c0_2,.bool false,.int .i64 a0_4]) (t:=39) ?_;intro G382 hg w47 hbox hb;have K382:=zA (hbox);have GW382:=zN HB hg;have GE382:=zN HB hg;replace HB:=zS HB hb;clear hb hbox hg;obtain ⟨hcz48_0,hcz48_1,hcz48_2,hcz48_3,hcz48_4,hfz48_0,hfz48_1,hfz48_2,hfz48_3,hfz48_4⟩:=zc5 K382)|((with_reducible refine gate_callee (f:=30) rfl ?_);refine zg (some 6) Try.func30 #[.slice A0_1 l0_1.length c0_1] ?_;(with_reducible refine (delta_list.calls k _ _ l0_1 true _ ?side1 ?side2 A2.out).mono ?_);(case side1 => exact zC (Kd.C_below HR0_1.out HB.1));(case side2 => exact HC0_1.out);rintro e w49 ⟨rfl,hb⟩;refine ⟨_,rfl,?_⟩;replace K382:=zB K382 hb;replace HB:=zS HB hb;(try clear hb);obtain ⟨hcz50_0,hcz50_1,hcz50_2,hcz50_3,hcz50_4,hfz50_0,hfz50_1,hfz50_2,hfz50_3,hfz50_4⟩:=zc5 K382))
     go_ret
     exact ⟨zE,zH HB⟩
    ·rw [if_neg c46] at H
     have c46b0 : (a0_4 == 0) = false:=beq_eq_false_iff_ne.mpr c46
     have c46b1 : (a0_4 != 0) = true:=bne_iff_ne.mpr c46
     obtain rfl:=Option.some.inj H
     go_enter Try.func22,Try.ntmps22
     go_wp2_with (first|((with_reducible refine gate_dst (N:=1) rfl ?_);(try (refine gate_guard (by rfl) ?_;dsimp only));refine zb (N:=1) (cs:=#[.int .u64 a0_0,.slice A0_1 l0_1.length c0_1,.slice A0_2 l0_2.length c0_2,.bool false,.int .i64 a0_4]) (t:=39) ?_;intro G382 hg w51 hbox hb;have K382:=zA (hbox);have GW382:=zN HB hg;have GE382:=zN HB hg;replace HB:=zS HB hb;clear hb hbox hg;obtain ⟨hcz52_0,hcz52_1,hcz52_2,hcz52_3,hcz52_4,hfz52_0,hfz52_1,hfz52_2,hfz52_3,hfz52_4⟩:=zc5 K382)|((with_reducible refine gate_callee (f:=30) rfl ?_);refine zg (some 6) Try.func30 #[.slice A0_1 l0_1.length c0_1] ?_;(with_reducible refine (delta_list.calls k _ _ l0_1 true _ ?side1 ?side2 A2.out).mono ?_);(case side1 => exact zC (Kd.C_below HR0_1.out HB.1));(case side2 => exact HC0_1.out);rintro e w53 ⟨rfl,hb⟩;refine ⟨_,rfl,?_⟩;replace K382:=zB K382 hb;replace HB:=zS HB hb;(try clear hb);obtain ⟨hcz54_0,hcz54_1,hcz54_2,hcz54_3,hcz54_4,hfz54_0,hfz54_1,hfz54_2,hfz54_3,hfz54_4⟩:=zc5 K382))
     go_ret
     exact ⟨zE,zH HB⟩
   ·rw [if_neg c45] at H
    have c45b0 : ((l0_2.length : Int) == 0) = false:=beq_eq_false_iff_ne.mpr c45
    have c45b1 : ((l0_2.length : Int) != 0) = true:=bne_iff_ne.mpr c45
    have c45b2 : ¬ (l0_2 = []):=fun h_ => c45 (by rw [h_];rfl)
    obtain rfl:=Option.some.inj H
    go_enter Try.func22,Try.ntmps22
    go_wp2_with (first|((with_reducible refine gate_dst (N:=1) rfl ?_);(try (refine gate_guard (by rfl) ?_;dsimp only));refine zb (N:=1) (cs:=#[.int .u64 a0_0,.slice A0_1 l0_1.length c0_1,.slice A0_2 l0_2.length c0_2,.bool false,.int .i64 a0_4]) (t:=39) ?_;intro G382 hg w55 hbox hb;have K382:=zA (hbox);have GW382:=zN HB hg;have GE382:=zN HB hg;replace HB:=zS HB hb;clear hb hbox hg;obtain ⟨hcz56_0,hcz56_1,hcz56_2,hcz56_3,hcz56_4,hfz56_0,hfz56_1,hfz56_2,hfz56_3,hfz56_4⟩:=zc5 K382)|((with_reducible refine gate_callee (f:=30) rfl ?_);refine zg (some 6) Try.func30 #[.slice A0_1 l0_1.length c0_1] ?_;(with_reducible refine (delta_list.calls k _ _ l0_1 true _ ?side1 ?side2 A2.out).mono ?_);(case side1 => exact zC (Kd.C_below HR0_1.out HB.1));(case side2 => exact HC0_1.out);rintro e w57 ⟨rfl,hb⟩;refine ⟨_,rfl,?_⟩;replace K382:=zB K382 hb;replace HB:=zS HB hb;(try clear hb);obtain ⟨hcz58_0,hcz58_1,hcz58_2,hcz58_3,hcz58_4,hfz58_0,hfz58_1,hfz58_2,hfz58_3,hfz58_4⟩:=zc5 K382))
    go_ret
    exact ⟨zE,zH HB⟩
  ·replace c44:=Bool.eq_false_iff.mpr c44
   subst c44
   rw [if_neg (show ¬ (false = true) by decide)] at H
   obtain rfl:=Option.some.inj H
   go_enter Try.func22,Try.ntmps22
   go_wp2_with (first|((with_reducible refine gate_dst (N:=1) rfl ?_);(try (refine gate_guard (by rfl) ?_;dsimp only));refine zb (N:=1) (cs:=#[.int .u64 a0_0,.slice A0_1 l0_1.length c0_1,.slice A0_2 l0_2.length c0_2,.bool false,.int .i64 a0_4]) (t:=39) ?_;intro G382 hg w59 hbox hb;have K382:=zA (hbox);have GW382:=zN HB hg;have GE382:=zN HB hg;replace HB:=zS HB hb;clear hb hbox hg;obtain ⟨hcz60_0,hcz60_1,hcz60_2,hcz60_3,hcz60_4,hfz60_0,hfz60_1,hfz60_2,hfz60_3,hfz60_4⟩:=zc5 K382)|((with_reducible refine gate_callee (f:=30) rfl ?_);refine zg (some 6) Try.func30 #[.slice A0_1 l0_1.length c0_1] ?_;(with_reducible refine (delta_list.calls k _ _ l0_1 false _ ?side1 ?side2 A2.out).mono ?_);(case side1 => exact zC (Kd.C_below HR0_1.out HB.1));(case side2 => exact HC0_1.out);rintro e w61 ⟨rfl,hb⟩;refine ⟨_,rfl,?_⟩;replace K382:=zB K382 hb;replace HB:=zS HB hb;(try clear hb);obtain ⟨hcz62_0,hcz62_1,hcz62_2,hcz62_3,hcz62_4,hfz62_0,hfz62_1,hfz62_2,hfz62_3,hfz62_4⟩:=zc5 K382))
   go_ret
   exact ⟨zE,zH HB⟩

end Go.Proofs.Ytpcgjdllgdkobaa.XD
