/- Go functions of this seat as Lean functions, with proofs that the calls come to them. (Written by xprint.py, a program of this session, over the kit's print.) -/
import Derived.Test.YtpcgjdllgdkobaaXAx0
import Derived.Test.YtpcgjdllgdkobaaXAx7
namespace Go.Proofs.Ytpcgjdllgdkobaa.XA
open Go.RowKit Go.Proofs.YtpcgjdllgdkobaaW.PrintWords Go.Proofs.YtpcgjdllgdkobaaW.PrintLast Go.Proofs.YtpcgjdllgdkobaaW.PrintMore
attribute [local go_sem] max2_int min2_int max_two min_two max_three min_three max_four min_four   -- for this text's walks alone
set_option linter.unusedVariables false
set_option linter.unusedSimpArgs false
open List renaming setIfInBounds_toArray → xA, set_cons_zero → xB, set_cons_succ → xC
open Go.Proofs.YtpcgjdllgdkobaaW.PrintWords renaming blk_drewN → bN, blk_drew → bD, blk_alloc → bA, below_set → bS, blk_frozen → bF, blk_cell → bC, cell_far → cF, blk_far → bZ, blk_below → bB, pw_below_drewN → bwN, below_drew1 → bw1, below_alloc → bwA
open Go.Proofs.YtpcgjdllgdkobaaW.PrintZ
open Bool renaming true → T,false → F

/-! ### delta_Check: function 22 -/
def delta_Check.f (k : Nat) (a0_0 : Int) (l0_1 : List (S61)) (l0_2 : List (S61)) (a0_3 : Bool) (a0_4 : Int) : Option (Int) := (delta_list.f k l0_1).bind fun t245 => (if a0_3 = true then (if t245 = true then (if a0_0 > 0 then (if (l0_2.length : Int) > 0 then (if (l0_2.length : Int) ≤ 512 then ((delta_told.f k l0_2).bind fun t246 => (if t246 = true then (if a0_4 ≥ 0 then (some 0) else (some 1)) else (some 1))) else (some 1)) else (some 1)) else (some 1)) else (some 1)) else (if t245 = true then (if (l0_2.length : Int) = 0 then (if a0_4 = 0 then (some 0) else (some 1)) else (some 1)) else (some 1)))
theorem delta_Check.mono : ∀ a0 a1 a2 a3 a4 k, LeO (delta_Check.f k a0 a1 a2 a3 a4) (delta_Check.f (k + 1) a0 a1 a2 a3 a4) := by
 intro a0 a1 a2 a3 a4 k
 unfold delta_Check.f
 repeat' first
   | (with_reducible exact delta_list.mono _ _)
   | (with_reducible exact delta_told.mono _ _)
   | (with_reducible exact LeO.refl _)
   | (with_reducible exact LeO.none _)
   | (with_reducible refine LeO.ite ?_ ?_)
   | (with_reducible refine LeO.bind ?_ (fun _ => ?_))
   | exact delta_list.mono _ _
   | exact delta_told.mono _ _
   | exact LeO.none _
   | refine LeO.ite ?_ ?_
   | refine LeO.bind ?_ (fun _ => ?_)
set_option maxHeartbeats 8000000 in
set_option maxRecDepth 100000 in
theorem delta_Check.calls (k : Nat) (a0_0 : Int) (A0_1 : Option Addr) (c0_1 : Nat) (l0_1 : List (S61)) (A0_2 : Option Addr) (c0_2 : Nat) (l0_2 : List (S61)) (a0_3 : Bool) (a0_4 : Int) (r : Int) (w : World) (hr0_1 : Kd.C k61 w A0_1 l0_1.length l0_1) (hc0_1 : l0_1.length ≤ c0_1) (hr0_2 : Kd.C k61 w A0_2 l0_2.length l0_2) (hc0_2 : l0_2.length ≤ c0_2) (h : delta_Check.f k a0_0 l0_1 l0_2 a0_3 a0_4 = some r) :
  Calls Try.prog 22 #[.agg #[.int .u64 a0_0,.slice A0_1 l0_1.length c0_1,.slice A0_2 l0_2.length c0_2,.bool a0_3,.int .i64 a0_4]] w fun e w' => e = .returned (.int .i64 r) ∧ Below w.heap.size w w':=by
 have hu39:=Try.underlying39;have HR0_1:=zA hr0_1;have HC0_1:=zA hc0_1;clear hr0_1 hc0_1;have HR0_2:=zA hr0_2;have HC0_2:=zA hc0_2;clear hr0_2 hc0_2;have HB:=zA (Below.refl w.heap.size w);have H : ((delta_list.f k l0_1).bind fun t245 => (if a0_3 = true then (if t245 = true then (if a0_0 > 0 then (if (l0_2.length : Int) > 0 then (if (l0_2.length : Int) ≤ 512 then ((delta_told.f k l0_2).bind fun t246 => (if t246 = true then (if a0_4 ≥ 0 then (some 0) else (some 1)) else (some 1))) else (some 1)) else (some 1)) else (some 1)) else (some 1)) else (if t245 = true then (if (l0_2.length : Int) = 0 then (if a0_4 = 0 then (some 0) else (some 1)) else (some 1)) else (some 1)))) = some r:=h;clear h;replace H:=Option.bind_eq_some_iff.mp H;obtain ⟨t245,A20,H⟩:=H;(try dsimp only at H);have A2:=zA A20;clear A20;by_cases c3 : a0_3 = true
 ·subst c3;rw [if_pos rfl] at H;by_cases c4 : t245 = true
  ·subst c4;rw [if_pos rfl] at H;by_cases c5 : a0_0 > 0
   ·rw [if_pos c5] at H;have c5b0 : decide (0 < a0_0) = true:=decide_eq_true c5;clear c5;by_cases c6 : (l0_2.length : Int) > 0
    ·rw [if_pos c6] at H;have c6b0 : decide (0 < (l0_2.length : Int)) = true:=decide_eq_true c6;have c6b1 : decide (0 < l0_2.length) = true:=decide_eq_true (by omega);clear c6;by_cases c7 : (l0_2.length : Int) ≤ 512
     ·rw [if_pos c7] at H;have c7b0 : decide ((l0_2.length : Int) ≤ 512) = true:=decide_eq_true c7;have c7b1 : decide (l0_2.length ≤ 512) = true:=decide_eq_true (by omega);clear c7;replace H:=Option.bind_eq_some_iff.mp H;obtain ⟨t246,A80,H⟩:=H;(try dsimp only at H);have A8:=zA A80;clear A80;by_cases c9 : t246 = true
      ·subst c9;rw [if_pos rfl] at H;by_cases c10 : a0_4 ≥ 0
       ·rw [if_pos c10] at H;have c10b0 : decide (0 ≤ a0_4) = true:=decide_eq_true c10;clear c10;obtain rfl:=Option.some.inj H;go_enter Try.func22,Try.ntmps22
        go_wp2_with (first|((with_reducible refine gate_dst (N:=1) rfl ?_);(try (refine gate_guard (by rfl) ?_;dsimp only));refine zb (N:=1) (cs:=#[.int .u64 a0_0,.slice A0_1 l0_1.length c0_1,.slice A0_2 l0_2.length c0_2,.bool true,.int .i64 a0_4]) (t:=39) ?_;intro G244 hg w11 hbox hb;have K244:=zA (hbox);have GW244:=zN HB hg;have GE244:=zN HB hg;replace HB:=zS HB hb;clear hb hbox hg;obtain ⟨_,_,_,_,_,_,_,_,_,_⟩:=zc5 K244)|((with_reducible refine gate_callee (f:=30) rfl ?_);refine zg (some 6) Try.func30 #[.slice A0_1 l0_1.length c0_1] ?_;(with_reducible refine (delta_list.calls k _ _ l0_1 true _ ?side1 ?side2 A2.out).mono ?_);(case side1 => exact zC (Kd.C_below HR0_1.out HB.1));(case side2 => exact HC0_1.out);rintro e w13 ⟨rfl,hb⟩;refine ⟨_,rfl,?_⟩;replace K244:=zB K244 hb;replace HB:=zS HB hb;(try clear hb);obtain ⟨_,_,_,_,_,_,_,_,_,_⟩:=zc5 K244)|(go_at_call 33;(with_reducible refine (delta_told.calls k _ _ l0_2 true _ ?side1 ?side2 A8.out).mono ?_);(case side1 => exact zC (Kd.C_below HR0_2.out HB.1));(case side2 => exact HC0_2.out);rintro e w15 ⟨rfl,hb⟩;replace K244:=zB K244 hb;replace HB:=zS HB hb;(try clear hb);obtain ⟨_,_,_,_,_,_,_,_,_,_⟩:=zc5 K244))
        go_ret
        exact ⟨zE,zH HB⟩
       ·rw [if_neg c10] at H;have c10b0 : decide (0 ≤ a0_4) = false:=decide_eq_false c10;clear c10;obtain rfl:=Option.some.inj H;go_enter Try.func22,Try.ntmps22
        go_wp2_with (first|((with_reducible refine gate_dst (N:=1) rfl ?_);(try (refine gate_guard (by rfl) ?_;dsimp only));refine zb (N:=1) (cs:=#[.int .u64 a0_0,.slice A0_1 l0_1.length c0_1,.slice A0_2 l0_2.length c0_2,.bool true,.int .i64 a0_4]) (t:=39) ?_;intro G244 hg w17 hbox hb;have K244:=zA (hbox);have GW244:=zN HB hg;have GE244:=zN HB hg;replace HB:=zS HB hb;clear hb hbox hg;obtain ⟨_,_,_,_,_,_,_,_,_,_⟩:=zc5 K244)|((with_reducible refine gate_callee (f:=30) rfl ?_);refine zg (some 6) Try.func30 #[.slice A0_1 l0_1.length c0_1] ?_;(with_reducible refine (delta_list.calls k _ _ l0_1 true _ ?side1 ?side2 A2.out).mono ?_);(case side1 => exact zC (Kd.C_below HR0_1.out HB.1));(case side2 => exact HC0_1.out);rintro e w19 ⟨rfl,hb⟩;refine ⟨_,rfl,?_⟩;replace K244:=zB K244 hb;replace HB:=zS HB hb;(try clear hb);obtain ⟨_,_,_,_,_,_,_,_,_,_⟩:=zc5 K244)|(go_at_call 33;(with_reducible refine (delta_told.calls k _ _ l0_2 true _ ?side1 ?side2 A8.out).mono ?_);(case side1 => exact zC (Kd.C_below HR0_2.out HB.1));(case side2 => exact HC0_2.out);rintro e w21 ⟨rfl,hb⟩;replace K244:=zB K244 hb;replace HB:=zS HB hb;(try clear hb);obtain ⟨_,_,_,_,_,_,_,_,_,_⟩:=zc5 K244))
        go_ret
        exact ⟨zE,zH HB⟩
      ·replace c9:=Bool.eq_false_iff.mpr c9;subst c9;rw [if_neg (show ¬ (false = true) by decide)] at H;obtain rfl:=Option.some.inj H;go_enter Try.func22,Try.ntmps22
       go_wp2_with (first|((with_reducible refine gate_dst (N:=1) rfl ?_);(try (refine gate_guard (by rfl) ?_;dsimp only));refine zb (N:=1) (cs:=#[.int .u64 a0_0,.slice A0_1 l0_1.length c0_1,.slice A0_2 l0_2.length c0_2,.bool true,.int .i64 a0_4]) (t:=39) ?_;intro G244 hg w23 hbox hb;have K244:=zA (hbox);have GW244:=zN HB hg;have GE244:=zN HB hg;replace HB:=zS HB hb;clear hb hbox hg;obtain ⟨_,_,_,_,_,_,_,_,_,_⟩:=zc5 K244)|((with_reducible refine gate_callee (f:=30) rfl ?_);refine zg (some 6) Try.func30 #[.slice A0_1 l0_1.length c0_1] ?_;(with_reducible refine (delta_list.calls k _ _ l0_1 true _ ?side1 ?side2 A2.out).mono ?_);(case side1 => exact zC (Kd.C_below HR0_1.out HB.1));(case side2 => exact HC0_1.out);rintro e w25 ⟨rfl,hb⟩;refine ⟨_,rfl,?_⟩;replace K244:=zB K244 hb;replace HB:=zS HB hb;(try clear hb);obtain ⟨_,_,_,_,_,_,_,_,_,_⟩:=zc5 K244)|(go_at_call 33;(with_reducible refine (delta_told.calls k _ _ l0_2 false _ ?side1 ?side2 A8.out).mono ?_);(case side1 => exact zC (Kd.C_below HR0_2.out HB.1));(case side2 => exact HC0_2.out);rintro e w27 ⟨rfl,hb⟩;replace K244:=zB K244 hb;replace HB:=zS HB hb;(try clear hb)))
       go_ret
       exact ⟨zE,zH HB⟩
     ·rw [if_neg c7] at H;have c7b0 : decide ((l0_2.length : Int) ≤ 512) = false:=decide_eq_false c7;have c7b1 : decide (l0_2.length ≤ 512) = false:=decide_eq_false (by omega);clear c7;obtain rfl:=Option.some.inj H;go_enter Try.func22,Try.ntmps22
      go_wp2_with (first|((with_reducible refine gate_dst (N:=1) rfl ?_);(try (refine gate_guard (by rfl) ?_;dsimp only));refine zb (N:=1) (cs:=#[.int .u64 a0_0,.slice A0_1 l0_1.length c0_1,.slice A0_2 l0_2.length c0_2,.bool true,.int .i64 a0_4]) (t:=39) ?_;intro G244 hg w28 hbox hb;have K244:=zA (hbox);have GW244:=zN HB hg;have GE244:=zN HB hg;replace HB:=zS HB hb;clear hb hbox hg;obtain ⟨_,_,_,_,_,_,_,_,_,_⟩:=zc5 K244)|((with_reducible refine gate_callee (f:=30) rfl ?_);refine zg (some 6) Try.func30 #[.slice A0_1 l0_1.length c0_1] ?_;(with_reducible refine (delta_list.calls k _ _ l0_1 true _ ?side1 ?side2 A2.out).mono ?_);(case side1 => exact zC (Kd.C_below HR0_1.out HB.1));(case side2 => exact HC0_1.out);rintro e w30 ⟨rfl,hb⟩;refine ⟨_,rfl,?_⟩;replace K244:=zB K244 hb;replace HB:=zS HB hb;(try clear hb);obtain ⟨_,_,_,_,_,_,_,_,_,_⟩:=zc5 K244))
      go_ret
      exact ⟨zE,zH HB⟩
    ·rw [if_neg c6] at H;have c6b0 : decide (0 < (l0_2.length : Int)) = false:=decide_eq_false c6;have c6b1 : decide (0 < l0_2.length) = false:=decide_eq_false (by omega);clear c6;obtain rfl:=Option.some.inj H;go_enter Try.func22,Try.ntmps22
     go_wp2_with (first|((with_reducible refine gate_dst (N:=1) rfl ?_);(try (refine gate_guard (by rfl) ?_;dsimp only));refine zb (N:=1) (cs:=#[.int .u64 a0_0,.slice A0_1 l0_1.length c0_1,.slice A0_2 l0_2.length c0_2,.bool true,.int .i64 a0_4]) (t:=39) ?_;intro G244 hg w32 hbox hb;have K244:=zA (hbox);have GW244:=zN HB hg;have GE244:=zN HB hg;replace HB:=zS HB hb;clear hb hbox hg;obtain ⟨_,_,_,_,_,_,_,_,_,_⟩:=zc5 K244)|((with_reducible refine gate_callee (f:=30) rfl ?_);refine zg (some 6) Try.func30 #[.slice A0_1 l0_1.length c0_1] ?_;(with_reducible refine (delta_list.calls k _ _ l0_1 true _ ?side1 ?side2 A2.out).mono ?_);(case side1 => exact zC (Kd.C_below HR0_1.out HB.1));(case side2 => exact HC0_1.out);rintro e w34 ⟨rfl,hb⟩;refine ⟨_,rfl,?_⟩;replace K244:=zB K244 hb;replace HB:=zS HB hb;(try clear hb);obtain ⟨_,_,_,_,_,_,_,_,_,_⟩:=zc5 K244))
     go_ret
     exact ⟨zE,zH HB⟩
   ·rw [if_neg c5] at H;have c5b0 : decide (0 < a0_0) = false:=decide_eq_false c5;clear c5;obtain rfl:=Option.some.inj H;go_enter Try.func22,Try.ntmps22
    go_wp2_with (first|((with_reducible refine gate_dst (N:=1) rfl ?_);(try (refine gate_guard (by rfl) ?_;dsimp only));refine zb (N:=1) (cs:=#[.int .u64 a0_0,.slice A0_1 l0_1.length c0_1,.slice A0_2 l0_2.length c0_2,.bool true,.int .i64 a0_4]) (t:=39) ?_;intro G244 hg w36 hbox hb;have K244:=zA (hbox);have GW244:=zN HB hg;have GE244:=zN HB hg;replace HB:=zS HB hb;clear hb hbox hg;obtain ⟨_,_,_,_,_,_,_,_,_,_⟩:=zc5 K244)|((with_reducible refine gate_callee (f:=30) rfl ?_);refine zg (some 6) Try.func30 #[.slice A0_1 l0_1.length c0_1] ?_;(with_reducible refine (delta_list.calls k _ _ l0_1 true _ ?side1 ?side2 A2.out).mono ?_);(case side1 => exact zC (Kd.C_below HR0_1.out HB.1));(case side2 => exact HC0_1.out);rintro e w38 ⟨rfl,hb⟩;refine ⟨_,rfl,?_⟩;replace K244:=zB K244 hb;replace HB:=zS HB hb;(try clear hb);obtain ⟨_,_,_,_,_,_,_,_,_,_⟩:=zc5 K244))
    go_ret
    exact ⟨zE,zH HB⟩
  ·replace c4:=Bool.eq_false_iff.mpr c4;subst c4;rw [if_neg (show ¬ (false = true) by decide)] at H;obtain rfl:=Option.some.inj H;go_enter Try.func22,Try.ntmps22
   go_wp2_with (first|((with_reducible refine gate_dst (N:=1) rfl ?_);(try (refine gate_guard (by rfl) ?_;dsimp only));refine zb (N:=1) (cs:=#[.int .u64 a0_0,.slice A0_1 l0_1.length c0_1,.slice A0_2 l0_2.length c0_2,.bool true,.int .i64 a0_4]) (t:=39) ?_;intro G244 hg w40 hbox hb;have K244:=zA (hbox);have GW244:=zN HB hg;have GE244:=zN HB hg;replace HB:=zS HB hb;clear hb hbox hg;obtain ⟨_,_,_,_,_,_,_,_,_,_⟩:=zc5 K244)|((with_reducible refine gate_callee (f:=30) rfl ?_);refine zg (some 6) Try.func30 #[.slice A0_1 l0_1.length c0_1] ?_;(with_reducible refine (delta_list.calls k _ _ l0_1 false _ ?side1 ?side2 A2.out).mono ?_);(case side1 => exact zC (Kd.C_below HR0_1.out HB.1));(case side2 => exact HC0_1.out);rintro e w42 ⟨rfl,hb⟩;refine ⟨_,rfl,?_⟩;replace K244:=zB K244 hb;replace HB:=zS HB hb;(try clear hb);obtain ⟨_,_,_,_,_,_,_,_,_,_⟩:=zc5 K244))
   go_ret
   exact ⟨zE,zH HB⟩
 ·replace c3:=Bool.eq_false_iff.mpr c3;subst c3;rw [if_neg (show ¬ (false = true) by decide)] at H;by_cases c44 : t245 = true
  ·subst c44;rw [if_pos rfl] at H;by_cases c45 : (l0_2.length : Int) = 0
   ·rw [if_pos c45] at H;have c45b0 : ((l0_2.length : Int) == 0) = true:=beq_iff_eq.mpr c45;have c45b1 : ((l0_2.length : Int) != 0) = false:=bne_eq_false_iff_eq.mpr c45;clear c45;by_cases c46 : a0_4 = 0
    ·rw [if_pos c46] at H;have c46b0 : (a0_4 == 0) = true:=beq_iff_eq.mpr c46;have c46b1 : (a0_4 != 0) = false:=bne_eq_false_iff_eq.mpr c46;clear c46;obtain rfl:=Option.some.inj H;go_enter Try.func22,Try.ntmps22
     go_wp2_with (first|((with_reducible refine gate_dst (N:=1) rfl ?_);(try (refine gate_guard (by rfl) ?_;dsimp only));refine zb (N:=1) (cs:=#[.int .u64 a0_0,.slice A0_1 l0_1.length c0_1,.slice A0_2 l0_2.length c0_2,.bool false,.int .i64 a0_4]) (t:=39) ?_;intro G244 hg w47 hbox hb;have K244:=zA (hbox);have GW244:=zN HB hg;have GE244:=zN HB hg;replace HB:=zS HB hb;clear hb hbox hg;obtain ⟨_,_,_,_,_,_,_,_,_,_⟩:=zc5 K244)|((with_reducible refine gate_callee (f:=30) rfl ?_);refine zg (some 6) Try.func30 #[.slice A0_1 l0_1.length c0_1] ?_;(with_reducible refine (delta_list.calls k _ _ l0_1 true _ ?side1 ?side2 A2.out).mono ?_);(case side1 => exact zC (Kd.C_below HR0_1.out HB.1));(case side2 => exact HC0_1.out);rintro e w49 ⟨rfl,hb⟩;refine ⟨_,rfl,?_⟩;replace K244:=zB K244 hb;replace HB:=zS HB hb;(try clear hb);obtain ⟨_,_,_,_,_,_,_,_,_,_⟩:=zc5 K244))
     go_ret
     exact ⟨zE,zH HB⟩
    ·rw [if_neg c46] at H;have c46b0 : (a0_4 == 0) = false:=beq_eq_false_iff_ne.mpr c46;have c46b1 : (a0_4 != 0) = true:=bne_iff_ne.mpr c46;obtain rfl:=Option.some.inj H;go_enter Try.func22,Try.ntmps22
     go_wp2_with (first|((with_reducible refine gate_dst (N:=1) rfl ?_);(try (refine gate_guard (by rfl) ?_;dsimp only));refine zb (N:=1) (cs:=#[.int .u64 a0_0,.slice A0_1 l0_1.length c0_1,.slice A0_2 l0_2.length c0_2,.bool false,.int .i64 a0_4]) (t:=39) ?_;intro G244 hg w51 hbox hb;have K244:=zA (hbox);have GW244:=zN HB hg;have GE244:=zN HB hg;replace HB:=zS HB hb;clear hb hbox hg;obtain ⟨_,_,_,_,_,_,_,_,_,_⟩:=zc5 K244)|((with_reducible refine gate_callee (f:=30) rfl ?_);refine zg (some 6) Try.func30 #[.slice A0_1 l0_1.length c0_1] ?_;(with_reducible refine (delta_list.calls k _ _ l0_1 true _ ?side1 ?side2 A2.out).mono ?_);(case side1 => exact zC (Kd.C_below HR0_1.out HB.1));(case side2 => exact HC0_1.out);rintro e w53 ⟨rfl,hb⟩;refine ⟨_,rfl,?_⟩;replace K244:=zB K244 hb;replace HB:=zS HB hb;(try clear hb);obtain ⟨_,_,_,_,_,_,_,_,_,_⟩:=zc5 K244))
     go_ret
     exact ⟨zE,zH HB⟩
   ·rw [if_neg c45] at H;have c45b0 : ((l0_2.length : Int) == 0) = false:=beq_eq_false_iff_ne.mpr c45;have c45b1 : ((l0_2.length : Int) != 0) = true:=bne_iff_ne.mpr c45;have c45b2 : ¬ (l0_2 = []):=fun h_ => c45 (by rw [h_];rfl);obtain rfl:=Option.some.inj H;go_enter Try.func22,Try.ntmps22
    go_wp2_with (first|((with_reducible refine gate_dst (N:=1) rfl ?_);(try (refine gate_guard (by rfl) ?_;dsimp only));refine zb (N:=1) (cs:=#[.int .u64 a0_0,.slice A0_1 l0_1.length c0_1,.slice A0_2 l0_2.length c0_2,.bool false,.int .i64 a0_4]) (t:=39) ?_;intro G244 hg w55 hbox hb;have K244:=zA (hbox);have GW244:=zN HB hg;have GE244:=zN HB hg;replace HB:=zS HB hb;clear hb hbox hg;obtain ⟨_,_,_,_,_,_,_,_,_,_⟩:=zc5 K244)|((with_reducible refine gate_callee (f:=30) rfl ?_);refine zg (some 6) Try.func30 #[.slice A0_1 l0_1.length c0_1] ?_;(with_reducible refine (delta_list.calls k _ _ l0_1 true _ ?side1 ?side2 A2.out).mono ?_);(case side1 => exact zC (Kd.C_below HR0_1.out HB.1));(case side2 => exact HC0_1.out);rintro e w57 ⟨rfl,hb⟩;refine ⟨_,rfl,?_⟩;replace K244:=zB K244 hb;replace HB:=zS HB hb;(try clear hb);obtain ⟨_,_,_,_,_,_,_,_,_,_⟩:=zc5 K244))
    go_ret
    exact ⟨zE,zH HB⟩
  ·replace c44:=Bool.eq_false_iff.mpr c44;subst c44;rw [if_neg (show ¬ (false = true) by decide)] at H;obtain rfl:=Option.some.inj H;go_enter Try.func22,Try.ntmps22
   go_wp2_with (first|((with_reducible refine gate_dst (N:=1) rfl ?_);(try (refine gate_guard (by rfl) ?_;dsimp only));refine zb (N:=1) (cs:=#[.int .u64 a0_0,.slice A0_1 l0_1.length c0_1,.slice A0_2 l0_2.length c0_2,.bool false,.int .i64 a0_4]) (t:=39) ?_;intro G244 hg w59 hbox hb;have K244:=zA (hbox);have GW244:=zN HB hg;have GE244:=zN HB hg;replace HB:=zS HB hb;clear hb hbox hg;obtain ⟨_,_,_,_,_,_,_,_,_,_⟩:=zc5 K244)|((with_reducible refine gate_callee (f:=30) rfl ?_);refine zg (some 6) Try.func30 #[.slice A0_1 l0_1.length c0_1] ?_;(with_reducible refine (delta_list.calls k _ _ l0_1 false _ ?side1 ?side2 A2.out).mono ?_);(case side1 => exact zC (Kd.C_below HR0_1.out HB.1));(case side2 => exact HC0_1.out);rintro e w61 ⟨rfl,hb⟩;refine ⟨_,rfl,?_⟩;replace K244:=zB K244 hb;replace HB:=zS HB hb;(try clear hb);obtain ⟨_,_,_,_,_,_,_,_,_,_⟩:=zc5 K244))
   go_ret
   exact ⟨zE,zH HB⟩

end Go.Proofs.Ytpcgjdllgdkobaa.XA
