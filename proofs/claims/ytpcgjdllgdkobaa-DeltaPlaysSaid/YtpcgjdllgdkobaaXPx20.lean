/- Go functions of this seat as Lean functions, with proofs that the calls come to them. (Written by xprint.py, a program of this session, over the kit's print.) -/
import Derived.Test.YtpcgjdllgdkobaaXPx0
import Derived.Test.YtpcgjdllgdkobaaXPx2
import Derived.Test.YtpcgjdllgdkobaaXPx12
import Derived.Test.YtpcgjdllgdkobaaXPx19
namespace Go.Proofs.Ytpcgjdllgdkobaa.XP
open Go.RowKit Go.Proofs.YtpcgjdllgdkobaaW.PrintWords Go.Proofs.YtpcgjdllgdkobaaW.PrintLast Go.Proofs.YtpcgjdllgdkobaaW.PrintMore
attribute [local go_sem] max2_int min2_int max_two min_two max_three min_three max_four min_four   -- for this text's walks alone
set_option linter.unusedVariables false
set_option linter.unusedSimpArgs false
open List renaming setIfInBounds_toArray → xA, set_cons_zero → xB, set_cons_succ → xC
open Go.Proofs.YtpcgjdllgdkobaaW.PrintWords renaming blk_drewN → bN, blk_drew → bD, blk_alloc → bA, below_set → bS, blk_frozen → bF, blk_cell → bC, cell_far → cF, blk_far → bZ, blk_below → bB, pw_below_drewN → bwN, below_drew1 → bw1, below_alloc → bwA
open Go.Proofs.YtpcgjdllgdkobaaW.PrintZ
open Bool renaming true → T,false → F

/-! ### beaconref14_List: function 18 -/
def beaconref14_List.l0 : Nat → List (S61) → Int → Option (Bool)
 | 0, _, _ => none
 | k + 1, x0, x3 => if x3 < (x0.length : Int) then (if 0 ≤ x3 then ((math_IsInf.f ((rd_T61 x0 x3).f2) 1).bind fun t259 => (if t259 = true then (some false) else (beaconref14_List.l0 k x0 (wrap64 (x3 + 1))))) else (none)) else ((beaconref14_rising.f k x0).bind fun t260 => (some t260))
def beaconref14_List.f (k : Nat) (l0 : List (S61)) : Option (Bool) := beaconref14_List.l0 k l0 0
theorem beaconref14_List.mono_l : ∀ k, (∀ y0 y1, LeO (beaconref14_List.l0 k y0 y1) (beaconref14_List.l0 (k + 1) y0 y1))
 | 0 => fun _ _ r h => by simp [beaconref14_List.l0] at h
 | k + 1 => by
  have ih0:=beaconref14_List.mono_l k
  ·intro y0 y1
   unfold beaconref14_List.l0
   repeat' first
   | (with_reducible exact ih0 _ _)
   | (with_reducible exact beaconref14_rising.mono _ _)
   | (with_reducible exact LeO.refl _)
   | (with_reducible exact LeO.none _)
   | (with_reducible refine LeO.ite ?_ ?_)
   | (with_reducible refine LeO.bind ?_ (fun _ => ?_))
   | exact ih0 _ _
   | exact beaconref14_rising.mono _ _
   | exact LeO.none _
   | refine LeO.ite ?_ ?_
   | refine LeO.bind ?_ (fun _ => ?_)
theorem beaconref14_List.mono : ∀ a0 k, LeO (beaconref14_List.f k a0) (beaconref14_List.f (k + 1) a0) := by
 intro a0 k
 have ih0:=beaconref14_List.mono_l k
 unfold beaconref14_List.f
 repeat' first
   | (with_reducible exact ih0 _ _)
   | (with_reducible exact beaconref14_rising.mono _ _)
   | (with_reducible exact LeO.refl _)
   | (with_reducible exact LeO.none _)
   | (with_reducible refine LeO.ite ?_ ?_)
   | (with_reducible refine LeO.bind ?_ (fun _ => ?_))
   | exact ih0 _ _
   | exact beaconref14_rising.mono _ _
   | exact LeO.none _
   | refine LeO.ite ?_ ?_
   | refine LeO.bind ?_ (fun _ => ?_)
set_option maxHeartbeats 8000000 in
set_option maxRecDepth 100000 in
theorem beaconref14_List.calls (k : Nat) (A0 : Option Addr) (c0 : Nat) (l0 : List (S61)) (r : Bool) (w : World) (hr0 : Kd.C k61 w A0 l0.length l0) (hc0 : l0.length ≤ c0) (h : beaconref14_List.f k l0 = some r) :
  Calls Try.prog 18 #[.slice A0 l0.length c0] w fun e w' => e = .returned (.bool r) ∧ Below w.heap.size w w':=by
 have HR0:=zA hr0;have HC0:=zA hc0;clear hr0 hc0;have HB:=zA (Below.refl w.heap.size w);have H : (beaconref14_List.l0 k l0 0) = some r:=h;clear h;have H':=zA H;clear H;go_enter Try.func18,Try.ntmps18
 go_wp2
 go_loopg [3] k (fun kq v3 w' => ∃ (x3_1 : Int),v3 = .int .i64 x3_1 ∧ Aside0 (beaconref14_List.l0 kq l0 x3_1 = some r) ∧ Aside0 (kq ≤ k) ∧ Aside0 (Below w.heap.size w w'))
 case atStart => exact ⟨(0),ze,H',⟨Nat.le_refl _⟩,⟨zH HB⟩⟩
 case round =>
  clear H';obtain ⟨x3_1,rfl,HA,HK1,HB⟩:=hrel;cases gk with
  | zero => exact absurd HA.out (by simp [beaconref14_List.l0])
  | succ k1 =>
   have H:=HA.out;clear HA;simp only [beaconref14_List.l0] at H;by_cases c2 : x3_1 < (l0.length : Int)
   ·rw [if_pos c2] at H;have c2b0 : decide (x3_1 < (l0.length : Int)) = true:=decide_eq_true c2;clear c2;by_cases c3 : 0 ≤ x3_1
    ·rw [if_pos c3] at H;have c3b0 : decide (0 ≤ x3_1) = true:=decide_eq_true c3;clear c3;replace H:=Option.bind_eq_some_iff.mp H;obtain ⟨t259,A40,H⟩:=H;(try dsimp only at H);have A4:=zA A40;clear A40;by_cases c5 : t259 = true
     ·subst c5;rw [if_pos rfl] at H;obtain rfl:=Option.some.inj H;have p258 : 0 ≤ (x3_1 : Int):=zd;have q258 : x3_1 < (l0.length : Int):=zd;obtain ⟨ad258,e258,hx258_0,hx258_1,hx258_2,hx258_3,hx258_4⟩:=at_T61 HR0.out x3_1 p258 q258;cases e258;replace hx258_0:=zh HB hx258_0;replace hx258_1:=zh HB hx258_1;replace hx258_2:=zh HB hx258_2;replace hx258_3:=zh HB hx258_3;replace hx258_4:=zh HB hx258_4;replace p258:=eq_true p258;replace q258:=eq_true q258;go_wp2_with (first|((with_reducible refine gate_callee (f:=38) rfl ?_);refine zg (some 15) Try.func38 #[.float .f64 ((rd_T61 l0 x3_1).f2),.int .i64 1] ?_;(with_reducible refine (math_IsInf.calls ((rd_T61 l0 x3_1).f2) 1 true _ A4.out).mono ?_);rintro e w' ⟨rfl,⟨nd,rfl⟩⟩;refine ⟨_,rfl,?_⟩))
      go_ret
      exact ⟨zE,zH HB⟩
     ·replace c5:=Bool.eq_false_iff.mpr c5;subst c5;rw [if_neg (show ¬ (false = true) by decide)] at H;have H':=zA H;clear H;have p258 : 0 ≤ (x3_1 : Int):=zd;have q258 : x3_1 < (l0.length : Int):=zd;obtain ⟨ad258,e258,hx258_0,hx258_1,hx258_2,hx258_3,hx258_4⟩:=at_T61 HR0.out x3_1 p258 q258;cases e258;replace hx258_0:=zh HB hx258_0;replace hx258_1:=zh HB hx258_1;replace hx258_2:=zh HB hx258_2;replace hx258_3:=zh HB hx258_3;replace hx258_4:=zh HB hx258_4;replace p258:=eq_true p258;replace q258:=eq_true q258;go_wp2_with (first|((with_reducible refine gate_callee (f:=38) rfl ?_);refine zg (some 15) Try.func38 #[.float .f64 ((rd_T61 l0 x3_1).f2),.int .i64 1] ?_;(with_reducible refine (math_IsInf.calls ((rd_T61 l0 x3_1).f2) 1 false _ A4.out).mono ?_);rintro e w' ⟨rfl,⟨nd,rfl⟩⟩;refine ⟨_,rfl,?_⟩))
      go_roundg k1
      case measure => have:=HK1.out;omega
      case rel => exact ⟨(wrap64 (x3_1 + 1)),ze,H',⟨by have:=HK1.out;omega⟩,⟨zH HB⟩⟩
    ·rw [if_neg c3] at H;exact absurd H (by simp)
   ·rw [if_neg c2] at H;have c2b0 : decide (x3_1 < (l0.length : Int)) = false:=decide_eq_false c2;clear c2;replace H:=Option.bind_eq_some_iff.mp H;obtain ⟨t260,A60,H⟩:=H;(try dsimp only at H);have A6:=zA A60;clear A60;obtain rfl:=Option.some.inj H;go_wp2_with (first|((with_reducible refine gate_callee (f:=35) rfl ?_);refine zg (some 17) Try.func35 #[.slice A0 l0.length c0] ?_;(with_reducible refine (beaconref14_rising.calls k1 _ _ l0 t260 _ ?side1 ?side2 A6.out).mono ?_);(case side1 => exact zC (Kd.C_below HR0.out HB.1));(case side2 => exact HC0.out);rintro e w7 ⟨rfl,hb⟩;refine ⟨_,rfl,?_⟩;replace HB:=zS HB hb;(try clear hb)))
    go_ret
    exact ⟨zE,zH HB⟩

/-! ### beaconref14_May: function 42 -/
def beaconref14_May.f (k : Nat) (a0_0 : Int) (l0_1 : List (S61)) (l0_2 : List (S61)) (a0_3 : Bool) (a0_4 : Int) : Option (Bool) := (beaconref14_List.f k l0_1).bind fun t262 => (if t262 = true then (if a0_3 = true then (if a0_0 > 0 then (if (l0_2.length : Int) > 0 then (if (l0_2.length : Int) ≤ 512 then ((beaconref14_rising.f k l0_2).bind fun t263 => (if t263 = true then (some (decide (a0_4 ≥ 0))) else (some false))) else (some false)) else (some false)) else (some false)) else (if (l0_2.length : Int) = 0 then (some (a0_4 == 0)) else (some false))) else (some false))
theorem beaconref14_May.mono : ∀ a0 a1 a2 a3 a4 k, LeO (beaconref14_May.f k a0 a1 a2 a3 a4) (beaconref14_May.f (k + 1) a0 a1 a2 a3 a4) := by
 intro a0 a1 a2 a3 a4 k
 unfold beaconref14_May.f
 repeat' first
   | (with_reducible exact beaconref14_List.mono _ _)
   | (with_reducible exact beaconref14_rising.mono _ _)
   | (with_reducible exact LeO.refl _)
   | (with_reducible exact LeO.none _)
   | (with_reducible refine LeO.ite ?_ ?_)
   | (with_reducible refine LeO.bind ?_ (fun _ => ?_))
   | exact beaconref14_List.mono _ _
   | exact beaconref14_rising.mono _ _
   | exact LeO.none _
   | refine LeO.ite ?_ ?_
   | refine LeO.bind ?_ (fun _ => ?_)
set_option maxHeartbeats 8000000 in
set_option maxRecDepth 100000 in
theorem beaconref14_May.calls (k : Nat) (a0_0 : Int) (A0_1 : Option Addr) (c0_1 : Nat) (l0_1 : List (S61)) (A0_2 : Option Addr) (c0_2 : Nat) (l0_2 : List (S61)) (a0_3 : Bool) (a0_4 : Int) (r : Bool) (w : World) (hr0_1 : Kd.C k61 w A0_1 l0_1.length l0_1) (hc0_1 : l0_1.length ≤ c0_1) (hr0_2 : Kd.C k61 w A0_2 l0_2.length l0_2) (hc0_2 : l0_2.length ≤ c0_2) (h : beaconref14_May.f k a0_0 l0_1 l0_2 a0_3 a0_4 = some r) :
  Calls Try.prog 42 #[.agg #[.int .u64 a0_0,.slice A0_1 l0_1.length c0_1,.slice A0_2 l0_2.length c0_2,.bool a0_3,.int .i64 a0_4]] w fun e w' => e = .returned (.bool r) ∧ Below w.heap.size w w':=by
 have hu39:=Try.underlying39;have HR0_1:=zA hr0_1;have HC0_1:=zA hc0_1;clear hr0_1 hc0_1;have HR0_2:=zA hr0_2;have HC0_2:=zA hc0_2;clear hr0_2 hc0_2;have HB:=zA (Below.refl w.heap.size w);have H : ((beaconref14_List.f k l0_1).bind fun t262 => (if t262 = true then (if a0_3 = true then (if a0_0 > 0 then (if (l0_2.length : Int) > 0 then (if (l0_2.length : Int) ≤ 512 then ((beaconref14_rising.f k l0_2).bind fun t263 => (if t263 = true then (some (decide (a0_4 ≥ 0))) else (some false))) else (some false)) else (some false)) else (some false)) else (if (l0_2.length : Int) = 0 then (some (a0_4 == 0)) else (some false))) else (some false))) = some r:=h;clear h;replace H:=Option.bind_eq_some_iff.mp H;obtain ⟨t262,A20,H⟩:=H;(try dsimp only at H);have A2:=zA A20;clear A20;by_cases c3 : t262 = true
 ·subst c3;rw [if_pos rfl] at H;by_cases c4 : a0_3 = true
  ·subst c4;rw [if_pos rfl] at H;by_cases c5 : a0_0 > 0
   ·rw [if_pos c5] at H;have c5b0 : decide (0 < a0_0) = true:=decide_eq_true c5;clear c5;by_cases c6 : (l0_2.length : Int) > 0
    ·rw [if_pos c6] at H;have c6b0 : decide (0 < (l0_2.length : Int)) = true:=decide_eq_true c6;have c6b1 : decide (0 < l0_2.length) = true:=decide_eq_true (by omega);clear c6;by_cases c7 : (l0_2.length : Int) ≤ 512
     ·rw [if_pos c7] at H;have c7b0 : decide ((l0_2.length : Int) ≤ 512) = true:=decide_eq_true c7;have c7b1 : decide (l0_2.length ≤ 512) = true:=decide_eq_true (by omega);clear c7;replace H:=Option.bind_eq_some_iff.mp H;obtain ⟨t263,A80,H⟩:=H;(try dsimp only at H);have A8:=zA A80;clear A80;by_cases c9 : t263 = true
      ·subst c9;rw [if_pos rfl] at H;obtain rfl:=Option.some.inj H;go_enter Try.func42,Try.ntmps42
       go_wp2_with (first|((with_reducible refine gate_dst (N:=1) rfl ?_);(try (refine gate_guard (by rfl) ?_;dsimp only));refine zb (N:=1) (cs:=#[.int .u64 a0_0,.slice A0_1 l0_1.length c0_1,.slice A0_2 l0_2.length c0_2,.bool true,.int .i64 a0_4]) (t:=39) ?_;intro G261 hg w10 hbox hb;have K261:=zA (hbox);have GW261:=zN HB hg;have GE261:=zN HB hg;replace HB:=zS HB hb;clear hb hbox hg;obtain ⟨_,_,_,_,_,_,_,_,_,_⟩:=zc5 K261)|((with_reducible refine gate_callee (f:=18) rfl ?_);refine zg (some 5) Try.func18 #[.slice A0_1 l0_1.length c0_1] ?_;(with_reducible refine (beaconref14_List.calls k _ _ l0_1 true _ ?side1 ?side2 A2.out).mono ?_);(case side1 => exact zC (Kd.C_below HR0_1.out HB.1));(case side2 => exact HC0_1.out);rintro e w12 ⟨rfl,hb⟩;refine ⟨_,rfl,?_⟩;replace K261:=zB K261 hb;replace HB:=zS HB hb;(try clear hb);obtain ⟨_,_,_,_,_,_,_,_,_,_⟩:=zc5 K261)|(go_at_call 35;(with_reducible refine (beaconref14_rising.calls k _ _ l0_2 true _ ?side1 ?side2 A8.out).mono ?_);(case side1 => exact zC (Kd.C_below HR0_2.out HB.1));(case side2 => exact HC0_2.out);rintro e w14 ⟨rfl,hb⟩;replace K261:=zB K261 hb;replace HB:=zS HB hb;(try clear hb);obtain ⟨_,_,_,_,_,_,_,_,_,_⟩:=zc5 K261))
       go_ret
       exact ⟨zE,zH HB⟩
      ·replace c9:=Bool.eq_false_iff.mpr c9;subst c9;rw [if_neg (show ¬ (false = true) by decide)] at H;obtain rfl:=Option.some.inj H;go_enter Try.func42,Try.ntmps42
       go_wp2_with (first|((with_reducible refine gate_dst (N:=1) rfl ?_);(try (refine gate_guard (by rfl) ?_;dsimp only));refine zb (N:=1) (cs:=#[.int .u64 a0_0,.slice A0_1 l0_1.length c0_1,.slice A0_2 l0_2.length c0_2,.bool true,.int .i64 a0_4]) (t:=39) ?_;intro G261 hg w16 hbox hb;have K261:=zA (hbox);have GW261:=zN HB hg;have GE261:=zN HB hg;replace HB:=zS HB hb;clear hb hbox hg;obtain ⟨_,_,_,_,_,_,_,_,_,_⟩:=zc5 K261)|((with_reducible refine gate_callee (f:=18) rfl ?_);refine zg (some 5) Try.func18 #[.slice A0_1 l0_1.length c0_1] ?_;(with_reducible refine (beaconref14_List.calls k _ _ l0_1 true _ ?side1 ?side2 A2.out).mono ?_);(case side1 => exact zC (Kd.C_below HR0_1.out HB.1));(case side2 => exact HC0_1.out);rintro e w18 ⟨rfl,hb⟩;refine ⟨_,rfl,?_⟩;replace K261:=zB K261 hb;replace HB:=zS HB hb;(try clear hb);obtain ⟨_,_,_,_,_,_,_,_,_,_⟩:=zc5 K261)|(go_at_call 35;(with_reducible refine (beaconref14_rising.calls k _ _ l0_2 false _ ?side1 ?side2 A8.out).mono ?_);(case side1 => exact zC (Kd.C_below HR0_2.out HB.1));(case side2 => exact HC0_2.out);rintro e w20 ⟨rfl,hb⟩;replace K261:=zB K261 hb;replace HB:=zS HB hb;(try clear hb)))
       go_ret
       exact ⟨zE,zH HB⟩
     ·rw [if_neg c7] at H;have c7b0 : decide ((l0_2.length : Int) ≤ 512) = false:=decide_eq_false c7;have c7b1 : decide (l0_2.length ≤ 512) = false:=decide_eq_false (by omega);clear c7;obtain rfl:=Option.some.inj H;go_enter Try.func42,Try.ntmps42
      go_wp2_with (first|((with_reducible refine gate_dst (N:=1) rfl ?_);(try (refine gate_guard (by rfl) ?_;dsimp only));refine zb (N:=1) (cs:=#[.int .u64 a0_0,.slice A0_1 l0_1.length c0_1,.slice A0_2 l0_2.length c0_2,.bool true,.int .i64 a0_4]) (t:=39) ?_;intro G261 hg w21 hbox hb;have K261:=zA (hbox);have GW261:=zN HB hg;have GE261:=zN HB hg;replace HB:=zS HB hb;clear hb hbox hg;obtain ⟨_,_,_,_,_,_,_,_,_,_⟩:=zc5 K261)|((with_reducible refine gate_callee (f:=18) rfl ?_);refine zg (some 5) Try.func18 #[.slice A0_1 l0_1.length c0_1] ?_;(with_reducible refine (beaconref14_List.calls k _ _ l0_1 true _ ?side1 ?side2 A2.out).mono ?_);(case side1 => exact zC (Kd.C_below HR0_1.out HB.1));(case side2 => exact HC0_1.out);rintro e w23 ⟨rfl,hb⟩;refine ⟨_,rfl,?_⟩;replace K261:=zB K261 hb;replace HB:=zS HB hb;(try clear hb);obtain ⟨_,_,_,_,_,_,_,_,_,_⟩:=zc5 K261))
      go_ret
      exact ⟨zE,zH HB⟩
    ·rw [if_neg c6] at H;have c6b0 : decide (0 < (l0_2.length : Int)) = false:=decide_eq_false c6;have c6b1 : decide (0 < l0_2.length) = false:=decide_eq_false (by omega);clear c6;obtain rfl:=Option.some.inj H;go_enter Try.func42,Try.ntmps42
     go_wp2_with (first|((with_reducible refine gate_dst (N:=1) rfl ?_);(try (refine gate_guard (by rfl) ?_;dsimp only));refine zb (N:=1) (cs:=#[.int .u64 a0_0,.slice A0_1 l0_1.length c0_1,.slice A0_2 l0_2.length c0_2,.bool true,.int .i64 a0_4]) (t:=39) ?_;intro G261 hg w25 hbox hb;have K261:=zA (hbox);have GW261:=zN HB hg;have GE261:=zN HB hg;replace HB:=zS HB hb;clear hb hbox hg;obtain ⟨_,_,_,_,_,_,_,_,_,_⟩:=zc5 K261)|((with_reducible refine gate_callee (f:=18) rfl ?_);refine zg (some 5) Try.func18 #[.slice A0_1 l0_1.length c0_1] ?_;(with_reducible refine (beaconref14_List.calls k _ _ l0_1 true _ ?side1 ?side2 A2.out).mono ?_);(case side1 => exact zC (Kd.C_below HR0_1.out HB.1));(case side2 => exact HC0_1.out);rintro e w27 ⟨rfl,hb⟩;refine ⟨_,rfl,?_⟩;replace K261:=zB K261 hb;replace HB:=zS HB hb;(try clear hb);obtain ⟨_,_,_,_,_,_,_,_,_,_⟩:=zc5 K261))
     go_ret
     exact ⟨zE,zH HB⟩
   ·rw [if_neg c5] at H;have c5b0 : decide (0 < a0_0) = false:=decide_eq_false c5;clear c5;obtain rfl:=Option.some.inj H;go_enter Try.func42,Try.ntmps42
    go_wp2_with (first|((with_reducible refine gate_dst (N:=1) rfl ?_);(try (refine gate_guard (by rfl) ?_;dsimp only));refine zb (N:=1) (cs:=#[.int .u64 a0_0,.slice A0_1 l0_1.length c0_1,.slice A0_2 l0_2.length c0_2,.bool true,.int .i64 a0_4]) (t:=39) ?_;intro G261 hg w29 hbox hb;have K261:=zA (hbox);have GW261:=zN HB hg;have GE261:=zN HB hg;replace HB:=zS HB hb;clear hb hbox hg;obtain ⟨_,_,_,_,_,_,_,_,_,_⟩:=zc5 K261)|((with_reducible refine gate_callee (f:=18) rfl ?_);refine zg (some 5) Try.func18 #[.slice A0_1 l0_1.length c0_1] ?_;(with_reducible refine (beaconref14_List.calls k _ _ l0_1 true _ ?side1 ?side2 A2.out).mono ?_);(case side1 => exact zC (Kd.C_below HR0_1.out HB.1));(case side2 => exact HC0_1.out);rintro e w31 ⟨rfl,hb⟩;refine ⟨_,rfl,?_⟩;replace K261:=zB K261 hb;replace HB:=zS HB hb;(try clear hb);obtain ⟨_,_,_,_,_,_,_,_,_,_⟩:=zc5 K261))
    go_ret
    exact ⟨zE,zH HB⟩
  ·replace c4:=Bool.eq_false_iff.mpr c4;subst c4;rw [if_neg (show ¬ (false = true) by decide)] at H;by_cases c33 : (l0_2.length : Int) = 0
   ·rw [if_pos c33] at H;have c33b0 : ((l0_2.length : Int) == 0) = true:=beq_iff_eq.mpr c33;have c33b1 : ((l0_2.length : Int) != 0) = false:=bne_eq_false_iff_eq.mpr c33;clear c33;obtain rfl:=Option.some.inj H;go_enter Try.func42,Try.ntmps42
    go_wp2_with (first|((with_reducible refine gate_dst (N:=1) rfl ?_);(try (refine gate_guard (by rfl) ?_;dsimp only));refine zb (N:=1) (cs:=#[.int .u64 a0_0,.slice A0_1 l0_1.length c0_1,.slice A0_2 l0_2.length c0_2,.bool false,.int .i64 a0_4]) (t:=39) ?_;intro G261 hg w34 hbox hb;have K261:=zA (hbox);have GW261:=zN HB hg;have GE261:=zN HB hg;replace HB:=zS HB hb;clear hb hbox hg;obtain ⟨_,_,_,_,_,_,_,_,_,_⟩:=zc5 K261)|((with_reducible refine gate_callee (f:=18) rfl ?_);refine zg (some 5) Try.func18 #[.slice A0_1 l0_1.length c0_1] ?_;(with_reducible refine (beaconref14_List.calls k _ _ l0_1 true _ ?side1 ?side2 A2.out).mono ?_);(case side1 => exact zC (Kd.C_below HR0_1.out HB.1));(case side2 => exact HC0_1.out);rintro e w36 ⟨rfl,hb⟩;refine ⟨_,rfl,?_⟩;replace K261:=zB K261 hb;replace HB:=zS HB hb;(try clear hb);obtain ⟨_,_,_,_,_,_,_,_,_,_⟩:=zc5 K261))
    go_ret
    exact ⟨zE,zH HB⟩
   ·rw [if_neg c33] at H;have c33b0 : ((l0_2.length : Int) == 0) = false:=beq_eq_false_iff_ne.mpr c33;have c33b1 : ((l0_2.length : Int) != 0) = true:=bne_iff_ne.mpr c33;have c33b2 : ¬ (l0_2 = []):=fun h_ => c33 (by rw [h_];rfl);obtain rfl:=Option.some.inj H;go_enter Try.func42,Try.ntmps42
    go_wp2_with (first|((with_reducible refine gate_dst (N:=1) rfl ?_);(try (refine gate_guard (by rfl) ?_;dsimp only));refine zb (N:=1) (cs:=#[.int .u64 a0_0,.slice A0_1 l0_1.length c0_1,.slice A0_2 l0_2.length c0_2,.bool false,.int .i64 a0_4]) (t:=39) ?_;intro G261 hg w38 hbox hb;have K261:=zA (hbox);have GW261:=zN HB hg;have GE261:=zN HB hg;replace HB:=zS HB hb;clear hb hbox hg;obtain ⟨_,_,_,_,_,_,_,_,_,_⟩:=zc5 K261)|((with_reducible refine gate_callee (f:=18) rfl ?_);refine zg (some 5) Try.func18 #[.slice A0_1 l0_1.length c0_1] ?_;(with_reducible refine (beaconref14_List.calls k _ _ l0_1 true _ ?side1 ?side2 A2.out).mono ?_);(case side1 => exact zC (Kd.C_below HR0_1.out HB.1));(case side2 => exact HC0_1.out);rintro e w40 ⟨rfl,hb⟩;refine ⟨_,rfl,?_⟩;replace K261:=zB K261 hb;replace HB:=zS HB hb;(try clear hb);obtain ⟨_,_,_,_,_,_,_,_,_,_⟩:=zc5 K261))
    go_ret
    exact ⟨zE,zH HB⟩
 ·replace c3:=Bool.eq_false_iff.mpr c3;subst c3;rw [if_neg (show ¬ (false = true) by decide)] at H;obtain rfl:=Option.some.inj H;go_enter Try.func42,Try.ntmps42
  go_wp2_with (first|((with_reducible refine gate_dst (N:=1) rfl ?_);(try (refine gate_guard (by rfl) ?_;dsimp only));refine zb (N:=1) (cs:=#[.int .u64 a0_0,.slice A0_1 l0_1.length c0_1,.slice A0_2 l0_2.length c0_2,.bool a0_3,.int .i64 a0_4]) (t:=39) ?_;intro G261 hg w42 hbox hb;have K261:=zA (hbox);have GW261:=zN HB hg;have GE261:=zN HB hg;replace HB:=zS HB hb;clear hb hbox hg;obtain ⟨_,_,_,_,_,_,_,_,_,_⟩:=zc5 K261)|((with_reducible refine gate_callee (f:=18) rfl ?_);refine zg (some 5) Try.func18 #[.slice A0_1 l0_1.length c0_1] ?_;(with_reducible refine (beaconref14_List.calls k _ _ l0_1 false _ ?side1 ?side2 A2.out).mono ?_);(case side1 => exact zC (Kd.C_below HR0_1.out HB.1));(case side2 => exact HC0_1.out);rintro e w44 ⟨rfl,hb⟩;refine ⟨_,rfl,?_⟩;replace K261:=zB K261 hb;replace HB:=zS HB hb;(try clear hb)))
  go_ret
  exact ⟨zE,zH HB⟩

/-! ### beaconref14_Check: function 23 -/
def beaconref14_Check.f (k : Nat) (a0_0 : Int) (l0_1 : List (S61)) (l0_2 : List (S61)) (a0_3 : Bool) (a0_4 : Int) : Option (Int) := (beaconref14_May.f k a0_0 l0_1 l0_2 a0_3 a0_4).bind fun t265 => (if t265 = true then (some 0) else (some 1))
theorem beaconref14_Check.mono : ∀ a0 a1 a2 a3 a4 k, LeO (beaconref14_Check.f k a0 a1 a2 a3 a4) (beaconref14_Check.f (k + 1) a0 a1 a2 a3 a4) := by
 intro a0 a1 a2 a3 a4 k
 unfold beaconref14_Check.f
 repeat' first
   | (with_reducible exact beaconref14_May.mono _ _ _ _ _ _)
   | (with_reducible exact LeO.refl _)
   | (with_reducible exact LeO.none _)
   | (with_reducible refine LeO.ite ?_ ?_)
   | (with_reducible refine LeO.bind ?_ (fun _ => ?_))
   | exact beaconref14_May.mono _ _ _ _ _ _
   | exact LeO.none _
   | refine LeO.ite ?_ ?_
   | refine LeO.bind ?_ (fun _ => ?_)
set_option maxHeartbeats 8000000 in
set_option maxRecDepth 100000 in
theorem beaconref14_Check.calls (k : Nat) (a0_0 : Int) (A0_1 : Option Addr) (c0_1 : Nat) (l0_1 : List (S61)) (A0_2 : Option Addr) (c0_2 : Nat) (l0_2 : List (S61)) (a0_3 : Bool) (a0_4 : Int) (r : Int) (w : World) (hr0_1 : Kd.C k61 w A0_1 l0_1.length l0_1) (hc0_1 : l0_1.length ≤ c0_1) (hr0_2 : Kd.C k61 w A0_2 l0_2.length l0_2) (hc0_2 : l0_2.length ≤ c0_2) (h : beaconref14_Check.f k a0_0 l0_1 l0_2 a0_3 a0_4 = some r) :
  Calls Try.prog 23 #[.agg #[.int .u64 a0_0,.slice A0_1 l0_1.length c0_1,.slice A0_2 l0_2.length c0_2,.bool a0_3,.int .i64 a0_4]] w fun e w' => e = .returned (.int .i64 r) ∧ Below w.heap.size w w':=by
 have hu39:=Try.underlying39;have HR0_1:=zA hr0_1;have HC0_1:=zA hc0_1;clear hr0_1 hc0_1;have HR0_2:=zA hr0_2;have HC0_2:=zA hc0_2;clear hr0_2 hc0_2;have HB:=zA (Below.refl w.heap.size w);have H : ((beaconref14_May.f k a0_0 l0_1 l0_2 a0_3 a0_4).bind fun t265 => (if t265 = true then (some 0) else (some 1))) = some r:=h;clear h;replace H:=Option.bind_eq_some_iff.mp H;obtain ⟨t265,A20,H⟩:=H;(try dsimp only at H);have A2:=zA A20;clear A20;by_cases c3 : t265 = true
 ·subst c3;rw [if_pos rfl] at H;obtain rfl:=Option.some.inj H;go_enter Try.func23,Try.ntmps23
  go_wp2_with (first|((with_reducible refine gate_dst (N:=1) rfl ?_);refine zb (N:=1) (cs:=#[.int .u64 a0_0,.slice A0_1 l0_1.length c0_1,.slice A0_2 l0_2.length c0_2,.bool a0_3,.int .i64 a0_4]) (t:=39) ?_;intro G264 hg w4 hbox hb;have K264:=zA (hbox);have GW264:=zN HB hg;have GE264:=zN HB hg;replace HB:=zS HB hb;clear hb hbox hg;obtain ⟨_,_,_,_,_,_,_,_,_,_⟩:=zc5 K264)|((with_reducible refine gate_callee (f:=42) rfl ?_);refine zg (some 5) Try.func42 #[.agg #[.int .u64 a0_0,.slice A0_1 l0_1.length c0_1,.slice A0_2 l0_2.length c0_2,.bool a0_3,.int .i64 a0_4]] ?_;(with_reducible refine (beaconref14_May.calls k a0_0 _ _ l0_1 _ _ l0_2 a0_3 a0_4 true _ ?side1 ?side2 ?side3 ?side4 A2.out).mono ?_);(case side1 => exact zC (Kd.C_below HR0_1.out HB.1));(case side2 => exact HC0_1.out);(case side3 => exact zC (Kd.C_below HR0_2.out HB.1));(case side4 => exact HC0_2.out);rintro e w6 ⟨rfl,hb⟩;refine ⟨_,rfl,?_⟩;replace K264:=zB K264 hb;replace HB:=zS HB hb;(try clear hb)))
  go_ret
  exact ⟨zE,zH HB⟩
 ·replace c3:=Bool.eq_false_iff.mpr c3;subst c3;rw [if_neg (show ¬ (false = true) by decide)] at H;obtain rfl:=Option.some.inj H;go_enter Try.func23,Try.ntmps23
  go_wp2_with (first|((with_reducible refine gate_dst (N:=1) rfl ?_);refine zb (N:=1) (cs:=#[.int .u64 a0_0,.slice A0_1 l0_1.length c0_1,.slice A0_2 l0_2.length c0_2,.bool a0_3,.int .i64 a0_4]) (t:=39) ?_;intro G264 hg w7 hbox hb;have K264:=zA (hbox);have GW264:=zN HB hg;have GE264:=zN HB hg;replace HB:=zS HB hb;clear hb hbox hg;obtain ⟨_,_,_,_,_,_,_,_,_,_⟩:=zc5 K264)|((with_reducible refine gate_callee (f:=42) rfl ?_);refine zg (some 5) Try.func42 #[.agg #[.int .u64 a0_0,.slice A0_1 l0_1.length c0_1,.slice A0_2 l0_2.length c0_2,.bool a0_3,.int .i64 a0_4]] ?_;(with_reducible refine (beaconref14_May.calls k a0_0 _ _ l0_1 _ _ l0_2 a0_3 a0_4 false _ ?side1 ?side2 ?side3 ?side4 A2.out).mono ?_);(case side1 => exact zC (Kd.C_below HR0_1.out HB.1));(case side2 => exact HC0_1.out);(case side3 => exact zC (Kd.C_below HR0_2.out HB.1));(case side4 => exact HC0_2.out);rintro e w9 ⟨rfl,hb⟩;refine ⟨_,rfl,?_⟩;replace K264:=zB K264 hb;replace HB:=zS HB hb;(try clear hb)))
  go_ret
  exact ⟨zE,zH HB⟩

/-! ### beaconref14_Same: function 24 -/
def beaconref14_Same.f (k : Nat) (a0_0 : Int) (l0_1 : List (S61)) (l0_2 : List (S61)) (a0_3 : Bool) (a0_4 : Int) (a1_0 : Int) (l1_1 : List (S61)) (l1_2 : List (S61)) (a1_3 : Bool) (a1_4 : Int) : Option (Bool) := if a0_0 = a1_0 then (if (a0_3 == a1_3) = true then (if a0_4 = a1_4 then ((beaconref06_SameNews.f k l0_1 l1_1).bind fun t268 => (if t268 = true then ((beaconref06_SameNews.f k l0_2 l1_2).bind fun t269 => (some t269)) else (some false))) else (some false)) else (some false)) else (some false)
theorem beaconref14_Same.mono : ∀ a0 a1 a2 a3 a4 a5 a6 a7 a8 a9 k, LeO (beaconref14_Same.f k a0 a1 a2 a3 a4 a5 a6 a7 a8 a9) (beaconref14_Same.f (k + 1) a0 a1 a2 a3 a4 a5 a6 a7 a8 a9) := by
 intro a0 a1 a2 a3 a4 a5 a6 a7 a8 a9 k
 unfold beaconref14_Same.f
 repeat' first
   | (with_reducible exact beaconref06_SameNews.mono _ _ _)
   | (with_reducible exact LeO.refl _)
   | (with_reducible exact LeO.none _)
   | (with_reducible refine LeO.ite ?_ ?_)
   | (with_reducible refine LeO.bind ?_ (fun _ => ?_))
   | exact beaconref06_SameNews.mono _ _ _
   | exact LeO.none _
   | refine LeO.ite ?_ ?_
   | refine LeO.bind ?_ (fun _ => ?_)
set_option maxHeartbeats 8000000 in
set_option maxRecDepth 100000 in
theorem beaconref14_Same.calls (k : Nat) (a0_0 : Int) (A0_1 : Option Addr) (c0_1 : Nat) (l0_1 : List (S61)) (A0_2 : Option Addr) (c0_2 : Nat) (l0_2 : List (S61)) (a0_3 : Bool) (a0_4 : Int) (a1_0 : Int) (A1_1 : Option Addr) (c1_1 : Nat) (l1_1 : List (S61)) (A1_2 : Option Addr) (c1_2 : Nat) (l1_2 : List (S61)) (a1_3 : Bool) (a1_4 : Int) (r : Bool) (w : World) (hr0_1 : Kd.C k61 w A0_1 l0_1.length l0_1) (hc0_1 : l0_1.length ≤ c0_1) (hr0_2 : Kd.C k61 w A0_2 l0_2.length l0_2) (hc0_2 : l0_2.length ≤ c0_2) (hr1_1 : Kd.C k61 w A1_1 l1_1.length l1_1) (hc1_1 : l1_1.length ≤ c1_1) (hr1_2 : Kd.C k61 w A1_2 l1_2.length l1_2) (hc1_2 : l1_2.length ≤ c1_2) (h : beaconref14_Same.f k a0_0 l0_1 l0_2 a0_3 a0_4 a1_0 l1_1 l1_2 a1_3 a1_4 = some r) :
  Calls Try.prog 24 #[.agg #[.int .u64 a0_0,.slice A0_1 l0_1.length c0_1,.slice A0_2 l0_2.length c0_2,.bool a0_3,.int .i64 a0_4],.agg #[.int .u64 a1_0,.slice A1_1 l1_1.length c1_1,.slice A1_2 l1_2.length c1_2,.bool a1_3,.int .i64 a1_4]] w fun e w' => e = .returned (.bool r) ∧ Below w.heap.size w w':=by
 have hu39:=Try.underlying39;have HR0_1:=zA hr0_1;have HC0_1:=zA hc0_1;clear hr0_1 hc0_1;have HR0_2:=zA hr0_2;have HC0_2:=zA hc0_2;clear hr0_2 hc0_2;have HR1_1:=zA hr1_1;have HC1_1:=zA hc1_1;clear hr1_1 hc1_1;have HR1_2:=zA hr1_2;have HC1_2:=zA hc1_2;clear hr1_2 hc1_2;have HB:=zA (Below.refl w.heap.size w);have H : (if a0_0 = a1_0 then (if (a0_3 == a1_3) = true then (if a0_4 = a1_4 then ((beaconref06_SameNews.f k l0_1 l1_1).bind fun t268 => (if t268 = true then ((beaconref06_SameNews.f k l0_2 l1_2).bind fun t269 => (some t269)) else (some false))) else (some false)) else (some false)) else (some false)) = some r:=h;clear h;by_cases c3 : a0_0 = a1_0
 ·rw [if_pos c3] at H;have c3b0 : (a0_0 == a1_0) = true:=beq_iff_eq.mpr c3;have c3b1 : (a0_0 != a1_0) = false:=bne_eq_false_iff_eq.mpr c3;clear c3;by_cases c4 : (a0_3 == a1_3) = true
  ·rw [if_pos c4] at H;have c4b0 : (a0_3 == a1_3) = true:=c4;(try (have c4b1 : decide (a0_3 = a1_3) = true:=by simpa using c4));(try (have c4b2 : (a0_3 == a1_3) = true:=by simpa using c4));clear c4;by_cases c5 : a0_4 = a1_4
   ·rw [if_pos c5] at H;have c5b0 : (a0_4 == a1_4) = true:=beq_iff_eq.mpr c5;have c5b1 : (a0_4 != a1_4) = false:=bne_eq_false_iff_eq.mpr c5;clear c5;replace H:=Option.bind_eq_some_iff.mp H;obtain ⟨t268,A60,H⟩:=H;(try dsimp only at H);have A6:=zA A60;clear A60;by_cases c7 : t268 = true
    ·subst c7;rw [if_pos rfl] at H;replace H:=Option.bind_eq_some_iff.mp H;obtain ⟨t269,A80,H⟩:=H;(try dsimp only at H);have A8:=zA A80;clear A80;obtain rfl:=Option.some.inj H;go_enter Try.func24,Try.ntmps24
     go_wp2_with (first|((with_reducible refine gate_dst (N:=2) rfl ?_);refine zb (N:=2) (cs:=#[.int .u64 a0_0,.slice A0_1 l0_1.length c0_1,.slice A0_2 l0_2.length c0_2,.bool a0_3,.int .i64 a0_4]) (t:=39) ?_;intro G266 hg w9 hbox hb;have K266:=zA (hbox);have GW266:=zN HB hg;have GE266:=zN HB hg;replace HB:=zS HB hb;clear hb hbox hg)|((with_reducible refine gate_dst (N:=3) rfl ?_);refine zb (N:=3) (cs:=#[.int .u64 a1_0,.slice A1_1 l1_1.length c1_1,.slice A1_2 l1_2.length c1_2,.bool a1_3,.int .i64 a1_4]) (t:=39) ?_;intro G267 hg w10 hbox hb;have K267:=zA (hbox);have GW267:=zN HB hg;have GE267:=zN HB hg;replace HB:=zS HB hb;have NB266_267:=zL K266 hg;have NB267_266:=zG K266 hg;replace K266:=zB K266 hb;clear hb hbox hg;have:=NB266_267.1;have:=NB267_266.1;obtain ⟨_,_,_,_,_,_,_,_,_,_⟩:=zc5 K266;obtain ⟨_,_,_,_,_,_,_,_,_,_⟩:=zc5 K267)|(go_at_call 17;(with_reducible refine (beaconref06_SameNews.calls k _ _ l0_1 _ _ l1_1 true _ ?side1 ?side2 ?side3 ?side4 A6.out).mono ?_);(case side1 => exact zC (Kd.C_below HR0_1.out HB.1));(case side2 => exact HC0_1.out);(case side3 => exact zC (Kd.C_below HR1_1.out HB.1));(case side4 => exact HC1_1.out);rintro e w14 ⟨rfl,hb⟩;replace K266:=zB K266 hb;replace K267:=zB K267 hb;replace HB:=zS HB hb;(try clear hb);obtain ⟨_,_,_,_,_,_,_,_,_,_⟩:=zc5 K266;obtain ⟨_,_,_,_,_,_,_,_,_,_⟩:=zc5 K267)|(go_at_call 17;(with_reducible refine (beaconref06_SameNews.calls k _ _ l0_2 _ _ l1_2 t269 _ ?side1 ?side2 ?side3 ?side4 A8.out).mono ?_);(case side1 => exact zC (Kd.C_below HR0_2.out HB.1));(case side2 => exact HC0_2.out);(case side3 => exact zC (Kd.C_below HR1_2.out HB.1));(case side4 => exact HC1_2.out);rintro e w17 ⟨rfl,hb⟩;replace K266:=zB K266 hb;replace K267:=zB K267 hb;replace HB:=zS HB hb;(try clear hb)))
     go_ret
     exact ⟨zE,zH HB⟩
    ·replace c7:=Bool.eq_false_iff.mpr c7;subst c7;rw [if_neg (show ¬ (false = true) by decide)] at H;obtain rfl:=Option.some.inj H;go_enter Try.func24,Try.ntmps24
     go_wp2_with (first|((with_reducible refine gate_dst (N:=2) rfl ?_);refine zb (N:=2) (cs:=#[.int .u64 a0_0,.slice A0_1 l0_1.length c0_1,.slice A0_2 l0_2.length c0_2,.bool a0_3,.int .i64 a0_4]) (t:=39) ?_;intro G266 hg w18 hbox hb;have K266:=zA (hbox);have GW266:=zN HB hg;have GE266:=zN HB hg;replace HB:=zS HB hb;clear hb hbox hg)|((with_reducible refine gate_dst (N:=3) rfl ?_);refine zb (N:=3) (cs:=#[.int .u64 a1_0,.slice A1_1 l1_1.length c1_1,.slice A1_2 l1_2.length c1_2,.bool a1_3,.int .i64 a1_4]) (t:=39) ?_;intro G267 hg w19 hbox hb;have K267:=zA (hbox);have GW267:=zN HB hg;have GE267:=zN HB hg;replace HB:=zS HB hb;have NB266_267:=zL K266 hg;have NB267_266:=zG K266 hg;replace K266:=zB K266 hb;clear hb hbox hg;have:=NB266_267.1;have:=NB267_266.1;obtain ⟨_,_,_,_,_,_,_,_,_,_⟩:=zc5 K266;obtain ⟨_,_,_,_,_,_,_,_,_,_⟩:=zc5 K267)|(go_at_call 17;(with_reducible refine (beaconref06_SameNews.calls k _ _ l0_1 _ _ l1_1 false _ ?side1 ?side2 ?side3 ?side4 A6.out).mono ?_);(case side1 => exact zC (Kd.C_below HR0_1.out HB.1));(case side2 => exact HC0_1.out);(case side3 => exact zC (Kd.C_below HR1_1.out HB.1));(case side4 => exact HC1_1.out);rintro e w23 ⟨rfl,hb⟩;replace K266:=zB K266 hb;replace K267:=zB K267 hb;replace HB:=zS HB hb;(try clear hb)))
     go_ret
     exact ⟨zE,zH HB⟩
   ·rw [if_neg c5] at H;have c5b0 : (a0_4 == a1_4) = false:=beq_eq_false_iff_ne.mpr c5;have c5b1 : (a0_4 != a1_4) = true:=bne_iff_ne.mpr c5;obtain rfl:=Option.some.inj H;go_enter Try.func24,Try.ntmps24
    go_wp2_with (first|((with_reducible refine gate_dst (N:=2) rfl ?_);refine zb (N:=2) (cs:=#[.int .u64 a0_0,.slice A0_1 l0_1.length c0_1,.slice A0_2 l0_2.length c0_2,.bool a0_3,.int .i64 a0_4]) (t:=39) ?_;intro G266 hg w24 hbox hb;have K266:=zA (hbox);have GW266:=zN HB hg;have GE266:=zN HB hg;replace HB:=zS HB hb;clear hb hbox hg)|((with_reducible refine gate_dst (N:=3) rfl ?_);refine zb (N:=3) (cs:=#[.int .u64 a1_0,.slice A1_1 l1_1.length c1_1,.slice A1_2 l1_2.length c1_2,.bool a1_3,.int .i64 a1_4]) (t:=39) ?_;intro G267 hg w25 hbox hb;have K267:=zA (hbox);have GW267:=zN HB hg;have GE267:=zN HB hg;replace HB:=zS HB hb;have NB266_267:=zL K266 hg;have NB267_266:=zG K266 hg;replace K266:=zB K266 hb;clear hb hbox hg;have:=NB266_267.1;have:=NB267_266.1;obtain ⟨_,_,_,_,_,_,_,_,_,_⟩:=zc5 K266;obtain ⟨_,_,_,_,_,_,_,_,_,_⟩:=zc5 K267))
    go_ret
    exact ⟨zE,zH HB⟩
  ·rw [if_neg c4] at H;have c4b0 : (a0_3 == a1_3) = false:=by simpa using c4
   (try (have c4b1 : decide (a0_3 = a1_3) = false:=by simpa using c4));(try (have c4b2 : (a0_3 == a1_3) = false:=by simpa using c4));(try (have c4b3 : ¬ (a0_3 = a1_3):=by simpa using c4));clear c4;obtain rfl:=Option.some.inj H;go_enter Try.func24,Try.ntmps24
   go_wp2_with (first|((with_reducible refine gate_dst (N:=2) rfl ?_);refine zb (N:=2) (cs:=#[.int .u64 a0_0,.slice A0_1 l0_1.length c0_1,.slice A0_2 l0_2.length c0_2,.bool a0_3,.int .i64 a0_4]) (t:=39) ?_;intro G266 hg w29 hbox hb;have K266:=zA (hbox);have GW266:=zN HB hg;have GE266:=zN HB hg;replace HB:=zS HB hb;clear hb hbox hg)|((with_reducible refine gate_dst (N:=3) rfl ?_);refine zb (N:=3) (cs:=#[.int .u64 a1_0,.slice A1_1 l1_1.length c1_1,.slice A1_2 l1_2.length c1_2,.bool a1_3,.int .i64 a1_4]) (t:=39) ?_;intro G267 hg w30 hbox hb;have K267:=zA (hbox);have GW267:=zN HB hg;have GE267:=zN HB hg;replace HB:=zS HB hb;have NB266_267:=zL K266 hg;have NB267_266:=zG K266 hg;replace K266:=zB K266 hb;clear hb hbox hg;have:=NB266_267.1;have:=NB267_266.1;obtain ⟨_,_,_,_,_,_,_,_,_,_⟩:=zc5 K266;obtain ⟨_,_,_,_,_,_,_,_,_,_⟩:=zc5 K267))
   go_ret
   exact ⟨zE,zH HB⟩
 ·rw [if_neg c3] at H;have c3b0 : (a0_0 == a1_0) = false:=beq_eq_false_iff_ne.mpr c3;have c3b1 : (a0_0 != a1_0) = true:=bne_iff_ne.mpr c3;obtain rfl:=Option.some.inj H;go_enter Try.func24,Try.ntmps24
  go_wp2_with (first|((with_reducible refine gate_dst (N:=2) rfl ?_);refine zb (N:=2) (cs:=#[.int .u64 a0_0,.slice A0_1 l0_1.length c0_1,.slice A0_2 l0_2.length c0_2,.bool a0_3,.int .i64 a0_4]) (t:=39) ?_;intro G266 hg w34 hbox hb;have K266:=zA (hbox);have GW266:=zN HB hg;have GE266:=zN HB hg;replace HB:=zS HB hb;clear hb hbox hg)|((with_reducible refine gate_dst (N:=3) rfl ?_);refine zb (N:=3) (cs:=#[.int .u64 a1_0,.slice A1_1 l1_1.length c1_1,.slice A1_2 l1_2.length c1_2,.bool a1_3,.int .i64 a1_4]) (t:=39) ?_;intro G267 hg w35 hbox hb;have K267:=zA (hbox);have GW267:=zN HB hg;have GE267:=zN HB hg;replace HB:=zS HB hb;have NB266_267:=zL K266 hg;have NB267_266:=zG K266 hg;replace K266:=zB K266 hb;clear hb hbox hg;have:=NB266_267.1;have:=NB267_266.1;obtain ⟨_,_,_,_,_,_,_,_,_,_⟩:=zc5 K266;obtain ⟨_,_,_,_,_,_,_,_,_,_⟩:=zc5 K267))
  go_ret
  exact ⟨zE,zH HB⟩

/-! ### beaconref14_place: function 45 -/
def beaconref14_place.l0 : Nat → List (S61) → Int → Int → Int → Nat → Nat → Int → Option (Int)
 | 0, _, _, _, _, _, _, _ => none
 | k + 1, x0, x5, x271000, x271001, x271002, x271003, x271004 => if x5 < (x0.length : Int) then (if 0 ≤ x5 then (if ((rd_T61 x0 x5).f1) = x271001 then (if ((rd_T61 x0 x5).f0) = x271000 then (some x5) else (beaconref14_place.l0 k x0 (wrap64 (x5 + 1)) x271000 x271001 x271002 x271003 x271004)) else (beaconref14_place.l0 k x0 (wrap64 (x5 + 1)) x271000 x271001 x271002 x271003 x271004)) else (none)) else (some (-1))
def beaconref14_place.f (k : Nat) (l0 : List (S61)) (a1_0 : Int) (a1_1 : Int) (a1_2 : Nat) (a1_3 : Nat) (a1_4 : Int) : Option (Int) := beaconref14_place.l0 k l0 0 a1_0 a1_1 a1_2 a1_3 a1_4
theorem beaconref14_place.mono_l : ∀ k, (∀ y0 y1 y2 y3 y4 y5 y6, LeO (beaconref14_place.l0 k y0 y1 y2 y3 y4 y5 y6) (beaconref14_place.l0 (k + 1) y0 y1 y2 y3 y4 y5 y6))
 | 0 => fun _ _ _ _ _ _ _ r h => by simp [beaconref14_place.l0] at h
 | k + 1 => by
  have ih0:=beaconref14_place.mono_l k
  ·intro y0 y1 y2 y3 y4 y5 y6
   unfold beaconref14_place.l0
   repeat' first
   | (with_reducible exact ih0 _ _ _ _ _ _ _)
   | (with_reducible exact LeO.refl _)
   | (with_reducible exact LeO.none _)
   | (with_reducible refine LeO.ite ?_ ?_)
   | (with_reducible refine LeO.bind ?_ (fun _ => ?_))
   | exact ih0 _ _ _ _ _ _ _
   | exact LeO.none _
   | refine LeO.ite ?_ ?_
   | refine LeO.bind ?_ (fun _ => ?_)
theorem beaconref14_place.mono : ∀ a0 a1 a2 a3 a4 a5 k, LeO (beaconref14_place.f k a0 a1 a2 a3 a4 a5) (beaconref14_place.f (k + 1) a0 a1 a2 a3 a4 a5) := by
 intro a0 a1 a2 a3 a4 a5 k
 have ih0:=beaconref14_place.mono_l k
 unfold beaconref14_place.f
 repeat' first
   | (with_reducible exact ih0 _ _ _ _ _ _ _)
   | (with_reducible exact LeO.refl _)
   | (with_reducible exact LeO.none _)
   | (with_reducible refine LeO.ite ?_ ?_)
   | (with_reducible refine LeO.bind ?_ (fun _ => ?_))
   | exact ih0 _ _ _ _ _ _ _
   | exact LeO.none _
   | refine LeO.ite ?_ ?_
   | refine LeO.bind ?_ (fun _ => ?_)
set_option maxHeartbeats 8000000 in
set_option maxRecDepth 100000 in
theorem beaconref14_place.calls (k : Nat) (A0 : Option Addr) (c0 : Nat) (l0 : List (S61)) (a1_0 : Int) (a1_1 : Int) (a1_2 : Nat) (a1_3 : Nat) (a1_4 : Int) (r : Int) (w : World) (hr0 : Kd.C k61 w A0 l0.length l0) (hc0 : l0.length ≤ c0) (h : beaconref14_place.f k l0 a1_0 a1_1 a1_2 a1_3 a1_4 = some r) :
  Calls Try.prog 45 #[.slice A0 l0.length c0,.agg #[.int .i64 a1_0,.int .i64 a1_1,.float .f64 a1_2,.float .f64 a1_3,.int .i64 a1_4]] w fun e w' => e = .returned (.int .i64 r) ∧ Below w.heap.size w w':=by
 have hu61:=Try.underlying61;have HR0:=zA hr0;have HC0:=zA hc0;clear hr0 hc0;have HB:=zA (Below.refl w.heap.size w);have H : (beaconref14_place.l0 k l0 0 a1_0 a1_1 a1_2 a1_3 a1_4) = some r:=h;clear h;have H':=zA H;clear H;go_enter Try.func45,Try.ntmps45
 go_wp2_with (first|((with_reducible refine gate_dst (N:=3) rfl ?_);refine zb (N:=3) (cs:=#[.int .i64 a1_0,.int .i64 a1_1,.float .f64 a1_2,.float .f64 a1_3,.int .i64 a1_4]) (t:=61) ?_;intro G270 hg w3 hbox hb;have K270:=zA (hbox);have GW270:=zN HB hg;have GE270:=zN HB hg;replace HB:=zS HB hb;clear hb hbox hg))
 repeat (go_quiet (first|((with_reducible refine gate_dst (N:=3) rfl ?_);refine zb (N:=3) (cs:=#[.int .i64 a1_0,.int .i64 a1_1,.float .f64 a1_2,.float .f64 a1_3,.int .i64 a1_4]) (t:=61) ?_;intro G270 hg w3 hbox hb;have K270:=zA (hbox);have GW270:=zN HB hg;have GE270:=zN HB hg;replace HB:=zS HB hb;clear hb hbox hg));try go_wp2_with (first|((with_reducible refine gate_dst (N:=3) rfl ?_);refine zb (N:=3) (cs:=#[.int .i64 a1_0,.int .i64 a1_1,.float .f64 a1_2,.float .f64 a1_3,.int .i64 a1_4]) (t:=61) ?_;intro G270 hg w3 hbox hb;have K270:=zA (hbox);have GW270:=zN HB hg;have GE270:=zN HB hg;replace HB:=zS HB hb;clear hb hbox hg)))
 go_loopg [5] k (fun kq v5 w' => ∃ (x5_1 : Int),v5 = .int .i64 x5_1 ∧ Aside0 (beaconref14_place.l0 kq l0 x5_1 a1_0 a1_1 a1_2 a1_3 a1_4 = some r) ∧ Aside0 (kq ≤ k) ∧ Aside0 (w'.heap[G270]? = some (.cells #[.int .i64 a1_0,.int .i64 a1_1,.float .f64 a1_2,.float .f64 a1_3,.int .i64 a1_4] 61 (0,0))) ∧ Aside0 (Below w.heap.size w w'))
 case atStart => exact ⟨(0),ze,H',⟨Nat.le_refl _⟩,⟨z1 K270.1⟩,⟨zH HB⟩⟩
 case round =>
  clear H';obtain ⟨x5_1,rfl,HA,HK1,K270,HB⟩:=hrel;cases gk with
  | zero => exact absurd HA.out (by simp [beaconref14_place.l0])
  | succ k1 =>
   have H:=HA.out;clear HA;simp only [beaconref14_place.l0] at H;by_cases c4 : x5_1 < (l0.length : Int)
   ·rw [if_pos c4] at H;have c4b0 : decide (x5_1 < (l0.length : Int)) = true:=decide_eq_true c4;clear c4;by_cases c5 : 0 ≤ x5_1
    ·rw [if_pos c5] at H;have c5b0 : decide (0 ≤ x5_1) = true:=decide_eq_true c5;clear c5;by_cases c6 : ((rd_T61 l0 x5_1).f1) = a1_1
     ·rw [if_pos c6] at H;have c6b0 : (((rd_T61 l0 x5_1).f1) == a1_1) = true:=beq_iff_eq.mpr c6;have c6b1 : (((rd_T61 l0 x5_1).f1) != a1_1) = false:=bne_eq_false_iff_eq.mpr c6;clear c6;by_cases c7 : ((rd_T61 l0 x5_1).f0) = a1_0
      ·rw [if_pos c7] at H;have c7b0 : (((rd_T61 l0 x5_1).f0) == a1_0) = true:=beq_iff_eq.mpr c7;have c7b1 : (((rd_T61 l0 x5_1).f0) != a1_0) = false:=bne_eq_false_iff_eq.mpr c7;clear c7;obtain rfl:=Option.some.inj H;have p271 : 0 ≤ (x5_1 : Int):=zd;have q271 : x5_1 < (l0.length : Int):=zd;obtain ⟨ad271,e271,hx271_0,hx271_1,hx271_2,hx271_3,hx271_4⟩:=at_T61 HR0.out x5_1 p271 q271;cases e271;replace hx271_0:=zh HB hx271_0;replace hx271_1:=zh HB hx271_1;replace hx271_2:=zh HB hx271_2;replace hx271_3:=zh HB hx271_3;replace hx271_4:=zh HB hx271_4;replace p271:=eq_true p271;replace q271:=eq_true q271;obtain ⟨_,_,_,_,_,_,_,_,_,_⟩:=zc5 K270;have p272 : 0 ≤ (x5_1 : Int):=zd;have q272 : x5_1 < (l0.length : Int):=zd;obtain ⟨ad272,e272,hx272_0,hx272_1,hx272_2,hx272_3,hx272_4⟩:=at_T61 HR0.out x5_1 p272 q272;obtain rfl : ad271 = ad272:=(by injection e272);replace hx272_0:=zh HB hx272_0;replace hx272_1:=zh HB hx272_1;replace hx272_2:=zh HB hx272_2;replace hx272_3:=zh HB hx272_3;replace hx272_4:=zh HB hx272_4;replace p272:=eq_true p272;replace q272:=eq_true q272;go_wp2
       repeat (go_quiet (fail);try go_wp2)
       go_ret
       exact ⟨zE,zH HB⟩
      ·rw [if_neg c7] at H;have c7b0 : (((rd_T61 l0 x5_1).f0) == a1_0) = false:=beq_eq_false_iff_ne.mpr c7;have c7b1 : (((rd_T61 l0 x5_1).f0) != a1_0) = true:=bne_iff_ne.mpr c7;have H':=zA H;clear H;have p271 : 0 ≤ (x5_1 : Int):=zd;have q271 : x5_1 < (l0.length : Int):=zd;obtain ⟨ad271,e271,hx271_0,hx271_1,hx271_2,hx271_3,hx271_4⟩:=at_T61 HR0.out x5_1 p271 q271;cases e271;replace hx271_0:=zh HB hx271_0;replace hx271_1:=zh HB hx271_1;replace hx271_2:=zh HB hx271_2;replace hx271_3:=zh HB hx271_3;replace hx271_4:=zh HB hx271_4;replace p271:=eq_true p271;replace q271:=eq_true q271;obtain ⟨_,_,_,_,_,_,_,_,_,_⟩:=zc5 K270;have p272 : 0 ≤ (x5_1 : Int):=zd;have q272 : x5_1 < (l0.length : Int):=zd;obtain ⟨ad272,e272,hx272_0,hx272_1,hx272_2,hx272_3,hx272_4⟩:=at_T61 HR0.out x5_1 p272 q272;obtain rfl : ad271 = ad272:=(by injection e272);replace hx272_0:=zh HB hx272_0;replace hx272_1:=zh HB hx272_1;replace hx272_2:=zh HB hx272_2;replace hx272_3:=zh HB hx272_3;replace hx272_4:=zh HB hx272_4;replace p272:=eq_true p272;replace q272:=eq_true q272;go_wp2
       repeat (go_quiet (fail);try go_wp2)
       go_roundg k1
       case measure => have:=HK1.out;omega
       case rel => exact ⟨(wrap64 (x5_1 + 1)),ze,H',⟨by have:=HK1.out;omega⟩,⟨z1 K270.1⟩,⟨zH HB⟩⟩
     ·rw [if_neg c6] at H;have c6b0 : (((rd_T61 l0 x5_1).f1) == a1_1) = false:=beq_eq_false_iff_ne.mpr c6;have c6b1 : (((rd_T61 l0 x5_1).f1) != a1_1) = true:=bne_iff_ne.mpr c6;have H':=zA H;clear H;have p271 : 0 ≤ (x5_1 : Int):=zd;have q271 : x5_1 < (l0.length : Int):=zd;obtain ⟨ad271,e271,hx271_0,hx271_1,hx271_2,hx271_3,hx271_4⟩:=at_T61 HR0.out x5_1 p271 q271;cases e271;replace hx271_0:=zh HB hx271_0;replace hx271_1:=zh HB hx271_1;replace hx271_2:=zh HB hx271_2;replace hx271_3:=zh HB hx271_3;replace hx271_4:=zh HB hx271_4;replace p271:=eq_true p271;replace q271:=eq_true q271;obtain ⟨_,_,_,_,_,_,_,_,_,_⟩:=zc5 K270;go_wp2
      repeat (go_quiet (fail);try go_wp2)
      go_roundg k1
      case measure => have:=HK1.out;omega
      case rel => exact ⟨(wrap64 (x5_1 + 1)),ze,H',⟨by have:=HK1.out;omega⟩,⟨z1 K270.1⟩,⟨zH HB⟩⟩
    ·rw [if_neg c5] at H;exact absurd H (by simp)
   ·rw [if_neg c4] at H;have c4b0 : decide (x5_1 < (l0.length : Int)) = false:=decide_eq_false c4;clear c4;obtain rfl:=Option.some.inj H;go_wp2
    repeat (go_quiet (fail);try go_wp2)
    go_ret
    exact ⟨zE,zH HB⟩

end Go.Proofs.Ytpcgjdllgdkobaa.XP
