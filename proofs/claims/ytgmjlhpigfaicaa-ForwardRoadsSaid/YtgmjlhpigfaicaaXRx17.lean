/- Go functions of this seat as Lean functions, with proofs that the calls come to them. (Written by xprint.py, a program of this session, over the kit's print.) -/
import Derived.Test.YtgmjlhpigfaicaaXRx0
import Derived.Test.YtgmjlhpigfaicaaXRx12
import Derived.Test.YtgmjlhpigfaicaaXRx13
import Derived.Test.YtgmjlhpigfaicaaXRx14
namespace Go.Proofs.Ytgmjlhpigfaicaa.XR
open Go.RowKit Go.Proofs.YtgmjlhpigfaicaaW.PrintWords Go.Proofs.YtgmjlhpigfaicaaW.PrintLast Go.Proofs.YtgmjlhpigfaicaaW.PrintMore
attribute [local go_sem] max2_int min2_int max_two min_two max_three min_three max_four min_four   -- for this text's walks alone
set_option linter.unusedVariables false
set_option linter.unusedSimpArgs false
open List renaming setIfInBounds_toArray → xA, set_cons_zero → xB, set_cons_succ → xC
open Go.Proofs.YtgmjlhpigfaicaaW.PrintWords renaming blk_drewN → bN, blk_drew → bD, blk_alloc → bA, below_set → bS, blk_frozen → bF, blk_cell → bC, cell_far → cF, blk_far → bZ, blk_below → bB, pw_below_drewN → bwN, below_drew1 → bw1, below_alloc → bwA
open Go.Proofs.YtgmjlhpigfaicaaW.PrintZ
open Bool renaming true → T,false → F

/-! ### beaconref08_place: function 103 -/
def beaconref08_place.l0 : Nat → Int → Int → List (S108) → List (S117) → Option (Int)
 | 0, _, _, _, _ => none
 | k + 1, x1, x5, Ac, Ah => if x5 < (Ac.length : Int) then (if 0 ≤ x5 then (if ((rd_T108 Ac x5).f0) = x1 then (some x5) else (beaconref08_place.l0 k x1 (wrap64 (x5 + 1)) Ac Ah)) else (none)) else (some (-1))
def beaconref08_place.f (k : Nat) (l0_0 : List (S108)) (l0_1 : List (S117)) (a1 : Int) : Option (Int) := beaconref08_place.l0 k a1 0 l0_0 l0_1
set_option maxHeartbeats 8000000 in
set_option maxRecDepth 100000 in
theorem beaconref08_place.calls (k : Nat) (A0_0 : Option Addr) (c0_0 : Nat) (l0_0 : List (S108)) (A0_1 : Option Addr) (c0_1 : Nat) (l0_1 : List (S117)) (a1 : Int) (r : Int) (w : World) (hr0_0 : Kd.C k108 w A0_0 l0_0.length l0_0) (hc0_0 : l0_0.length ≤ c0_0) (hr0_1 : Kd.C k117 w A0_1 l0_1.length l0_1) (hc0_1 : l0_1.length ≤ c0_1) (h : beaconref08_place.f k l0_0 l0_1 a1 = some r) :
  Calls Try.prog 103 #[.agg #[.slice A0_0 l0_0.length c0_0,.slice A0_1 l0_1.length c0_1],.int .i64 a1] w fun e w' => e = .returned (.int .i64 r) ∧ Below w.heap.size w w':=by
 have hu67:=Try.underlying67;have HR0_0:=zA hr0_0;have HC0_0:=zA hc0_0;clear hr0_0 hc0_0;have HR0_1:=zA hr0_1;have HC0_1:=zA hc0_1;clear hr0_1 hc0_1;have HB:=zA (Below.refl w.heap.size w);have H : (beaconref08_place.l0 k a1 0 l0_0 l0_1) = some r:=h;clear h;have H':=zA H;clear H;go_enter Try.func103,Try.ntmps103
 go_wp2_with (first|((with_reducible refine gate_dst (N:=2) rfl ?_);refine zb (N:=2) (cs:=#[.slice A0_0 l0_0.length c0_0,.slice A0_1 l0_1.length c0_1]) (t:=67) ?_;intro G355 hg w3 hbox hb;have K355:=zA (hbox);have Ao:=zN HB hg;have Ap:=zN HB hg;replace HB:=zS HB hb;clear hb hbox hg))
 go_loopg [5] k (fun kq v5 w' => ∃ (Aa : Int),v5 = .int .i64 Aa ∧ Aside0 (beaconref08_place.l0 kq a1 Aa l0_0 l0_1 = some r) ∧ Aside0 (kq ≤ k) ∧ Aside0 (w'.heap[G355]? = some (.cells #[(.slice A0_0 l0_0.length c0_0),(.slice A0_1 l0_1.length c0_1)] 67 (0,0))) ∧ Aside0 (Below w.heap.size w w'))
 case atStart => exact ⟨(0),ze,H',⟨Nat.le_refl _⟩,⟨z1 K355.1⟩,⟨zH HB⟩⟩
 case round =>
  clear H';obtain ⟨Aa,rfl,HA,HK1,K355,HB⟩:=hrel;cases gk with
  | zero => exact absurd HA.out (by simp [beaconref08_place.l0])
  | succ k1 =>
   have H:=HA.out;clear HA;simp only [beaconref08_place.l0] at H;by_cases c4 : Aa < (l0_0.length : Int)
   ·rw [if_pos c4] at H;have Ai : decide (Aa < (l0_0.length : Int)) = true:=decide_eq_true c4;clear c4;by_cases c5 : 0 ≤ Aa
    ·rw [if_pos c5] at H;have Ak : decide (0 ≤ Aa) = true:=decide_eq_true c5;clear c5;by_cases c6 : ((rd_T108 l0_0 Aa).f0) = a1
     ·rw [if_pos c6] at H;have Al : (((rd_T108 l0_0 Aa).f0) == a1) = true:=beq_iff_eq.mpr c6;have Am : (((rd_T108 l0_0 Aa).f0) != a1) = false:=bne_eq_false_iff_eq.mpr c6;clear c6;obtain rfl:=Option.some.inj H;obtain ⟨_,_,_,_⟩:=zc2 K355;have p356 : 0 ≤ (Aa : Int):=zd;have q356 : Aa < (l0_0.length : Int):=zd;obtain ⟨ad356,e356,hx356_0,hx356_1,hx356_2⟩:=at_T108 HR0_0.out Aa p356 q356;cases e356;replace hx356_0:=zh HB hx356_0;replace hx356_1:=zh HB hx356_1;replace hx356_2:=zh HB hx356_2;replace p356:=eq_true p356;replace q356:=eq_true q356;go_wp2
      go_ret
      exact ⟨zE,zH HB⟩
     ·rw [if_neg c6] at H;have Al : (((rd_T108 l0_0 Aa).f0) == a1) = false:=beq_eq_false_iff_ne.mpr c6;have Am : (((rd_T108 l0_0 Aa).f0) != a1) = true:=bne_iff_ne.mpr c6;have H':=zA H;clear H;obtain ⟨_,_,_,_⟩:=zc2 K355;have p356 : 0 ≤ (Aa : Int):=zd;have q356 : Aa < (l0_0.length : Int):=zd;obtain ⟨ad356,e356,hx356_0,hx356_1,hx356_2⟩:=at_T108 HR0_0.out Aa p356 q356;cases e356;replace hx356_0:=zh HB hx356_0;replace hx356_1:=zh HB hx356_1;replace hx356_2:=zh HB hx356_2;replace p356:=eq_true p356;replace q356:=eq_true q356;go_wp2
      go_roundg k1
      case measure => have:=HK1.out;omega
      case rel => exact ⟨(wrap64 (Aa + 1)),ze,H',⟨by have:=HK1.out;omega⟩,⟨z1 K355.1⟩,⟨zH HB⟩⟩
    ·rw [if_neg c5] at H;exact absurd H (by simp)
   ·rw [if_neg c4] at H;have Ai : decide (Aa < (l0_0.length : Int)) = false:=decide_eq_false c4;clear c4;obtain rfl:=Option.some.inj H;obtain ⟨_,_,_,_⟩:=zc2 K355;go_wp2
    go_ret
    exact ⟨zE,zH HB⟩

/-! ### beaconref08_asked: function 88 -/
def beaconref08_asked.f (k : Nat) (l0_0 : List (S108)) (l0_1 : List (S117)) (a1 : Nat) (a2 : Int) : Option (Int) := (beaconref01_Limit.f a1).bind fun Ad => (if Ad = 0 then ((beaconref07_Check.f k l0_0 l0_1).bind fun Ab => (if Ab = 0 then ((beaconref08_place.f k l0_0 l0_1 a2).bind fun Ae => (if Ae < 0 then (none) else (some Ab))) else (none))) else (none))
set_option maxHeartbeats 8000000 in
set_option maxRecDepth 100000 in
theorem beaconref08_asked.calls (k : Nat) (A0_0 : Option Addr) (c0_0 : Nat) (l0_0 : List (S108)) (A0_1 : Option Addr) (c0_1 : Nat) (l0_1 : List (S117)) (a1 : Nat) (a2 : Int) (r : Int) (w : World) (hr0_0 : Kd.C k108 w A0_0 l0_0.length l0_0) (hc0_0 : l0_0.length ≤ c0_0) (hr0_1 : Kd.C k117 w A0_1 l0_1.length l0_1) (hc0_1 : l0_1.length ≤ c0_1) (h : beaconref08_asked.f k l0_0 l0_1 a1 a2 = some r) :
  Calls Try.prog 88 #[.agg #[.slice A0_0 l0_0.length c0_0,.slice A0_1 l0_1.length c0_1],.float .f64 a1,.int .i64 a2] w fun e w' => e = .returned (.int .i64 r) ∧ Below w.heap.size w w':=by
 have hu67:=Try.underlying67;have HR0_0:=zA hr0_0;have HC0_0:=zA hc0_0;clear hr0_0 hc0_0;have HR0_1:=zA hr0_1;have HC0_1:=zA hc0_1;clear hr0_1 hc0_1;have HB:=zA (Below.refl w.heap.size w);have H : ((beaconref01_Limit.f a1).bind fun Ad => (if Ad = 0 then ((beaconref07_Check.f k l0_0 l0_1).bind fun Ab => (if Ab = 0 then ((beaconref08_place.f k l0_0 l0_1 a2).bind fun Ae => (if Ae < 0 then (none) else (some Ab))) else (none))) else (none))) = some r:=h;clear h;replace H:=Option.bind_eq_some_iff.mp H;obtain ⟨Ad,A40,H⟩:=H;(try dsimp only at H);have A4:=zA A40;clear A40;by_cases c5 : Ad = 0
 ·rw [if_pos c5] at H;have Ak : (Ad == 0) = true:=beq_iff_eq.mpr c5;have As : (Ad != 0) = false:=bne_eq_false_iff_eq.mpr c5;clear c5;replace H:=Option.bind_eq_some_iff.mp H;obtain ⟨Ab,A60,H⟩:=H;(try dsimp only at H);have A6:=zA A60;clear A60;by_cases c7 : Ab = 0
  ·rw [if_pos c7] at H;have Aj : (Ab == 0) = true:=beq_iff_eq.mpr c7;have At : (Ab != 0) = false:=bne_eq_false_iff_eq.mpr c7;clear c7;replace H:=Option.bind_eq_some_iff.mp H;obtain ⟨Ae,A80,H⟩:=H;(try dsimp only at H);have A8:=zA A80;clear A80;by_cases c9 : Ae < 0
   ·rw [if_pos c9] at H;exact absurd H (by simp)
   ·rw [if_neg c9] at H;have Au : decide (Ae < 0) = false:=decide_eq_false c9;clear c9;obtain rfl:=Option.some.inj H;go_enter Try.func88,Try.ntmps88
    go_wp2_with (first|((with_reducible refine gate_dst (N:=3) rfl ?_);refine zb (N:=3) (cs:=#[.slice A0_0 l0_0.length c0_0,.slice A0_1 l0_1.length c0_1]) (t:=67) ?_;intro G357 hg w10 hbox hb;have K357:=zA (hbox);have Aq:=zN HB hg;have Ar:=zN HB hg;replace HB:=zS HB hb;clear hb hbox hg)|((with_reducible refine gate_callee (f:=87) rfl ?_);refine zg (some 9) Try.func87 #[.float .f64 a1] ?_;(with_reducible refine (beaconref01_Limit.calls a1 Ad _ A4.out).mono ?_);rintro e w' ⟨rfl,⟨nd,rfl⟩⟩;refine ⟨_,rfl,?_⟩;obtain ⟨_,_,_,_⟩:=zc2 K357)|((with_reducible refine gate_callee (f:=42) rfl ?_);refine zg (some 14) Try.func42 #[.agg #[.slice A0_0 l0_0.length c0_0,.slice A0_1 l0_1.length c0_1]] ?_;(with_reducible refine (beaconref07_Check.calls k _ _ l0_0 _ _ l0_1 Ab _ ?side1 ?side2 ?side3 ?side4 A6.out).mono ?_);(case side1 => exact zC (Kd.C_below HR0_0.out (zH HB)));(case side2 => exact HC0_0.out);(case side3 => exact zC (Kd.C_below HR0_1.out (zH HB)));(case side4 => exact HC0_1.out);rintro e w12 ⟨rfl,hb⟩;refine ⟨_,rfl,?_⟩;replace K357:=zB K357 hb;replace HB:=zS HB hb;(try clear hb);obtain ⟨_,_,_,_⟩:=zc2 K357)|(go_at_call 103;(with_reducible refine (beaconref08_place.calls k _ _ l0_0 _ _ l0_1 a2 Ae _ ?side1 ?side2 ?side3 ?side4 A8.out).mono ?_);(case side1 => exact zC (Kd.C_below HR0_0.out HB.1));(case side2 => exact HC0_0.out);(case side3 => exact zC (Kd.C_below HR0_1.out HB.1));(case side4 => exact HC0_1.out);rintro e w14 ⟨rfl,hb⟩;replace K357:=zB K357 hb;replace HB:=zS HB hb;(try clear hb)))
    go_ret
    exact ⟨zE,zH HB⟩
  ·rw [if_neg c7] at H;exact absurd H (by simp)
 ·rw [if_neg c5] at H;exact absurd H (by simp)

/-! ### math_Inf: function 90 -/
def math_Inf.f (a0 : Int) : Option (Nat) := if a0 ≥ 0 then (some (ffrom 9218868437227405312)) else (some (ffrom 18442240474082181120))
set_option maxHeartbeats 8000000 in
set_option maxRecDepth 100000 in
theorem math_Inf.calls (a0 : Int) (r : Nat) (w : World) (h : math_Inf.f a0 = some r) :
  Calls Try.prog 90 #[.int .i64 a0] w fun e w' => e = .returned (.float .f64 r) ∧ Drawn0 w w':=by
 have H : (if a0 ≥ 0 then (some (ffrom 9218868437227405312)) else (some (ffrom 18442240474082181120))) = some r:=h;clear h;by_cases c2 : a0 ≥ 0
 ·rw [if_pos c2] at H;have An : decide (0 ≤ a0) = true:=decide_eq_true c2;clear c2;obtain rfl:=Option.some.inj H;go_enter Try.func90,Try.ntmps90
  go_wp2
  go_ret
  exact ⟨by first|rfl|(simp;done)|(simp [*];done),by repeat (first|exact Drawn0.refl _|apply Drawn0.step)⟩
 ·rw [if_neg c2] at H;have An : decide (0 ≤ a0) = false:=decide_eq_false c2;clear c2;obtain rfl:=Option.some.inj H;go_enter Try.func90,Try.ntmps90
  go_wp2
  go_ret
  exact ⟨by first|rfl|(simp;done)|(simp [*];done),by repeat (first|exact Drawn0.refl _|apply Drawn0.step)⟩

/-! ### beaconref01_Add: function 104 -/
def beaconref01_Add.f (a0 : Nat) (a1 : Nat) (a2 : Nat) : Option (Nat) := if (faddOk a0 a1) = true then ((beaconref01_nan.f (fadd a0 a1)).bind fun Af => (if Af = true then (none) else (if (flt (fadd a0 a1) a2) = true then (if (feq (fadd a0 a1) 0) = true then (none) else (some (fadd a0 a1))) else ((math_Inf.f 1).bind fun Ag => (some Ag))))) else (none)
set_option maxHeartbeats 8000000 in
set_option maxRecDepth 100000 in
theorem beaconref01_Add.calls (a0 : Nat) (a1 : Nat) (a2 : Nat) (r : Nat) (w : World) (h : beaconref01_Add.f a0 a1 a2 = some r) :
  Calls Try.prog 104 #[.float .f64 a0,.float .f64 a1,.float .f64 a2] w fun e w' => e = .returned (.float .f64 r) ∧ Drawn0 w w':=by
 have H : (if (faddOk a0 a1) = true then ((beaconref01_nan.f (fadd a0 a1)).bind fun Af => (if Af = true then (none) else (if (flt (fadd a0 a1) a2) = true then (if (feq (fadd a0 a1) 0) = true then (none) else (some (fadd a0 a1))) else ((math_Inf.f 1).bind fun Ag => (some Ag))))) else (none)) = some r:=h;clear h;by_cases c4 : (faddOk a0 a1) = true
 ·rw [if_pos c4] at H;have Ai:=eq_true c4;have Av : decide ((faddOk a0 a1) = true) = true:=decide_eq_true c4;clear c4;replace H:=Option.bind_eq_some_iff.mp H;obtain ⟨Af,A50,H⟩:=H;(try dsimp only at H);have A5:=zA A50;clear A50;by_cases c6 : Af = true
  ·subst c6;rw [if_pos rfl] at H;exact absurd H (by simp)
  ·replace c6:=Bool.eq_false_iff.mpr c6;subst c6;rw [if_neg (show ¬ (false = true) by decide)] at H;by_cases c7 : (flt (fadd a0 a1) a2) = true
   ·rw [if_pos c7] at H;have Aj : (flt (fadd a0 a1) a2) = true:=c7;clear c7;by_cases c8 : (feq (fadd a0 a1) 0) = true
    ·rw [if_pos c8] at H;exact absurd H (by simp)
    ·rw [if_neg c8] at H;have Aw : (feq (fadd a0 a1) 0) = false:=by simpa using c8
     clear c8;obtain rfl:=Option.some.inj H;go_enter Try.func104,Try.ntmps104
     go_wp2_with (first|((with_reducible refine gate_callee (f:=108) rfl ?_);refine zg (some 12) Try.func108 #[.float .f64 (fadd a0 a1)] ?_;(with_reducible refine (beaconref01_nan.calls (fadd a0 a1) false _ A5.out).mono ?_);rintro e w' ⟨rfl,⟨nd,rfl⟩⟩;refine ⟨_,rfl,?_⟩))
     go_ret
     exact ⟨by first|rfl|(simp;done)|(simp [*];done),by repeat (first|exact Drawn0.refl _|apply Drawn0.step)⟩
   ·rw [if_neg c7] at H;have Aj : (flt (fadd a0 a1) a2) = false:=by simpa using c7
    clear c7;replace H:=Option.bind_eq_some_iff.mp H;obtain ⟨Ag,A90,H⟩:=H;(try dsimp only at H);have A9:=zA A90;clear A90;obtain rfl:=Option.some.inj H;go_enter Try.func104,Try.ntmps104
    go_wp2_with (first|((with_reducible refine gate_callee (f:=108) rfl ?_);refine zg (some 12) Try.func108 #[.float .f64 (fadd a0 a1)] ?_;(with_reducible refine (beaconref01_nan.calls (fadd a0 a1) false _ A5.out).mono ?_);rintro e w' ⟨rfl,⟨nd,rfl⟩⟩;refine ⟨_,rfl,?_⟩)|((with_reducible refine gate_callee (f:=90) rfl ?_);refine zg (some 20) Try.func90 #[.int .i64 1] ?_;(with_reducible refine (math_Inf.calls 1 Ag _ A9.out).mono ?_);rintro e w' ⟨rfl,⟨nd,rfl⟩⟩;refine ⟨_,rfl,?_⟩))
    go_ret
    exact ⟨by first|rfl|(simp;done)|(simp [*];done),by repeat (first|exact Drawn0.refl _|apply Drawn0.step)⟩
 ·rw [if_neg c4] at H;exact absurd H (by simp)

end Go.Proofs.Ytgmjlhpigfaicaa.XR
