/- Go functions of this seat as Lean functions, with proofs that the calls come to them. (Written by xprint.py, a program of this session, over the kit's print.) -/
import Derived.Test.YtgmjlhpigfaicaaXRx0
import Derived.Test.YtgmjlhpigfaicaaXRx3
namespace Go.Proofs.Ytgmjlhpigfaicaa.XR
open Go.RowKit Go.Proofs.YtgmjlhpigfaicaaW.PrintWords Go.Proofs.YtgmjlhpigfaicaaW.PrintLast Go.Proofs.YtgmjlhpigfaicaaW.PrintMore
attribute [local go_sem] max2_int min2_int max_two min_two max_three min_three max_four min_four   -- for this text's walks alone
set_option linter.unusedVariables false
set_option linter.unusedSimpArgs false
open List renaming setIfInBounds_toArray → xA, set_cons_zero → xB, set_cons_succ → xC
open Go.Proofs.YtgmjlhpigfaicaaW.PrintWords renaming blk_drewN → bN, blk_drew → bD, blk_alloc → bA, below_set → bS, blk_frozen → bF, blk_cell → bC, cell_far → cF, blk_far → bZ, blk_below → bB, pw_below_drewN → bwN, below_drew1 → bw1, below_alloc → bwA
open Go.Proofs.YtgmjlhpigfaicaaW.PrintZ
open Bool renaming true → T,false → F

/-! ### beaconref02_CheckId: function 58 -/
def beaconref02_CheckId.f (a0 : Int) : Option (Int) := if a0 < 1 then (some 20) else (if a0 > 2147483647 then (some 20) else (some 0))
set_option maxHeartbeats 8000000 in
set_option maxRecDepth 100000 in
theorem beaconref02_CheckId.calls (a0 : Int) (r : Int) (w : World) (h : beaconref02_CheckId.f a0 = some r) :
  Calls Try.prog 58 #[.int .i64 a0] w fun e w' => e = .returned (.int .i64 r) ∧ Drawn0 w w':=by
 have H : (if a0 < 1 then (some 20) else (if a0 > 2147483647 then (some 20) else (some 0))) = some r:=h;clear h;by_cases c2 : a0 < 1
 ·rw [if_pos c2] at H;have Ai : decide (a0 < 1) = true:=decide_eq_true c2;clear c2;obtain rfl:=Option.some.inj H;go_enter Try.func58,Try.ntmps58
  go_wp2
  go_ret
  exact ⟨by first|rfl|(simp;done)|(simp [*];done),by repeat (first|exact Drawn0.refl _|apply Drawn0.step)⟩
 ·rw [if_neg c2] at H;have Ai : decide (a0 < 1) = false:=decide_eq_false c2;clear c2;by_cases c3 : a0 > 2147483647
  ·rw [if_pos c3] at H;have Al : decide (2147483647 < a0) = true:=decide_eq_true c3;clear c3;obtain rfl:=Option.some.inj H;go_enter Try.func58,Try.ntmps58
   go_wp2
   go_ret
   exact ⟨by first|rfl|(simp;done)|(simp [*];done),by repeat (first|exact Drawn0.refl _|apply Drawn0.step)⟩
  ·rw [if_neg c3] at H;have Al : decide (2147483647 < a0) = false:=decide_eq_false c3;clear c3;obtain rfl:=Option.some.inj H;go_enter Try.func58,Try.ntmps58
   go_wp2
   go_ret
   exact ⟨by first|rfl|(simp;done)|(simp [*];done),by repeat (first|exact Drawn0.refl _|apply Drawn0.step)⟩

/-! ### beaconref07_Place: function 70 -/
def beaconref07_Place.l0 : Nat → Int → Int → List (S108) → List (S117) → Option (Int)
 | 0, _, _, _, _ => none
 | k + 1, x1, x5, Ab, Aj => if x5 < (Ab.length : Int) then (if 0 ≤ x5 then (if ((rd_T108 Ab x5).f0) = x1 then (some x5) else (beaconref07_Place.l0 k x1 (wrap64 (x5 + 1)) Ab Aj)) else (none)) else (some (-1))
def beaconref07_Place.f (k : Nat) (l0_0 : List (S108)) (l0_1 : List (S117)) (a1 : Int) : Option (Int) := beaconref07_Place.l0 k a1 0 l0_0 l0_1
set_option maxHeartbeats 8000000 in
set_option maxRecDepth 100000 in
theorem beaconref07_Place.calls (k : Nat) (A0_0 : Option Addr) (c0_0 : Nat) (l0_0 : List (S108)) (A0_1 : Option Addr) (c0_1 : Nat) (l0_1 : List (S117)) (a1 : Int) (r : Int) (w : World) (hr0_0 : Kd.C k108 w A0_0 l0_0.length l0_0) (hc0_0 : l0_0.length ≤ c0_0) (hr0_1 : Kd.C k117 w A0_1 l0_1.length l0_1) (hc0_1 : l0_1.length ≤ c0_1) (h : beaconref07_Place.f k l0_0 l0_1 a1 = some r) :
  Calls Try.prog 70 #[.agg #[.slice A0_0 l0_0.length c0_0,.slice A0_1 l0_1.length c0_1],.int .i64 a1] w fun e w' => e = .returned (.int .i64 r) ∧ Below w.heap.size w w':=by
 have hu67:=Try.underlying67;have HR0_0:=zA hr0_0;have HC0_0:=zA hc0_0;clear hr0_0 hc0_0;have HR0_1:=zA hr0_1;have HC0_1:=zA hc0_1;clear hr0_1 hc0_1;have HB:=zA (Below.refl w.heap.size w);have H : (beaconref07_Place.l0 k a1 0 l0_0 l0_1) = some r:=h;clear h;have H':=zA H;clear H;go_enter Try.func70,Try.ntmps70
 go_wp2_with (first|((with_reducible refine gate_dst (N:=2) rfl ?_);refine zb (N:=2) (cs:=#[.slice A0_0 l0_0.length c0_0,.slice A0_1 l0_1.length c0_1]) (t:=67) ?_;intro G285 hg w3 hbox hb;have K285:=zA (hbox);have Aq:=zN HB hg;have Ar:=zN HB hg;replace HB:=zS HB hb;clear hb hbox hg))
 go_loopg [5] k (fun kq v5 w' => ∃ (Aa : Int),v5 = .int .i64 Aa ∧ Aside0 (beaconref07_Place.l0 kq a1 Aa l0_0 l0_1 = some r) ∧ Aside0 (kq ≤ k) ∧ Aside0 (w'.heap[G285]? = some (.cells #[(.slice A0_0 l0_0.length c0_0),(.slice A0_1 l0_1.length c0_1)] 67 (0,0))) ∧ Aside0 (Below w.heap.size w w'))
 case atStart => exact ⟨(0),ze,H',⟨Nat.le_refl _⟩,⟨z1 K285.1⟩,⟨zH HB⟩⟩
 case round =>
  clear H';obtain ⟨Aa,rfl,HA,HK1,K285,HB⟩:=hrel;cases gk with
  | zero => exact absurd HA.out (by simp [beaconref07_Place.l0])
  | succ k1 =>
   have H:=HA.out;clear HA;simp only [beaconref07_Place.l0] at H;by_cases c4 : Aa < (l0_0.length : Int)
   ·rw [if_pos c4] at H;have Am : decide (Aa < (l0_0.length : Int)) = true:=decide_eq_true c4;clear c4;by_cases c5 : 0 ≤ Aa
    ·rw [if_pos c5] at H;have As : decide (0 ≤ Aa) = true:=decide_eq_true c5;clear c5;by_cases c6 : ((rd_T108 l0_0 Aa).f0) = a1
     ·rw [if_pos c6] at H;have An : (((rd_T108 l0_0 Aa).f0) == a1) = true:=beq_iff_eq.mpr c6;have Ao : (((rd_T108 l0_0 Aa).f0) != a1) = false:=bne_eq_false_iff_eq.mpr c6;clear c6;obtain rfl:=Option.some.inj H;obtain ⟨_,_,_,_⟩:=zc2 K285;have p286 : 0 ≤ (Aa : Int):=zd;have q286 : Aa < (l0_0.length : Int):=zd;obtain ⟨ad286,e286,hx286_0,hx286_1,hx286_2⟩:=at_T108 HR0_0.out Aa p286 q286;cases e286;replace hx286_0:=zh HB hx286_0;replace hx286_1:=zh HB hx286_1;replace hx286_2:=zh HB hx286_2;replace p286:=eq_true p286;replace q286:=eq_true q286;go_wp2
      go_ret
      exact ⟨zE,zH HB⟩
     ·rw [if_neg c6] at H;have An : (((rd_T108 l0_0 Aa).f0) == a1) = false:=beq_eq_false_iff_ne.mpr c6;have Ao : (((rd_T108 l0_0 Aa).f0) != a1) = true:=bne_iff_ne.mpr c6;have H':=zA H;clear H;obtain ⟨_,_,_,_⟩:=zc2 K285;have p286 : 0 ≤ (Aa : Int):=zd;have q286 : Aa < (l0_0.length : Int):=zd;obtain ⟨ad286,e286,hx286_0,hx286_1,hx286_2⟩:=at_T108 HR0_0.out Aa p286 q286;cases e286;replace hx286_0:=zh HB hx286_0;replace hx286_1:=zh HB hx286_1;replace hx286_2:=zh HB hx286_2;replace p286:=eq_true p286;replace q286:=eq_true q286;go_wp2
      go_roundg k1
      case measure => have:=HK1.out;omega
      case rel => exact ⟨(wrap64 (Aa + 1)),ze,H',⟨by have:=HK1.out;omega⟩,⟨z1 K285.1⟩,⟨zH HB⟩⟩
    ·rw [if_neg c5] at H;exact absurd H (by simp)
   ·rw [if_neg c4] at H;have Am : decide (Aa < (l0_0.length : Int)) = false:=decide_eq_false c4;clear c4;obtain rfl:=Option.some.inj H;obtain ⟨_,_,_,_⟩:=zc2 K285;go_wp2
    go_ret
    exact ⟨zE,zH HB⟩

/-! ### beaconref01_nan: function 108 -/
def beaconref01_nan.f (a0 : Nat) : Option (Bool) := some (!(feq a0 a0))
set_option maxHeartbeats 8000000 in
set_option maxRecDepth 100000 in
theorem beaconref01_nan.calls (a0 : Nat) (r : Bool) (w : World) (h : beaconref01_nan.f a0 = some r) :
  Calls Try.prog 108 #[.float .f64 a0] w fun e w' => e = .returned (.bool r) ∧ Drawn0 w w':=by
 have H : (some (!(feq a0 a0))) = some r:=h;clear h;obtain rfl:=Option.some.inj H;go_enter Try.func108,Try.ntmps108
 go_wp2
 go_ret
 exact ⟨by first|rfl|(simp;done)|(simp [*];done),by repeat (first|exact Drawn0.refl _|apply Drawn0.step)⟩

/-! ### beaconref01_inf: function 109 -/
def beaconref01_inf.f (a0 : Nat) : Option (Bool) := if (flt 9218868437227405311 a0) = true then (some true) else (some (flt a0 18442240474082181119))
set_option maxHeartbeats 8000000 in
set_option maxRecDepth 100000 in
theorem beaconref01_inf.calls (a0 : Nat) (r : Bool) (w : World) (h : beaconref01_inf.f a0 = some r) :
  Calls Try.prog 109 #[.float .f64 a0] w fun e w' => e = .returned (.bool r) ∧ Drawn0 w w':=by
 have H : (if (flt 9218868437227405311 a0) = true then (some true) else (some (flt a0 18442240474082181119))) = some r:=h;clear h;by_cases c2 : (flt 9218868437227405311 a0) = true
 ·rw [if_pos c2] at H;have Ai : (flt 9218868437227405311 a0) = true:=c2;clear c2;obtain rfl:=Option.some.inj H;go_enter Try.func109,Try.ntmps109
  go_wp2
  go_ret
  exact ⟨by first|rfl|(simp;done)|(simp [*];done),by repeat (first|exact Drawn0.refl _|apply Drawn0.step)⟩
 ·rw [if_neg c2] at H;have Ai : (flt 9218868437227405311 a0) = false:=by simpa using c2
  clear c2;obtain rfl:=Option.some.inj H;go_enter Try.func109,Try.ntmps109
  go_wp2
  go_ret
  exact ⟨by first|rfl|(simp;done)|(simp [*];done),by repeat (first|exact Drawn0.refl _|apply Drawn0.step)⟩

/-! ### beaconref01_sign: function 110 -/
def beaconref01_sign.f (a0 : Nat) : Option (Bool) := some (((fbits a0) / 9223372036854775808) == 1)
set_option maxHeartbeats 8000000 in
set_option maxRecDepth 100000 in
theorem beaconref01_sign.calls (a0 : Nat) (r : Bool) (w : World) (h : beaconref01_sign.f a0 = some r) :
  Calls Try.prog 110 #[.float .f64 a0] w fun e w' => e = .returned (.bool r) ∧ Drawn0 w w':=by
 have H : (some (((fbits a0) / 9223372036854775808) == 1)) = some r:=h;clear h;obtain rfl:=Option.some.inj H;go_enter Try.func110,Try.ntmps110
 go_wp2
 go_ret
 exact ⟨by first|rfl|(simp;done)|(simp [*];done),by repeat (first|exact Drawn0.refl _|apply Drawn0.step)⟩

/-! ### beaconref01_quarter: function 111 -/
def beaconref01_quarter.f (a0 : Nat) : Option (Bool) := if (fmulOk a0 4616189618054758400) = true then ((math_Trunc.f (fmul a0 4616189618054758400)).bind fun Ac => (some (feq Ac (fmul a0 4616189618054758400)))) else (none)
set_option maxHeartbeats 8000000 in
set_option maxRecDepth 100000 in
theorem beaconref01_quarter.calls (a0 : Nat) (r : Bool) (w : World) (h : beaconref01_quarter.f a0 = some r) :
  Calls Try.prog 111 #[.float .f64 a0] w fun e w' => e = .returned (.bool r) ∧ Drawn0 w w':=by
 have H : (if (fmulOk a0 4616189618054758400) = true then ((math_Trunc.f (fmul a0 4616189618054758400)).bind fun Ac => (some (feq Ac (fmul a0 4616189618054758400)))) else (none)) = some r:=h;clear h;by_cases c2 : (fmulOk a0 4616189618054758400) = true
 ·rw [if_pos c2] at H;have Ai:=eq_true c2;have At : decide ((fmulOk a0 4616189618054758400) = true) = true:=decide_eq_true c2;clear c2;replace H:=Option.bind_eq_some_iff.mp H;obtain ⟨Ac,A30,H⟩:=H;(try dsimp only at H);have A3:=zA A30;clear A30;obtain rfl:=Option.some.inj H;go_enter Try.func111,Try.ntmps111
  go_wp2_with (first|((with_reducible refine gate_callee (f:=119) rfl ?_);refine zg (some 5) Try.func119 #[.float .f64 (fmul a0 4616189618054758400)] ?_;(with_reducible refine (math_Trunc.calls (fmul a0 4616189618054758400) Ac _ A3.out).mono ?_);rintro e w' ⟨rfl,⟨nd,rfl⟩⟩;refine ⟨_,rfl,?_⟩))
  go_ret
  exact ⟨by first|rfl|(simp;done)|(simp [*];done),by repeat (first|exact Drawn0.refl _|apply Drawn0.step)⟩
 ·rw [if_neg c2] at H;exact absurd H (by simp)

/-! ### beaconref01_bounded: function 93 -/
def beaconref01_bounded.f (a0 : Nat) (a1 : Nat) : Option (Int) := (beaconref01_nan.f a0).bind fun Ad => (if Ad = true then (some 10) else ((beaconref01_inf.f a0).bind fun Ae => (if Ae = true then (some 11) else ((beaconref01_sign.f a0).bind fun Af => (if Af = true then (some 12) else (if (flt a0 4607182418800017408) = true then (some 13) else (if (flt a1 a0) = true then (some 14) else ((beaconref01_quarter.f a0).bind fun Ag => (if Ag = true then (some 0) else (some 15))))))))))
set_option maxHeartbeats 8000000 in
set_option maxRecDepth 100000 in
theorem beaconref01_bounded.calls (a0 : Nat) (a1 : Nat) (r : Int) (w : World) (h : beaconref01_bounded.f a0 a1 = some r) :
  Calls Try.prog 93 #[.float .f64 a0,.float .f64 a1] w fun e w' => e = .returned (.int .i64 r) ∧ Drawn0 w w':=by
 have H : ((beaconref01_nan.f a0).bind fun Ad => (if Ad = true then (some 10) else ((beaconref01_inf.f a0).bind fun Ae => (if Ae = true then (some 11) else ((beaconref01_sign.f a0).bind fun Af => (if Af = true then (some 12) else (if (flt a0 4607182418800017408) = true then (some 13) else (if (flt a1 a0) = true then (some 14) else ((beaconref01_quarter.f a0).bind fun Ag => (if Ag = true then (some 0) else (some 15))))))))))) = some r:=h;clear h;replace H:=Option.bind_eq_some_iff.mp H;obtain ⟨Ad,A30,H⟩:=H;(try dsimp only at H);have A3:=zA A30;clear A30;by_cases c4 : Ad = true
 ·subst c4;rw [if_pos rfl] at H;obtain rfl:=Option.some.inj H;go_enter Try.func93,Try.ntmps93
  go_wp2_with (first|((with_reducible refine gate_callee (f:=108) rfl ?_);refine zg (some 6) Try.func108 #[.float .f64 a0] ?_;(with_reducible refine (beaconref01_nan.calls a0 true _ A3.out).mono ?_);rintro e w' ⟨rfl,⟨nd,rfl⟩⟩;refine ⟨_,rfl,?_⟩))
  go_ret
  exact ⟨by first|rfl|(simp;done)|(simp [*];done),by repeat (first|exact Drawn0.refl _|apply Drawn0.step)⟩
 ·replace c4:=Bool.eq_false_iff.mpr c4;subst c4;rw [if_neg (show ¬ (false = true) by decide)] at H;replace H:=Option.bind_eq_some_iff.mp H;obtain ⟨Ae,A50,H⟩:=H;(try dsimp only at H);have A5:=zA A50;clear A50;by_cases c6 : Ae = true
  ·subst c6;rw [if_pos rfl] at H;obtain rfl:=Option.some.inj H;go_enter Try.func93,Try.ntmps93
   go_wp2_with (first|((with_reducible refine gate_callee (f:=108) rfl ?_);refine zg (some 6) Try.func108 #[.float .f64 a0] ?_;(with_reducible refine (beaconref01_nan.calls a0 false _ A3.out).mono ?_);rintro e w' ⟨rfl,⟨nd,rfl⟩⟩;refine ⟨_,rfl,?_⟩)|((with_reducible refine gate_callee (f:=109) rfl ?_);refine zg (some 8) Try.func109 #[.float .f64 a0] ?_;(with_reducible refine (beaconref01_inf.calls a0 true _ A5.out).mono ?_);rintro e w' ⟨rfl,⟨nd,rfl⟩⟩;refine ⟨_,rfl,?_⟩))
   go_ret
   exact ⟨by first|rfl|(simp;done)|(simp [*];done),by repeat (first|exact Drawn0.refl _|apply Drawn0.step)⟩
  ·replace c6:=Bool.eq_false_iff.mpr c6;subst c6;rw [if_neg (show ¬ (false = true) by decide)] at H;replace H:=Option.bind_eq_some_iff.mp H;obtain ⟨Af,A70,H⟩:=H;(try dsimp only at H);have A7:=zA A70;clear A70;by_cases c8 : Af = true
   ·subst c8;rw [if_pos rfl] at H;obtain rfl:=Option.some.inj H;go_enter Try.func93,Try.ntmps93
    go_wp2_with (first|((with_reducible refine gate_callee (f:=108) rfl ?_);refine zg (some 6) Try.func108 #[.float .f64 a0] ?_;(with_reducible refine (beaconref01_nan.calls a0 false _ A3.out).mono ?_);rintro e w' ⟨rfl,⟨nd,rfl⟩⟩;refine ⟨_,rfl,?_⟩)|((with_reducible refine gate_callee (f:=109) rfl ?_);refine zg (some 8) Try.func109 #[.float .f64 a0] ?_;(with_reducible refine (beaconref01_inf.calls a0 false _ A5.out).mono ?_);rintro e w' ⟨rfl,⟨nd,rfl⟩⟩;refine ⟨_,rfl,?_⟩)|((with_reducible refine gate_callee (f:=110) rfl ?_);refine zg (some 10) Try.func110 #[.float .f64 a0] ?_;(with_reducible refine (beaconref01_sign.calls a0 true _ A7.out).mono ?_);rintro e w' ⟨rfl,⟨nd,rfl⟩⟩;refine ⟨_,rfl,?_⟩))
    go_ret
    exact ⟨by first|rfl|(simp;done)|(simp [*];done),by repeat (first|exact Drawn0.refl _|apply Drawn0.step)⟩
   ·replace c8:=Bool.eq_false_iff.mpr c8;subst c8;rw [if_neg (show ¬ (false = true) by decide)] at H;by_cases c9 : (flt a0 4607182418800017408) = true
    ·rw [if_pos c9] at H;have Ap : (flt a0 4607182418800017408) = true:=c9;clear c9;obtain rfl:=Option.some.inj H;go_enter Try.func93,Try.ntmps93
     go_wp2_with (first|((with_reducible refine gate_callee (f:=108) rfl ?_);refine zg (some 6) Try.func108 #[.float .f64 a0] ?_;(with_reducible refine (beaconref01_nan.calls a0 false _ A3.out).mono ?_);rintro e w' ⟨rfl,⟨nd,rfl⟩⟩;refine ⟨_,rfl,?_⟩)|((with_reducible refine gate_callee (f:=109) rfl ?_);refine zg (some 8) Try.func109 #[.float .f64 a0] ?_;(with_reducible refine (beaconref01_inf.calls a0 false _ A5.out).mono ?_);rintro e w' ⟨rfl,⟨nd,rfl⟩⟩;refine ⟨_,rfl,?_⟩)|((with_reducible refine gate_callee (f:=110) rfl ?_);refine zg (some 10) Try.func110 #[.float .f64 a0] ?_;(with_reducible refine (beaconref01_sign.calls a0 false _ A7.out).mono ?_);rintro e w' ⟨rfl,⟨nd,rfl⟩⟩;refine ⟨_,rfl,?_⟩))
     go_ret
     exact ⟨by first|rfl|(simp;done)|(simp [*];done),by repeat (first|exact Drawn0.refl _|apply Drawn0.step)⟩
    ·rw [if_neg c9] at H;have Ap : (flt a0 4607182418800017408) = false:=by simpa using c9
     clear c9;by_cases c10 : (flt a1 a0) = true
     ·rw [if_pos c10] at H;have Ak : (flt a1 a0) = true:=c10;clear c10;obtain rfl:=Option.some.inj H;go_enter Try.func93,Try.ntmps93
      go_wp2_with (first|((with_reducible refine gate_callee (f:=108) rfl ?_);refine zg (some 6) Try.func108 #[.float .f64 a0] ?_;(with_reducible refine (beaconref01_nan.calls a0 false _ A3.out).mono ?_);rintro e w' ⟨rfl,⟨nd,rfl⟩⟩;refine ⟨_,rfl,?_⟩)|((with_reducible refine gate_callee (f:=109) rfl ?_);refine zg (some 8) Try.func109 #[.float .f64 a0] ?_;(with_reducible refine (beaconref01_inf.calls a0 false _ A5.out).mono ?_);rintro e w' ⟨rfl,⟨nd,rfl⟩⟩;refine ⟨_,rfl,?_⟩)|((with_reducible refine gate_callee (f:=110) rfl ?_);refine zg (some 10) Try.func110 #[.float .f64 a0] ?_;(with_reducible refine (beaconref01_sign.calls a0 false _ A7.out).mono ?_);rintro e w' ⟨rfl,⟨nd,rfl⟩⟩;refine ⟨_,rfl,?_⟩))
      go_ret
      exact ⟨by first|rfl|(simp;done)|(simp [*];done),by repeat (first|exact Drawn0.refl _|apply Drawn0.step)⟩
     ·rw [if_neg c10] at H;have Ak : (flt a1 a0) = false:=by simpa using c10
      clear c10;replace H:=Option.bind_eq_some_iff.mp H;obtain ⟨Ag,A110,H⟩:=H;(try dsimp only at H);have A11:=zA A110;clear A110;by_cases c12 : Ag = true
      ·subst c12;rw [if_pos rfl] at H;obtain rfl:=Option.some.inj H;go_enter Try.func93,Try.ntmps93
       go_wp2_with (first|((with_reducible refine gate_callee (f:=108) rfl ?_);refine zg (some 6) Try.func108 #[.float .f64 a0] ?_;(with_reducible refine (beaconref01_nan.calls a0 false _ A3.out).mono ?_);rintro e w' ⟨rfl,⟨nd,rfl⟩⟩;refine ⟨_,rfl,?_⟩)|((with_reducible refine gate_callee (f:=109) rfl ?_);refine zg (some 8) Try.func109 #[.float .f64 a0] ?_;(with_reducible refine (beaconref01_inf.calls a0 false _ A5.out).mono ?_);rintro e w' ⟨rfl,⟨nd,rfl⟩⟩;refine ⟨_,rfl,?_⟩)|((with_reducible refine gate_callee (f:=110) rfl ?_);refine zg (some 10) Try.func110 #[.float .f64 a0] ?_;(with_reducible refine (beaconref01_sign.calls a0 false _ A7.out).mono ?_);rintro e w' ⟨rfl,⟨nd,rfl⟩⟩;refine ⟨_,rfl,?_⟩)|((with_reducible refine gate_callee (f:=111) rfl ?_);refine zg (some 17) Try.func111 #[.float .f64 a0] ?_;(with_reducible refine (beaconref01_quarter.calls a0 true _ A11.out).mono ?_);rintro e w' ⟨rfl,⟨nd,rfl⟩⟩;refine ⟨_,rfl,?_⟩))
       go_ret
       exact ⟨by first|rfl|(simp;done)|(simp [*];done),by repeat (first|exact Drawn0.refl _|apply Drawn0.step)⟩
      ·replace c12:=Bool.eq_false_iff.mpr c12;subst c12;rw [if_neg (show ¬ (false = true) by decide)] at H;obtain rfl:=Option.some.inj H;go_enter Try.func93,Try.ntmps93
       go_wp2_with (first|((with_reducible refine gate_callee (f:=108) rfl ?_);refine zg (some 6) Try.func108 #[.float .f64 a0] ?_;(with_reducible refine (beaconref01_nan.calls a0 false _ A3.out).mono ?_);rintro e w' ⟨rfl,⟨nd,rfl⟩⟩;refine ⟨_,rfl,?_⟩)|((with_reducible refine gate_callee (f:=109) rfl ?_);refine zg (some 8) Try.func109 #[.float .f64 a0] ?_;(with_reducible refine (beaconref01_inf.calls a0 false _ A5.out).mono ?_);rintro e w' ⟨rfl,⟨nd,rfl⟩⟩;refine ⟨_,rfl,?_⟩)|((with_reducible refine gate_callee (f:=110) rfl ?_);refine zg (some 10) Try.func110 #[.float .f64 a0] ?_;(with_reducible refine (beaconref01_sign.calls a0 false _ A7.out).mono ?_);rintro e w' ⟨rfl,⟨nd,rfl⟩⟩;refine ⟨_,rfl,?_⟩)|((with_reducible refine gate_callee (f:=111) rfl ?_);refine zg (some 17) Try.func111 #[.float .f64 a0] ?_;(with_reducible refine (beaconref01_quarter.calls a0 false _ A11.out).mono ?_);rintro e w' ⟨rfl,⟨nd,rfl⟩⟩;refine ⟨_,rfl,?_⟩))
       go_ret
       exact ⟨by first|rfl|(simp;done)|(simp [*];done),by repeat (first|exact Drawn0.refl _|apply Drawn0.step)⟩

/-! ### beaconref01_Weight: function 71 -/
def beaconref01_Weight.f (a0 : Nat) : Option (Int) := (beaconref01_bounded.f a0 4697254411347427328).bind fun Ah => (some Ah)
set_option maxHeartbeats 8000000 in
set_option maxRecDepth 100000 in
theorem beaconref01_Weight.calls (a0 : Nat) (r : Int) (w : World) (h : beaconref01_Weight.f a0 = some r) :
  Calls Try.prog 71 #[.float .f64 a0] w fun e w' => e = .returned (.int .i64 r) ∧ Drawn0 w w':=by
 have H : ((beaconref01_bounded.f a0 4697254411347427328).bind fun Ah => (some Ah)) = some r:=h;clear h;replace H:=Option.bind_eq_some_iff.mp H;obtain ⟨Ah,A20,H⟩:=H;(try dsimp only at H);have A2:=zA A20;clear A20;obtain rfl:=Option.some.inj H;go_enter Try.func71,Try.ntmps71
 go_wp2_with (first|((with_reducible refine gate_callee (f:=93) rfl ?_);refine zg (some 4) Try.func93 #[.float .f64 a0,.float .f64 4697254411347427328] ?_;(with_reducible refine (beaconref01_bounded.calls a0 4697254411347427328 Ah _ A2.out).mono ?_);rintro e w' ⟨rfl,⟨nd,rfl⟩⟩;refine ⟨_,rfl,?_⟩))
 go_ret
 exact ⟨by first|rfl|(simp;done)|(simp [*];done),by repeat (first|exact Drawn0.refl _|apply Drawn0.step)⟩

end Go.Proofs.Ytgmjlhpigfaicaa.XR
