/- Go functions of this seat as Lean functions, with proofs that the calls come to them. (Written by xprint.py, a program of this session, over the kit's print.) -/
import Derived.Test.YtgmjlhpigfaicaaXRx0
import Derived.Test.YtgmjlhpigfaicaaXRx12
import Derived.Test.YtgmjlhpigfaicaaXRx13
namespace Go.Proofs.Ytgmjlhpigfaicaa.XR
open Go.RowKit Go.Proofs.YtgmjlhpigfaicaaW.PrintWords Go.Proofs.YtgmjlhpigfaicaaW.PrintLast Go.Proofs.YtgmjlhpigfaicaaW.PrintMore
attribute [local go_sem] max2_int min2_int max_two min_two max_three min_three max_four min_four   -- for this text's walks alone
set_option linter.unusedVariables false
set_option linter.unusedSimpArgs false
open List renaming setIfInBounds_toArray → xA, set_cons_zero → xB, set_cons_succ → xC
open Go.Proofs.YtgmjlhpigfaicaaW.PrintWords renaming blk_drewN → bN, blk_drew → bD, blk_alloc → bA, below_set → bS, blk_frozen → bF, blk_cell → bC, cell_far → cF, blk_far → bZ, blk_below → bB, pw_below_drewN → bwN, below_drew1 → bw1, below_alloc → bwA
open Go.Proofs.YtgmjlhpigfaicaaW.PrintZ
open Bool renaming true → T,false → F

/-! ### beaconref01_Limit: function 87 -/
def beaconref01_Limit.f (a0 : Nat) : Option (Int) := (beaconref01_bounded.f a0 4742290407621132288).bind fun Af => (some Af)
set_option maxHeartbeats 8000000 in
set_option maxRecDepth 100000 in
theorem beaconref01_Limit.calls (a0 : Nat) (r : Int) (w : World) (h : beaconref01_Limit.f a0 = some r) :
  Calls Try.prog 87 #[.float .f64 a0] w fun e w' => e = .returned (.int .i64 r) ∧ Drawn0 w w':=by
 have H : ((beaconref01_bounded.f a0 4742290407621132288).bind fun Af => (some Af)) = some r:=h;clear h;replace H:=Option.bind_eq_some_iff.mp H;obtain ⟨Af,A20,H⟩:=H;(try dsimp only at H);have A2:=zA A20;clear A20;obtain rfl:=Option.some.inj H;go_enter Try.func87,Try.ntmps87
 go_wp2_with (first|((with_reducible refine gate_callee (f:=93) rfl ?_);refine zg (some 4) Try.func93 #[.float .f64 a0,.float .f64 4742290407621132288] ?_;(with_reducible refine (beaconref01_bounded.calls a0 4742290407621132288 Af _ A2.out).mono ?_);rintro e w' ⟨rfl,⟨nd,rfl⟩⟩;refine ⟨_,rfl,?_⟩))
 go_ret
 exact ⟨by first|rfl|(simp;done)|(simp [*];done),by repeat (first|exact Drawn0.refl _|apply Drawn0.step)⟩

/-! ### beaconref10_checked: function 82 -/
def beaconref10_checked.f (k : Nat) (l0_0 : List (S108)) (l0_1 : List (S117)) (a1 : Nat) : Option (Int) := (beaconref07_Check.f k l0_0 l0_1).bind fun Ac => (if Ac = 0 then ((beaconref01_Limit.f a1).bind fun Ag => (some Ag)) else (some Ac))
set_option maxHeartbeats 8000000 in
set_option maxRecDepth 100000 in
theorem beaconref10_checked.calls (k : Nat) (A0_0 : Option Addr) (c0_0 : Nat) (l0_0 : List (S108)) (A0_1 : Option Addr) (c0_1 : Nat) (l0_1 : List (S117)) (a1 : Nat) (r : Int) (w : World) (hr0_0 : Kd.C k108 w A0_0 l0_0.length l0_0) (hc0_0 : l0_0.length ≤ c0_0) (hr0_1 : Kd.C k117 w A0_1 l0_1.length l0_1) (hc0_1 : l0_1.length ≤ c0_1) (h : beaconref10_checked.f k l0_0 l0_1 a1 = some r) :
  Calls Try.prog 82 #[.agg #[.slice A0_0 l0_0.length c0_0,.slice A0_1 l0_1.length c0_1],.float .f64 a1] w fun e w' => e = .returned (.int .i64 r) ∧ Below w.heap.size w w':=by
 have hu67:=Try.underlying67;have HR0_0:=zA hr0_0;have HC0_0:=zA hc0_0;clear hr0_0 hc0_0;have HR0_1:=zA hr0_1;have HC0_1:=zA hc0_1;clear hr0_1 hc0_1;have HB:=zA (Below.refl w.heap.size w);have H : ((beaconref07_Check.f k l0_0 l0_1).bind fun Ac => (if Ac = 0 then ((beaconref01_Limit.f a1).bind fun Ag => (some Ag)) else (some Ac))) = some r:=h;clear h;replace H:=Option.bind_eq_some_iff.mp H;obtain ⟨Ac,A30,H⟩:=H;(try dsimp only at H);have A3:=zA A30;clear A30;by_cases c4 : Ac = 0
 ·rw [if_pos c4] at H;have An : (Ac == 0) = true:=beq_iff_eq.mpr c4;have At : (Ac != 0) = false:=bne_eq_false_iff_eq.mpr c4;clear c4;replace H:=Option.bind_eq_some_iff.mp H;obtain ⟨Ag,A50,H⟩:=H;(try dsimp only at H);have A5:=zA A50;clear A50;obtain rfl:=Option.some.inj H;go_enter Try.func82,Try.ntmps82
  go_wp2_with (first|((with_reducible refine gate_dst (N:=2) rfl ?_);refine zb (N:=2) (cs:=#[.slice A0_0 l0_0.length c0_0,.slice A0_1 l0_1.length c0_1]) (t:=67) ?_;intro G307 hg w6 hbox hb;have K307:=zA (hbox);have Ar:=zN HB hg;have As:=zN HB hg;replace HB:=zS HB hb;clear hb hbox hg;obtain ⟨_,_,_,_⟩:=zc2 K307)|((with_reducible refine gate_callee (f:=42) rfl ?_);refine zg (some 7) Try.func42 #[.agg #[.slice A0_0 l0_0.length c0_0,.slice A0_1 l0_1.length c0_1]] ?_;(with_reducible refine (beaconref07_Check.calls k _ _ l0_0 _ _ l0_1 Ac _ ?side1 ?side2 ?side3 ?side4 A3.out).mono ?_);(case side1 => exact zC (Kd.C_below HR0_0.out HB.1));(case side2 => exact HC0_0.out);(case side3 => exact zC (Kd.C_below HR0_1.out HB.1));(case side4 => exact HC0_1.out);rintro e w8 ⟨rfl,hb⟩;refine ⟨_,rfl,?_⟩;replace K307:=zB K307 hb;replace HB:=zS HB hb;(try clear hb))|((with_reducible refine gate_callee (f:=87) rfl ?_);refine zg (some 11) Try.func87 #[.float .f64 a1] ?_;(with_reducible refine (beaconref01_Limit.calls a1 Ag _ A5.out).mono ?_);rintro e w' ⟨rfl,⟨nd,rfl⟩⟩;refine ⟨_,rfl,?_⟩))
  go_ret
  exact ⟨zE,zH HB⟩
 ·rw [if_neg c4] at H;have An : (Ac == 0) = false:=beq_eq_false_iff_ne.mpr c4;have At : (Ac != 0) = true:=bne_iff_ne.mpr c4;obtain rfl:=Option.some.inj H;go_enter Try.func82,Try.ntmps82
  go_wp2_with (first|((with_reducible refine gate_dst (N:=2) rfl ?_);refine zb (N:=2) (cs:=#[.slice A0_0 l0_0.length c0_0,.slice A0_1 l0_1.length c0_1]) (t:=67) ?_;intro G307 hg w9 hbox hb;have K307:=zA (hbox);have Ar:=zN HB hg;have As:=zN HB hg;replace HB:=zS HB hb;clear hb hbox hg;obtain ⟨_,_,_,_⟩:=zc2 K307)|((with_reducible refine gate_callee (f:=42) rfl ?_);refine zg (some 7) Try.func42 #[.agg #[.slice A0_0 l0_0.length c0_0,.slice A0_1 l0_1.length c0_1]] ?_;(with_reducible refine (beaconref07_Check.calls k _ _ l0_0 _ _ l0_1 Ac _ ?side1 ?side2 ?side3 ?side4 A3.out).mono ?_);(case side1 => exact zC (Kd.C_below HR0_0.out HB.1));(case side2 => exact HC0_0.out);(case side3 => exact zC (Kd.C_below HR0_1.out HB.1));(case side4 => exact HC0_1.out);rintro e w11 ⟨rfl,hb⟩;refine ⟨_,rfl,?_⟩;replace K307:=zB K307 hb;replace HB:=zS HB hb;(try clear hb)))
  go_ret
  exact ⟨zE,zH HB⟩

/-! ### beaconref10_up: function 83 -/
def beaconref10_up.l0 : Nat → Int → Int → List (S108) → List (S117) → Option (Bool)
 | 0, _, _, _, _ => none
 | k + 1, x1, x5, Ad, Ao => if x5 < (Ad.length : Int) then (if 0 ≤ x5 then (if ((rd_T108 Ad x5).f0) = x1 then (some ((rd_T108 Ad x5).f1)) else (beaconref10_up.l0 k x1 (wrap64 (x5 + 1)) Ad Ao)) else (none)) else (some false)
def beaconref10_up.f (k : Nat) (l0_0 : List (S108)) (l0_1 : List (S117)) (a1 : Int) : Option (Bool) := beaconref10_up.l0 k a1 0 l0_0 l0_1
set_option maxHeartbeats 8000000 in
set_option maxRecDepth 100000 in
theorem beaconref10_up.calls (k : Nat) (A0_0 : Option Addr) (c0_0 : Nat) (l0_0 : List (S108)) (A0_1 : Option Addr) (c0_1 : Nat) (l0_1 : List (S117)) (a1 : Int) (r : Bool) (w : World) (hr0_0 : Kd.C k108 w A0_0 l0_0.length l0_0) (hc0_0 : l0_0.length ≤ c0_0) (hr0_1 : Kd.C k117 w A0_1 l0_1.length l0_1) (hc0_1 : l0_1.length ≤ c0_1) (h : beaconref10_up.f k l0_0 l0_1 a1 = some r) :
  Calls Try.prog 83 #[.agg #[.slice A0_0 l0_0.length c0_0,.slice A0_1 l0_1.length c0_1],.int .i64 a1] w fun e w' => e = .returned (.bool r) ∧ Below w.heap.size w w':=by
 have hu67:=Try.underlying67;have HR0_0:=zA hr0_0;have HC0_0:=zA hc0_0;clear hr0_0 hc0_0;have HR0_1:=zA hr0_1;have HC0_1:=zA hc0_1;clear hr0_1 hc0_1;have HB:=zA (Below.refl w.heap.size w);have H : (beaconref10_up.l0 k a1 0 l0_0 l0_1) = some r:=h;clear h;have H':=zA H;clear H;go_enter Try.func83,Try.ntmps83
 go_wp2_with (first|((with_reducible refine gate_dst (N:=2) rfl ?_);refine zb (N:=2) (cs:=#[.slice A0_0 l0_0.length c0_0,.slice A0_1 l0_1.length c0_1]) (t:=67) ?_;intro G310 hg w3 hbox hb;have K310:=zA (hbox);have Av:=zN HB hg;have Aw:=zN HB hg;replace HB:=zS HB hb;clear hb hbox hg))
 go_loopg [5] k (fun kq v5 w' => ∃ (Aa : Int),v5 = .int .i64 Aa ∧ Aside0 (beaconref10_up.l0 kq a1 Aa l0_0 l0_1 = some r) ∧ Aside0 (kq ≤ k) ∧ Aside0 (w'.heap[G310]? = some (.cells #[(.slice A0_0 l0_0.length c0_0),(.slice A0_1 l0_1.length c0_1)] 67 (0,0))) ∧ Aside0 (Below w.heap.size w w'))
 case atStart => exact ⟨(0),ze,H',⟨Nat.le_refl _⟩,⟨z1 K310.1⟩,⟨zH HB⟩⟩
 case round =>
  clear H';obtain ⟨Aa,rfl,HA,HK1,K310,HB⟩:=hrel;cases gk with
  | zero => exact absurd HA.out (by simp [beaconref10_up.l0])
  | succ k1 =>
   have H:=HA.out;clear HA;simp only [beaconref10_up.l0] at H;by_cases c4 : Aa < (l0_0.length : Int)
   ·rw [if_pos c4] at H;have An : decide (Aa < (l0_0.length : Int)) = true:=decide_eq_true c4;clear c4;by_cases c5 : 0 ≤ Aa
    ·rw [if_pos c5] at H;have Au : decide (0 ≤ Aa) = true:=decide_eq_true c5;clear c5;by_cases c6 : ((rd_T108 l0_0 Aa).f0) = a1
     ·rw [if_pos c6] at H;have Ah : (((rd_T108 l0_0 Aa).f0) == a1) = true:=beq_iff_eq.mpr c6;have Ai : (((rd_T108 l0_0 Aa).f0) != a1) = false:=bne_eq_false_iff_eq.mpr c6;clear c6;obtain rfl:=Option.some.inj H;obtain ⟨_,_,_,_⟩:=zc2 K310;have p311 : 0 ≤ (Aa : Int):=zd;have q311 : Aa < (l0_0.length : Int):=zd;obtain ⟨ad311,e311,hx311_0,hx311_1,hx311_2⟩:=at_T108 HR0_0.out Aa p311 q311;cases e311;replace hx311_0:=zh HB hx311_0;replace hx311_1:=zh HB hx311_1;replace hx311_2:=zh HB hx311_2;replace p311:=eq_true p311;replace q311:=eq_true q311;have p312 : 0 ≤ (Aa : Int):=zd;have q312 : Aa < (l0_0.length : Int):=zd;obtain ⟨ad312,e312,hx312_0,hx312_1,hx312_2⟩:=at_T108 HR0_0.out Aa p312 q312;obtain rfl : ad311 = ad312:=(by injection e312);replace hx312_0:=zh HB hx312_0;replace hx312_1:=zh HB hx312_1;replace hx312_2:=zh HB hx312_2;replace p312:=eq_true p312;replace q312:=eq_true q312;go_wp2
      go_ret
      exact ⟨zE,zH HB⟩
     ·rw [if_neg c6] at H;have Ah : (((rd_T108 l0_0 Aa).f0) == a1) = false:=beq_eq_false_iff_ne.mpr c6;have Ai : (((rd_T108 l0_0 Aa).f0) != a1) = true:=bne_iff_ne.mpr c6;have H':=zA H;clear H;obtain ⟨_,_,_,_⟩:=zc2 K310;have p311 : 0 ≤ (Aa : Int):=zd;have q311 : Aa < (l0_0.length : Int):=zd;obtain ⟨ad311,e311,hx311_0,hx311_1,hx311_2⟩:=at_T108 HR0_0.out Aa p311 q311;cases e311;replace hx311_0:=zh HB hx311_0;replace hx311_1:=zh HB hx311_1;replace hx311_2:=zh HB hx311_2;replace p311:=eq_true p311;replace q311:=eq_true q311;go_wp2
      go_roundg k1
      case measure => have:=HK1.out;omega
      case rel => exact ⟨(wrap64 (Aa + 1)),ze,H',⟨by have:=HK1.out;omega⟩,⟨z1 K310.1⟩,⟨zH HB⟩⟩
    ·rw [if_neg c5] at H;exact absurd H (by simp)
   ·rw [if_neg c4] at H;have An : decide (Aa < (l0_0.length : Int)) = false:=decide_eq_false c4;clear c4;obtain rfl:=Option.some.inj H;obtain ⟨_,_,_,_⟩:=zc2 K310;go_wp2
    go_ret
    exact ⟨zE,zH HB⟩

/-! ### beaconref10_asked: function 62 -/
def beaconref10_asked.f (k : Nat) (l0_0 : List (S108)) (l0_1 : List (S117)) (a1 : Nat) (a2 : Int) (a3 : Int) : Option (Int) := (beaconref10_checked.f k l0_0 l0_1 a1).bind fun Ab => (if Ab = 0 then ((beaconref10_up.f k l0_0 l0_1 a2).bind fun Aj => (if Aj = true then ((beaconref10_up.f k l0_0 l0_1 a3).bind fun Ak => (if Ak = true then (some Ab) else (some 4))) else (some 4))) else (some Ab))
set_option maxHeartbeats 8000000 in
set_option maxRecDepth 100000 in
theorem beaconref10_asked.calls (k : Nat) (A0_0 : Option Addr) (c0_0 : Nat) (l0_0 : List (S108)) (A0_1 : Option Addr) (c0_1 : Nat) (l0_1 : List (S117)) (a1 : Nat) (a2 : Int) (a3 : Int) (r : Int) (w : World) (hr0_0 : Kd.C k108 w A0_0 l0_0.length l0_0) (hc0_0 : l0_0.length ≤ c0_0) (hr0_1 : Kd.C k117 w A0_1 l0_1.length l0_1) (hc0_1 : l0_1.length ≤ c0_1) (h : beaconref10_asked.f k l0_0 l0_1 a1 a2 a3 = some r) :
  Calls Try.prog 62 #[.agg #[.slice A0_0 l0_0.length c0_0,.slice A0_1 l0_1.length c0_1],.float .f64 a1,.int .i64 a2,.int .i64 a3] w fun e w' => e = .returned (.int .i64 r) ∧ Below w.heap.size w w':=by
 have hu67:=Try.underlying67;have HR0_0:=zA hr0_0;have HC0_0:=zA hc0_0;clear hr0_0 hc0_0;have HR0_1:=zA hr0_1;have HC0_1:=zA hc0_1;clear hr0_1 hc0_1;have HB:=zA (Below.refl w.heap.size w);have H : ((beaconref10_checked.f k l0_0 l0_1 a1).bind fun Ab => (if Ab = 0 then ((beaconref10_up.f k l0_0 l0_1 a2).bind fun Aj => (if Aj = true then ((beaconref10_up.f k l0_0 l0_1 a3).bind fun Ak => (if Ak = true then (some Ab) else (some 4))) else (some 4))) else (some Ab))) = some r:=h;clear h;replace H:=Option.bind_eq_some_iff.mp H;obtain ⟨Ab,A50,H⟩:=H;(try dsimp only at H);have A5:=zA A50;clear A50;by_cases c6 : Ab = 0
 ·rw [if_pos c6] at H;have Ah : (Ab == 0) = true:=beq_iff_eq.mpr c6;have Ai : (Ab != 0) = false:=bne_eq_false_iff_eq.mpr c6;clear c6;replace H:=Option.bind_eq_some_iff.mp H;obtain ⟨Aj,A70,H⟩:=H;(try dsimp only at H);have A7:=zA A70;clear A70;by_cases c8 : Aj = true
  ·subst c8;rw [if_pos rfl] at H;replace H:=Option.bind_eq_some_iff.mp H;obtain ⟨Ak,A90,H⟩:=H;(try dsimp only at H);have A9:=zA A90;clear A90;by_cases c10 : Ak = true
   ·subst c10;rw [if_pos rfl] at H;obtain rfl:=Option.some.inj H;go_enter Try.func62,Try.ntmps62
    go_wp2_with (first|((with_reducible refine gate_dst (N:=4) rfl ?_);refine zb (N:=4) (cs:=#[.slice A0_0 l0_0.length c0_0,.slice A0_1 l0_1.length c0_1]) (t:=67) ?_;intro G313 hg w11 hbox hb;have K313:=zA (hbox);have Al:=zN HB hg;have Am:=zN HB hg;replace HB:=zS HB hb;clear hb hbox hg;obtain ⟨_,_,_,_⟩:=zc2 K313)|((with_reducible refine gate_callee (f:=82) rfl ?_);refine zg (some 12) Try.func82 #[.agg #[.slice A0_0 l0_0.length c0_0,.slice A0_1 l0_1.length c0_1],.float .f64 a1] ?_;(with_reducible refine (beaconref10_checked.calls k _ _ l0_0 _ _ l0_1 a1 Ab _ ?side1 ?side2 ?side3 ?side4 A5.out).mono ?_);(case side1 => exact zC (Kd.C_below HR0_0.out HB.1));(case side2 => exact HC0_0.out);(case side3 => exact zC (Kd.C_below HR0_1.out HB.1));(case side4 => exact HC0_1.out);rintro e w13 ⟨rfl,hb⟩;refine ⟨_,rfl,?_⟩;replace K313:=zB K313 hb;replace HB:=zS HB hb;(try clear hb);obtain ⟨_,_,_,_⟩:=zc2 K313)|(go_at_call 83;(with_reducible refine (beaconref10_up.calls k _ _ l0_0 _ _ l0_1 a2 true _ ?side1 ?side2 ?side3 ?side4 A7.out).mono ?_);(case side1 => exact zC (Kd.C_below HR0_0.out HB.1));(case side2 => exact HC0_0.out);(case side3 => exact zC (Kd.C_below HR0_1.out HB.1));(case side4 => exact HC0_1.out);rintro e w15 ⟨rfl,hb⟩;replace K313:=zB K313 hb;replace HB:=zS HB hb;(try clear hb);obtain ⟨_,_,_,_⟩:=zc2 K313)|(go_at_call 83;(with_reducible refine (beaconref10_up.calls k _ _ l0_0 _ _ l0_1 a3 true _ ?side1 ?side2 ?side3 ?side4 A9.out).mono ?_);(case side1 => exact zC (Kd.C_below HR0_0.out HB.1));(case side2 => exact HC0_0.out);(case side3 => exact zC (Kd.C_below HR0_1.out HB.1));(case side4 => exact HC0_1.out);rintro e w17 ⟨rfl,hb⟩;replace K313:=zB K313 hb;replace HB:=zS HB hb;(try clear hb)))
    go_ret
    exact ⟨zE,zH HB⟩
   ·replace c10:=Bool.eq_false_iff.mpr c10;subst c10;rw [if_neg (show ¬ (false = true) by decide)] at H;obtain rfl:=Option.some.inj H;go_enter Try.func62,Try.ntmps62
    go_wp2_with (first|((with_reducible refine gate_dst (N:=4) rfl ?_);refine zb (N:=4) (cs:=#[.slice A0_0 l0_0.length c0_0,.slice A0_1 l0_1.length c0_1]) (t:=67) ?_;intro G313 hg w18 hbox hb;have K313:=zA (hbox);have Al:=zN HB hg;have Am:=zN HB hg;replace HB:=zS HB hb;clear hb hbox hg;obtain ⟨_,_,_,_⟩:=zc2 K313)|((with_reducible refine gate_callee (f:=82) rfl ?_);refine zg (some 12) Try.func82 #[.agg #[.slice A0_0 l0_0.length c0_0,.slice A0_1 l0_1.length c0_1],.float .f64 a1] ?_;(with_reducible refine (beaconref10_checked.calls k _ _ l0_0 _ _ l0_1 a1 Ab _ ?side1 ?side2 ?side3 ?side4 A5.out).mono ?_);(case side1 => exact zC (Kd.C_below HR0_0.out HB.1));(case side2 => exact HC0_0.out);(case side3 => exact zC (Kd.C_below HR0_1.out HB.1));(case side4 => exact HC0_1.out);rintro e w20 ⟨rfl,hb⟩;refine ⟨_,rfl,?_⟩;replace K313:=zB K313 hb;replace HB:=zS HB hb;(try clear hb);obtain ⟨_,_,_,_⟩:=zc2 K313)|(go_at_call 83;(with_reducible refine (beaconref10_up.calls k _ _ l0_0 _ _ l0_1 a2 true _ ?side1 ?side2 ?side3 ?side4 A7.out).mono ?_);(case side1 => exact zC (Kd.C_below HR0_0.out HB.1));(case side2 => exact HC0_0.out);(case side3 => exact zC (Kd.C_below HR0_1.out HB.1));(case side4 => exact HC0_1.out);rintro e w22 ⟨rfl,hb⟩;replace K313:=zB K313 hb;replace HB:=zS HB hb;(try clear hb);obtain ⟨_,_,_,_⟩:=zc2 K313)|(go_at_call 83;(with_reducible refine (beaconref10_up.calls k _ _ l0_0 _ _ l0_1 a3 false _ ?side1 ?side2 ?side3 ?side4 A9.out).mono ?_);(case side1 => exact zC (Kd.C_below HR0_0.out HB.1));(case side2 => exact HC0_0.out);(case side3 => exact zC (Kd.C_below HR0_1.out HB.1));(case side4 => exact HC0_1.out);rintro e w24 ⟨rfl,hb⟩;replace K313:=zB K313 hb;replace HB:=zS HB hb;(try clear hb)))
    go_ret
    exact ⟨zE,zH HB⟩
  ·replace c8:=Bool.eq_false_iff.mpr c8;subst c8;rw [if_neg (show ¬ (false = true) by decide)] at H;obtain rfl:=Option.some.inj H;go_enter Try.func62,Try.ntmps62
   go_wp2_with (first|((with_reducible refine gate_dst (N:=4) rfl ?_);refine zb (N:=4) (cs:=#[.slice A0_0 l0_0.length c0_0,.slice A0_1 l0_1.length c0_1]) (t:=67) ?_;intro G313 hg w25 hbox hb;have K313:=zA (hbox);have Al:=zN HB hg;have Am:=zN HB hg;replace HB:=zS HB hb;clear hb hbox hg;obtain ⟨_,_,_,_⟩:=zc2 K313)|((with_reducible refine gate_callee (f:=82) rfl ?_);refine zg (some 12) Try.func82 #[.agg #[.slice A0_0 l0_0.length c0_0,.slice A0_1 l0_1.length c0_1],.float .f64 a1] ?_;(with_reducible refine (beaconref10_checked.calls k _ _ l0_0 _ _ l0_1 a1 Ab _ ?side1 ?side2 ?side3 ?side4 A5.out).mono ?_);(case side1 => exact zC (Kd.C_below HR0_0.out HB.1));(case side2 => exact HC0_0.out);(case side3 => exact zC (Kd.C_below HR0_1.out HB.1));(case side4 => exact HC0_1.out);rintro e w27 ⟨rfl,hb⟩;refine ⟨_,rfl,?_⟩;replace K313:=zB K313 hb;replace HB:=zS HB hb;(try clear hb);obtain ⟨_,_,_,_⟩:=zc2 K313)|(go_at_call 83;(with_reducible refine (beaconref10_up.calls k _ _ l0_0 _ _ l0_1 a2 false _ ?side1 ?side2 ?side3 ?side4 A7.out).mono ?_);(case side1 => exact zC (Kd.C_below HR0_0.out HB.1));(case side2 => exact HC0_0.out);(case side3 => exact zC (Kd.C_below HR0_1.out HB.1));(case side4 => exact HC0_1.out);rintro e w29 ⟨rfl,hb⟩;replace K313:=zB K313 hb;replace HB:=zS HB hb;(try clear hb)))
   go_ret
   exact ⟨zE,zH HB⟩
 ·rw [if_neg c6] at H;have Ah : (Ab == 0) = false:=beq_eq_false_iff_ne.mpr c6;have Ai : (Ab != 0) = true:=bne_iff_ne.mpr c6;obtain rfl:=Option.some.inj H;go_enter Try.func62,Try.ntmps62
  go_wp2_with (first|((with_reducible refine gate_dst (N:=4) rfl ?_);refine zb (N:=4) (cs:=#[.slice A0_0 l0_0.length c0_0,.slice A0_1 l0_1.length c0_1]) (t:=67) ?_;intro G313 hg w30 hbox hb;have K313:=zA (hbox);have Al:=zN HB hg;have Am:=zN HB hg;replace HB:=zS HB hb;clear hb hbox hg;obtain ⟨_,_,_,_⟩:=zc2 K313)|((with_reducible refine gate_callee (f:=82) rfl ?_);refine zg (some 12) Try.func82 #[.agg #[.slice A0_0 l0_0.length c0_0,.slice A0_1 l0_1.length c0_1],.float .f64 a1] ?_;(with_reducible refine (beaconref10_checked.calls k _ _ l0_0 _ _ l0_1 a1 Ab _ ?side1 ?side2 ?side3 ?side4 A5.out).mono ?_);(case side1 => exact zC (Kd.C_below HR0_0.out HB.1));(case side2 => exact HC0_0.out);(case side3 => exact zC (Kd.C_below HR0_1.out HB.1));(case side4 => exact HC0_1.out);rintro e w32 ⟨rfl,hb⟩;refine ⟨_,rfl,?_⟩;replace K313:=zB K313 hb;replace HB:=zS HB hb;(try clear hb)))
  go_ret
  exact ⟨zE,zH HB⟩

/-! ### beaconref10_home: function 84 -/
def beaconref10_home.l0 : Nat → Int → Int → List Int → List (List (S39)) → List (S80) → Option (Int)
 | 0, _, _, _, _, _ => none
 | k + 1, x1, x5, Ap, Aq, Ae => if x5 < (Ae.length : Int) then (if 0 ≤ x5 then (if ((rd_T80 Ae x5).f0) = x1 then (some ((rd_T80 Ae x5).f1)) else (beaconref10_home.l0 k x1 (wrap64 (x5 + 1)) Ap Aq Ae)) else (none)) else (none)
def beaconref10_home.f (k : Nat) (l0_0 : List Int) (l0_1 : List (List (S39))) (l0_2 : List (S80)) (a1 : Int) : Option (Int) := beaconref10_home.l0 k a1 0 l0_0 l0_1 l0_2
set_option maxHeartbeats 8000000 in
set_option maxRecDepth 100000 in
theorem beaconref10_home.calls (k : Nat) (A0_0 : Option Addr) (c0_0 : Nat) (l0_0 : List Int) (A0_1 : Option Addr) (c0_1 : Nat) (l0_1 : List (List (S39))) (A0_2 : Option Addr) (c0_2 : Nat) (l0_2 : List (S80)) (a1 : Int) (r : Int) (w : World) (hr0_0 : Kd.C (Kd.int .i64) w A0_0 l0_0.length l0_0) (hc0_0 : l0_0.length ≤ c0_0) (hr0_1 : Kd.C (Kd.slice 39 k39) w A0_1 l0_1.length l0_1) (hc0_1 : l0_1.length ≤ c0_1) (hr0_2 : Kd.C k80 w A0_2 l0_2.length l0_2) (hc0_2 : l0_2.length ≤ c0_2) (h : beaconref10_home.f k l0_0 l0_1 l0_2 a1 = some r) :
  Calls Try.prog 84 #[.agg #[.slice A0_0 l0_0.length c0_0,.slice A0_1 l0_1.length c0_1,.slice A0_2 l0_2.length c0_2],.int .i64 a1] w fun e w' => e = .returned (.int .i64 r) ∧ Below w.heap.size w w':=by
 have hu104:=Try.underlying104;have HR0_0:=zA hr0_0;have HC0_0:=zA hc0_0;clear hr0_0 hc0_0;have HR0_1:=zA hr0_1;have HC0_1:=zA hc0_1;clear hr0_1 hc0_1;have HR0_2:=zA hr0_2;have HC0_2:=zA hc0_2;clear hr0_2 hc0_2;have HB:=zA (Below.refl w.heap.size w);have H : (beaconref10_home.l0 k a1 0 l0_0 l0_1 l0_2) = some r:=h;clear h;have H':=zA H;clear H;go_enter Try.func84,Try.ntmps84
 go_wp2_with (first|((with_reducible refine gate_dst (N:=2) rfl ?_);refine zb (N:=2) (cs:=#[.slice A0_0 l0_0.length c0_0,.slice A0_1 l0_1.length c0_1,.slice A0_2 l0_2.length c0_2]) (t:=104) ?_;intro G317 hg w3 hbox hb;have K317:=zA (hbox);have Ax:=zN HB hg;have Ay:=zN HB hg;replace HB:=zS HB hb;clear hb hbox hg))
 go_loopg [5] k (fun kq v5 w' => ∃ (Aa : Int),v5 = .int .i64 Aa ∧ Aside0 (beaconref10_home.l0 kq a1 Aa l0_0 l0_1 l0_2 = some r) ∧ Aside0 (kq ≤ k) ∧ Aside0 (w'.heap[G317]? = some (.cells #[(.slice A0_0 l0_0.length c0_0),(.slice A0_1 l0_1.length c0_1),(.slice A0_2 l0_2.length c0_2)] 104 (0,0))) ∧ Aside0 (Below w.heap.size w w'))
 case atStart => exact ⟨(0),ze,H',⟨Nat.le_refl _⟩,⟨z1 K317.1⟩,⟨zH HB⟩⟩
 case round =>
  clear H';obtain ⟨Aa,rfl,HA,HK1,K317,HB⟩:=hrel;cases gk with
  | zero => exact absurd HA.out (by simp [beaconref10_home.l0])
  | succ k1 =>
   have H:=HA.out;clear HA;simp only [beaconref10_home.l0] at H;by_cases c4 : Aa < (l0_2.length : Int)
   ·rw [if_pos c4] at H;have An : decide (Aa < (l0_2.length : Int)) = true:=decide_eq_true c4;clear c4;by_cases c5 : 0 ≤ Aa
    ·rw [if_pos c5] at H;have Au : decide (0 ≤ Aa) = true:=decide_eq_true c5;clear c5;by_cases c6 : ((rd_T80 l0_2 Aa).f0) = a1
     ·rw [if_pos c6] at H;have Ah : (((rd_T80 l0_2 Aa).f0) == a1) = true:=beq_iff_eq.mpr c6;have Ai : (((rd_T80 l0_2 Aa).f0) != a1) = false:=bne_eq_false_iff_eq.mpr c6;clear c6;obtain rfl:=Option.some.inj H;obtain ⟨_,_,_,_,_,_⟩:=zc3 K317;have p318 : 0 ≤ (Aa : Int):=zd;have q318 : Aa < (l0_2.length : Int):=zd;obtain ⟨ad318,e318,hx318_0,hx318_1,hx318_2⟩:=at_T80 HR0_2.out Aa p318 q318;cases e318;replace hx318_0:=zh HB hx318_0;replace hx318_1:=zh HB hx318_1;replace hx318_2:=zh HB hx318_2;replace p318:=eq_true p318;replace q318:=eq_true q318;have p319 : 0 ≤ (Aa : Int):=zd;have q319 : Aa < (l0_2.length : Int):=zd;obtain ⟨ad319,e319,hx319_0,hx319_1,hx319_2⟩:=at_T80 HR0_2.out Aa p319 q319;obtain rfl : ad318 = ad319:=(by injection e319);replace hx319_0:=zh HB hx319_0;replace hx319_1:=zh HB hx319_1;replace hx319_2:=zh HB hx319_2;replace p319:=eq_true p319;replace q319:=eq_true q319;go_wp2
      go_ret
      exact ⟨zE,zH HB⟩
     ·rw [if_neg c6] at H;have Ah : (((rd_T80 l0_2 Aa).f0) == a1) = false:=beq_eq_false_iff_ne.mpr c6;have Ai : (((rd_T80 l0_2 Aa).f0) != a1) = true:=bne_iff_ne.mpr c6;have H':=zA H;clear H;obtain ⟨_,_,_,_,_,_⟩:=zc3 K317;have p318 : 0 ≤ (Aa : Int):=zd;have q318 : Aa < (l0_2.length : Int):=zd;obtain ⟨ad318,e318,hx318_0,hx318_1,hx318_2⟩:=at_T80 HR0_2.out Aa p318 q318;cases e318;replace hx318_0:=zh HB hx318_0;replace hx318_1:=zh HB hx318_1;replace hx318_2:=zh HB hx318_2;replace p318:=eq_true p318;replace q318:=eq_true q318;go_wp2
      go_roundg k1
      case measure => have:=HK1.out;omega
      case rel => exact ⟨(wrap64 (Aa + 1)),ze,H',⟨by have:=HK1.out;omega⟩,⟨z1 K317.1⟩,⟨zH HB⟩⟩
    ·rw [if_neg c5] at H;exact absurd H (by simp)
   ·rw [if_neg c4] at H;exact absurd H (by simp)

end Go.Proofs.Ytgmjlhpigfaicaa.XR
