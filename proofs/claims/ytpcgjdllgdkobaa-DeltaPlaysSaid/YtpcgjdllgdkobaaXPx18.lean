/- Go functions of this seat as Lean functions, with proofs that the calls come to them. (Written by xprint.py, a program of this session, over the kit's print.) -/
import Derived.Test.YtpcgjdllgdkobaaXPx0
import Derived.Test.YtpcgjdllgdkobaaXPx2
import Derived.Test.YtpcgjdllgdkobaaXPx17
namespace Go.Proofs.Ytpcgjdllgdkobaa.XP
open Go.RowKit Go.Proofs.YtpcgjdllgdkobaaW.PrintWords Go.Proofs.YtpcgjdllgdkobaaW.PrintLast Go.Proofs.YtpcgjdllgdkobaaW.PrintMore
attribute [local go_sem] max2_int min2_int max_two min_two max_three min_three max_four min_four   -- for this text's walks alone
set_option linter.unusedVariables false
set_option linter.unusedSimpArgs false
open List renaming setIfInBounds_toArray → xA, set_cons_zero → xB, set_cons_succ → xC
open Go.Proofs.YtpcgjdllgdkobaaW.PrintWords renaming blk_drewN → bN, blk_drew → bD, blk_alloc → bA, below_set → bS, blk_frozen → bF, blk_cell → bC, cell_far → cF, blk_far → bZ, blk_below → bB, pw_below_drewN → bwN, below_drew1 → bw1, below_alloc → bwA
open Go.Proofs.YtpcgjdllgdkobaaW.PrintZ
open Bool renaming true → T,false → F

/-! ### beaconref06_Far: function 59 -/
def beaconref06_Far.f (a0 : Nat) : Option (Bool) := (math_IsInf.f a0 1).bind fun t240 => (if t240 = true then (some true) else (if (fbits a0) = 0 then (some true) else (if (flt 0 a0) = true then (if (flt a0 4742290407621132288) = true then (if (fmulOk a0 4616189618054758400) = true then ((math_Trunc.f (fmul a0 4616189618054758400)).bind fun t241 => (some (feq (fmul a0 4616189618054758400) t241))) else (none)) else (some false)) else (some false))))
set_option maxHeartbeats 8000000 in
set_option maxRecDepth 100000 in
theorem beaconref06_Far.calls (a0 : Nat) (r : Bool) (w : World) (h : beaconref06_Far.f a0 = some r) :
  Calls Try.prog 59 #[.float .f64 a0] w fun e w' => e = .returned (.bool r) ∧ Drawn0 w w':=by
 have H : ((math_IsInf.f a0 1).bind fun t240 => (if t240 = true then (some true) else (if (fbits a0) = 0 then (some true) else (if (flt 0 a0) = true then (if (flt a0 4742290407621132288) = true then (if (fmulOk a0 4616189618054758400) = true then ((math_Trunc.f (fmul a0 4616189618054758400)).bind fun t241 => (some (feq (fmul a0 4616189618054758400) t241))) else (none)) else (some false)) else (some false))))) = some r:=h;clear h;replace H:=Option.bind_eq_some_iff.mp H;obtain ⟨t240,A20,H⟩:=H;(try dsimp only at H);have A2:=zA A20;clear A20;by_cases c3 : t240 = true
 ·subst c3;rw [if_pos rfl] at H;obtain rfl:=Option.some.inj H;go_enter Try.func59,Try.ntmps59
  go_wp2_with (first|((with_reducible refine gate_callee (f:=38) rfl ?_);refine zg (some 4) Try.func38 #[.float .f64 a0,.int .i64 1] ?_;(with_reducible refine (math_IsInf.calls a0 1 true _ A2.out).mono ?_);rintro e w' ⟨rfl,⟨nd,rfl⟩⟩;refine ⟨_,rfl,?_⟩))
  go_ret
  exact ⟨by first|rfl|(simp;done)|(simp [*];done),by repeat (first|exact Drawn0.refl _|apply Drawn0.step)⟩
 ·replace c3:=Bool.eq_false_iff.mpr c3;subst c3;rw [if_neg (show ¬ (false = true) by decide)] at H;by_cases c4 : (fbits a0) = 0
  ·rw [if_pos c4] at H;have c4b0 : ((fbits a0) == 0) = true:=beq_iff_eq.mpr c4;have c4b1 : ((fbits a0) != 0) = false:=bne_eq_false_iff_eq.mpr c4;clear c4;obtain rfl:=Option.some.inj H;go_enter Try.func59,Try.ntmps59
   go_wp2_with (first|((with_reducible refine gate_callee (f:=38) rfl ?_);refine zg (some 4) Try.func38 #[.float .f64 a0,.int .i64 1] ?_;(with_reducible refine (math_IsInf.calls a0 1 false _ A2.out).mono ?_);rintro e w' ⟨rfl,⟨nd,rfl⟩⟩;refine ⟨_,rfl,?_⟩))
   go_ret
   exact ⟨by first|rfl|(simp;done)|(simp [*];done),by repeat (first|exact Drawn0.refl _|apply Drawn0.step)⟩
  ·rw [if_neg c4] at H;have c4b0 : ((fbits a0) == 0) = false:=beq_eq_false_iff_ne.mpr c4;have c4b1 : ((fbits a0) != 0) = true:=bne_iff_ne.mpr c4;by_cases c5 : (flt 0 a0) = true
   ·rw [if_pos c5] at H;have c5b0 : (flt 0 a0) = true:=c5;clear c5;by_cases c6 : (flt a0 4742290407621132288) = true
    ·rw [if_pos c6] at H;have c6b0 : (flt a0 4742290407621132288) = true:=c6;clear c6;by_cases c7 : (fmulOk a0 4616189618054758400) = true
     ·rw [if_pos c7] at H;have c7b0:=eq_true c7;have c7b1 : decide ((fmulOk a0 4616189618054758400) = true) = true:=decide_eq_true c7;clear c7;replace H:=Option.bind_eq_some_iff.mp H;obtain ⟨t241,A80,H⟩:=H;(try dsimp only at H);have A8:=zA A80;clear A80;obtain rfl:=Option.some.inj H;go_enter Try.func59,Try.ntmps59
      go_wp2_with (first|((with_reducible refine gate_callee (f:=38) rfl ?_);refine zg (some 4) Try.func38 #[.float .f64 a0,.int .i64 1] ?_;(with_reducible refine (math_IsInf.calls a0 1 false _ A2.out).mono ?_);rintro e w' ⟨rfl,⟨nd,rfl⟩⟩;refine ⟨_,rfl,?_⟩)|(go_at_call 65;(with_reducible refine (math_Trunc.calls (fmul a0 4616189618054758400) t241 _ A8.out).mono ?_);rintro e w' ⟨rfl,⟨nd,rfl⟩⟩))
      go_ret
      exact ⟨by first|rfl|(simp;done)|(simp [*];done),by repeat (first|exact Drawn0.refl _|apply Drawn0.step)⟩
     ·rw [if_neg c7] at H;exact absurd H (by simp)
    ·rw [if_neg c6] at H;have c6b0 : (flt a0 4742290407621132288) = false:=by simpa using c6
     clear c6;obtain rfl:=Option.some.inj H;go_enter Try.func59,Try.ntmps59
     go_wp2_with (first|((with_reducible refine gate_callee (f:=38) rfl ?_);refine zg (some 4) Try.func38 #[.float .f64 a0,.int .i64 1] ?_;(with_reducible refine (math_IsInf.calls a0 1 false _ A2.out).mono ?_);rintro e w' ⟨rfl,⟨nd,rfl⟩⟩;refine ⟨_,rfl,?_⟩))
     go_ret
     exact ⟨by first|rfl|(simp;done)|(simp [*];done),by repeat (first|exact Drawn0.refl _|apply Drawn0.step)⟩
   ·rw [if_neg c5] at H;have c5b0 : (flt 0 a0) = false:=by simpa using c5
    clear c5;obtain rfl:=Option.some.inj H;go_enter Try.func59,Try.ntmps59
    go_wp2_with (first|((with_reducible refine gate_callee (f:=38) rfl ?_);refine zg (some 4) Try.func38 #[.float .f64 a0,.int .i64 1] ?_;(with_reducible refine (math_IsInf.calls a0 1 false _ A2.out).mono ?_);rintro e w' ⟨rfl,⟨nd,rfl⟩⟩;refine ⟨_,rfl,?_⟩))
    go_ret
    exact ⟨by first|rfl|(simp;done)|(simp [*];done),by repeat (first|exact Drawn0.refl _|apply Drawn0.step)⟩

/-! ### beaconref06_zero: function 60 -/
def beaconref06_zero.f (a0 : Nat) : Option (Bool) := some ((fbits a0) == 0)
set_option maxHeartbeats 8000000 in
set_option maxRecDepth 100000 in
theorem beaconref06_zero.calls (a0 : Nat) (r : Bool) (w : World) (h : beaconref06_zero.f a0 = some r) :
  Calls Try.prog 60 #[.float .f64 a0] w fun e w' => e = .returned (.bool r) ∧ Drawn0 w w':=by
 have H : (some ((fbits a0) == 0)) = some r:=h;clear h;obtain rfl:=Option.some.inj H;go_enter Try.func60,Try.ntmps60
 go_wp2
 go_ret
 exact ⟨by first|rfl|(simp;done)|(simp [*];done),by repeat (first|exact Drawn0.refl _|apply Drawn0.step)⟩

/-! ### beaconref06_May: function 49 -/
mutual
def beaconref06_May.j0 : Nat → Bool → Int → Int → Nat → Nat → Int → Option (Bool)
 | 0, _, _, _, _, _, _ => none
 | k + 1, x22, x243000, x243001, x243002, x243003, x243004 => if x22 = true then (some false) else (if x243001 = 1 then (beaconref06_May.j1 k true x243000 x243001 x243002 x243003 x243004) else ((math_IsInf.f x243002 1).bind fun t246 => (beaconref06_May.j1 k t246 x243000 x243001 x243002 x243003 x243004)))
def beaconref06_May.j1 : Nat → Bool → Int → Int → Nat → Nat → Int → Option (Bool)
 | 0, _, _, _, _, _, _ => none
 | k + 1, x30, x243000, x243001, x243002, x243003, x243004 => if x30 = true then ((beaconref06_zero.f x243003).bind fun t247 => (if t247 = true then (some (x243004 == 0)) else (some false))) else ((math_IsInf.f x243003 1).bind fun t248 => (if t248 = true then (some (x243004 == 0)) else ((beaconref06_Far.f x243003).bind fun t249 => (if t249 = true then ((beaconref06_number.f x243004).bind fun t250 => (some t250)) else (some false)))))
end
def beaconref06_May.f (k : Nat) (a0_0 : Int) (a0_1 : Int) (a0_2 : Nat) (a0_3 : Nat) (a0_4 : Int) : Option (Bool) := (beaconref06_number.f a0_0).bind fun t243 => (if t243 = true then (if a0_1 = 1 then ((beaconref06_Far.f a0_2).bind fun t244 => (beaconref06_May.j0 k (!t244) a0_0 a0_1 a0_2 a0_3 a0_4)) else (if a0_1 = 2 then ((beaconref06_Far.f a0_2).bind fun t245 => (beaconref06_May.j0 k (!t245) a0_0 a0_1 a0_2 a0_3 a0_4)) else (beaconref06_May.j0 k true a0_0 a0_1 a0_2 a0_3 a0_4))) else (beaconref06_May.j0 k true a0_0 a0_1 a0_2 a0_3 a0_4))
theorem beaconref06_May.mono_l : ∀ k, (∀ y0 y1 y2 y3 y4 y5, LeO (beaconref06_May.j0 k y0 y1 y2 y3 y4 y5) (beaconref06_May.j0 (k + 1) y0 y1 y2 y3 y4 y5)) ∧ (∀ y0 y1 y2 y3 y4 y5, LeO (beaconref06_May.j1 k y0 y1 y2 y3 y4 y5) (beaconref06_May.j1 (k + 1) y0 y1 y2 y3 y4 y5))
 | 0 => ⟨fun _ _ _ _ _ _ r h => by simp [beaconref06_May.j0] at h, fun _ _ _ _ _ _ r h => by simp [beaconref06_May.j1] at h⟩
 | k + 1 => by
  obtain ⟨ih0,ih1⟩:=beaconref06_May.mono_l k
  refine ⟨?_,?_⟩
  ·intro y0 y1 y2 y3 y4 y5
   unfold beaconref06_May.j0
   repeat' first
   | (with_reducible exact ih0 _ _ _ _ _ _)
   | (with_reducible exact ih1 _ _ _ _ _ _)
   | (with_reducible exact LeO.refl _)
   | (with_reducible exact LeO.none _)
   | (with_reducible refine LeO.ite ?_ ?_)
   | (with_reducible refine LeO.bind ?_ (fun _ => ?_))
   | exact ih0 _ _ _ _ _ _
   | exact ih1 _ _ _ _ _ _
   | exact LeO.none _
   | refine LeO.ite ?_ ?_
   | refine LeO.bind ?_ (fun _ => ?_)
  ·intro y0 y1 y2 y3 y4 y5
   unfold beaconref06_May.j1
   repeat' first
   | (with_reducible exact ih0 _ _ _ _ _ _)
   | (with_reducible exact ih1 _ _ _ _ _ _)
   | (with_reducible exact LeO.refl _)
   | (with_reducible exact LeO.none _)
   | (with_reducible refine LeO.ite ?_ ?_)
   | (with_reducible refine LeO.bind ?_ (fun _ => ?_))
   | exact ih0 _ _ _ _ _ _
   | exact ih1 _ _ _ _ _ _
   | exact LeO.none _
   | refine LeO.ite ?_ ?_
   | refine LeO.bind ?_ (fun _ => ?_)
theorem beaconref06_May.mono : ∀ a0 a1 a2 a3 a4 k, LeO (beaconref06_May.f k a0 a1 a2 a3 a4) (beaconref06_May.f (k + 1) a0 a1 a2 a3 a4) := by
 intro a0 a1 a2 a3 a4 k
 obtain ⟨ih0,ih1⟩:=beaconref06_May.mono_l k
 unfold beaconref06_May.f
 repeat' first
   | (with_reducible exact ih0 _ _ _ _ _ _)
   | (with_reducible exact ih1 _ _ _ _ _ _)
   | (with_reducible exact LeO.refl _)
   | (with_reducible exact LeO.none _)
   | (with_reducible refine LeO.ite ?_ ?_)
   | (with_reducible refine LeO.bind ?_ (fun _ => ?_))
   | exact ih0 _ _ _ _ _ _
   | exact ih1 _ _ _ _ _ _
   | exact LeO.none _
   | refine LeO.ite ?_ ?_
   | refine LeO.bind ?_ (fun _ => ?_)
set_option maxHeartbeats 8000000 in
set_option maxRecDepth 100000 in
theorem beaconref06_May.calls (k : Nat) (a0_0 : Int) (a0_1 : Int) (a0_2 : Nat) (a0_3 : Nat) (a0_4 : Int) (r : Bool) (w : World) (h : beaconref06_May.f k a0_0 a0_1 a0_2 a0_3 a0_4 = some r) :
  Calls Try.prog 49 #[.agg #[.int .i64 a0_0,.int .i64 a0_1,.float .f64 a0_2,.float .f64 a0_3,.int .i64 a0_4]] w fun e w' => e = .returned (.bool r) ∧ Below w.heap.size w w':=by
 have hu61:=Try.underlying61;have HB:=zA (Below.refl w.heap.size w);have H : ((beaconref06_number.f a0_0).bind fun t243 => (if t243 = true then (if a0_1 = 1 then ((beaconref06_Far.f a0_2).bind fun t244 => (beaconref06_May.j0 k (!t244) a0_0 a0_1 a0_2 a0_3 a0_4)) else (if a0_1 = 2 then ((beaconref06_Far.f a0_2).bind fun t245 => (beaconref06_May.j0 k (!t245) a0_0 a0_1 a0_2 a0_3 a0_4)) else (beaconref06_May.j0 k true a0_0 a0_1 a0_2 a0_3 a0_4))) else (beaconref06_May.j0 k true a0_0 a0_1 a0_2 a0_3 a0_4))) = some r:=h;clear h;have HC2:=zA H;clear H;go_enter Try.func49,Try.ntmps49
 go_upto_region 1 with (first|((with_reducible refine gate_dst (N:=1) rfl ?_);refine zb (N:=1) (cs:=#[.int .i64 a0_0,.int .i64 a0_1,.float .f64 a0_2,.float .f64 a0_3,.int .i64 a0_4]) (t:=61) ?_;intro G242 hg w3 hbox hb;have K242:=zA (hbox);have GW242:=zN HB hg;have GE242:=zN HB hg;replace HB:=zS HB hb;clear hb hbox hg))
 (try simp only [Act.put,xA,xB,xC]);go_cut [22] (fun v22 wc => ∃ (kq : Nat) (x22_1 : Bool),v22 = .bool x22_1 ∧ Aside0 (beaconref06_May.j0 kq x22_1 a0_0 a0_1 a0_2 a0_3 a0_4 = some r) ∧ Aside0 (kq ≤ k) ∧ Aside0 (wc.heap[G242]? = some (.cells #[.int .i64 a0_0,.int .i64 a0_1,.float .f64 a0_2,.float .f64 a0_3,.int .i64 a0_4] 61 (0,0))) ∧ Aside0 (Below w.heap.size w wc))
 case first =>
  have H:=HC2.out;clear HC2;replace H:=Option.bind_eq_some_iff.mp H;obtain ⟨t243,A40,H⟩:=H;(try dsimp only at H);have A4:=zA A40;clear A40;by_cases c5 : t243 = true
  ·subst c5;rw [if_pos rfl] at H;by_cases c6 : a0_1 = 1
   ·rw [if_pos c6] at H;have c6b0 : (a0_1 == 1) = true:=beq_iff_eq.mpr c6;have c6b1 : (a0_1 != 1) = false:=bne_eq_false_iff_eq.mpr c6;clear c6;(first|rw [c6b0]|(simp only [i64_w,i32_w];rw [c6b0])|skip)
    replace H:=Option.bind_eq_some_iff.mp H;obtain ⟨t244,A70,H⟩:=H;(try dsimp only at H);have A7:=zA A70;clear A70;have H':=zA H;clear H;obtain ⟨_,_,_,_,_,_,_,_,_,_⟩:=zc5 K242;go_wp2_with (first|((with_reducible refine gate_callee (f:=58) rfl ?_);refine zg (some 5) Try.func58 #[.int .i64 a0_0] ?_;(with_reducible refine (beaconref06_number.calls a0_0 true _ A4.out).mono ?_);rintro e w' ⟨rfl,⟨nd,rfl⟩⟩;refine ⟨_,rfl,?_⟩)|(go_at_call 59;(with_reducible refine (beaconref06_Far.calls a0_2 t244 _ A7.out).mono ?_);rintro e w' ⟨rfl,⟨nd,rfl⟩⟩))
    go_meet
    case rel => exact ⟨_,(!t244),ze,H',⟨zo⟩,⟨z1 K242.1⟩,⟨zH HB⟩⟩
   ·rw [if_neg c6] at H;have c6b0 : (a0_1 == 1) = false:=beq_eq_false_iff_ne.mpr c6;have c6b1 : (a0_1 != 1) = true:=bne_iff_ne.mpr c6;(first|rw [c6b0]|(simp only [i64_w,i32_w];rw [c6b0])|skip)
    by_cases c9 : a0_1 = 2
    ·rw [if_pos c9] at H;have c9b0 : (a0_1 == 2) = true:=beq_iff_eq.mpr c9;have c9b1 : (a0_1 != 2) = false:=bne_eq_false_iff_eq.mpr c9;clear c9;replace H:=Option.bind_eq_some_iff.mp H;obtain ⟨t245,A100,H⟩:=H;(try dsimp only at H);have A10:=zA A100;clear A100;have H':=zA H;clear H;obtain ⟨_,_,_,_,_,_,_,_,_,_⟩:=zc5 K242;go_wp2_with (first|((with_reducible refine gate_callee (f:=58) rfl ?_);refine zg (some 5) Try.func58 #[.int .i64 a0_0] ?_;(with_reducible refine (beaconref06_number.calls a0_0 true _ A4.out).mono ?_);rintro e w' ⟨rfl,⟨nd,rfl⟩⟩;refine ⟨_,rfl,?_⟩)|(go_at_call 59;(with_reducible refine (beaconref06_Far.calls a0_2 t245 _ A10.out).mono ?_);rintro e w' ⟨rfl,⟨nd,rfl⟩⟩))
     go_meet
     case rel => exact ⟨_,(!t245),ze,H',⟨zo⟩,⟨z1 K242.1⟩,⟨zH HB⟩⟩
    ·rw [if_neg c9] at H;have c9b0 : (a0_1 == 2) = false:=beq_eq_false_iff_ne.mpr c9;have c9b1 : (a0_1 != 2) = true:=bne_iff_ne.mpr c9;have H':=zA H;clear H;obtain ⟨_,_,_,_,_,_,_,_,_,_⟩:=zc5 K242;go_wp2_with (first|((with_reducible refine gate_callee (f:=58) rfl ?_);refine zg (some 5) Try.func58 #[.int .i64 a0_0] ?_;(with_reducible refine (beaconref06_number.calls a0_0 true _ A4.out).mono ?_);rintro e w' ⟨rfl,⟨nd,rfl⟩⟩;refine ⟨_,rfl,?_⟩))
     go_meet
     case rel => exact ⟨_,(true),ze,H',⟨zo⟩,⟨z1 K242.1⟩,⟨zH HB⟩⟩
  ·replace c5:=Bool.eq_false_iff.mpr c5;subst c5;rw [if_neg (show ¬ (false = true) by decide)] at H;have H':=zA H;clear H;obtain ⟨_,_,_,_,_,_,_,_,_,_⟩:=zc5 K242;go_wp2_with (first|((with_reducible refine gate_callee (f:=58) rfl ?_);refine zg (some 5) Try.func58 #[.int .i64 a0_0] ?_;(with_reducible refine (beaconref06_number.calls a0_0 false _ A4.out).mono ?_);rintro e w' ⟨rfl,⟨nd,rfl⟩⟩;refine ⟨_,rfl,?_⟩))
   go_meet
   case rel => exact ⟨_,(true),ze,H',⟨zo⟩,⟨z1 K242.1⟩,⟨zH HB⟩⟩
 case rest =>
  clear HC2;obtain ⟨kq,x22_1,rfl,HA,HJ1,K242,HB⟩:=hcut;cases kq with
  | zero => exact absurd HA.out (by simp [beaconref06_May.j0])
  | succ kj1 =>
   have H:=HA.out;clear HA;simp only [beaconref06_May.j0] at H;by_cases c14 : x22_1 = true
   ·subst c14;rw [if_pos rfl] at H;obtain rfl:=Option.some.inj H;go_wp2
    go_ret
    exact ⟨zE,zH HB⟩
   ·replace c14:=Bool.eq_false_iff.mpr c14;subst c14;rw [if_neg (show ¬ (false = true) by decide)] at H;have HC15:=zA H;clear H;go_upto_region 3 with (fail)
    go_cut [30] (fun v30 wc => ∃ (kq : Nat) (x30_14 : Bool),v30 = .bool x30_14 ∧ Aside0 (beaconref06_May.j1 kq x30_14 a0_0 a0_1 a0_2 a0_3 a0_4 = some r) ∧ Aside0 (kq ≤ kj1) ∧ Aside0 (wc.heap[G242]? = some (.cells #[.int .i64 a0_0,.int .i64 a0_1,.float .f64 a0_2,.float .f64 a0_3,.int .i64 a0_4] 61 (0,0))) ∧ Aside0 (Below w.heap.size w wc))
    case first =>
     have H:=HC15.out;clear HC15;by_cases c16 : a0_1 = 1
     ·rw [if_pos c16] at H;have c16b0 : (a0_1 == 1) = true:=beq_iff_eq.mpr c16;have c16b1 : (a0_1 != 1) = false:=bne_eq_false_iff_eq.mpr c16;clear c16;(first|rw [c16b0]|(simp only [i64_w,i32_w];rw [c16b0])|skip)
      have H':=zA H;clear H;obtain ⟨_,_,_,_,_,_,_,_,_,_⟩:=zc5 K242;go_wp2
      go_meet
      case rel => exact ⟨_,(true),ze,H',⟨by have:=HJ1.out;first|omega|exact Nat.le_refl _⟩,⟨z1 K242.1⟩,⟨zH HB⟩⟩
     ·rw [if_neg c16] at H;have c16b0 : (a0_1 == 1) = false:=beq_eq_false_iff_ne.mpr c16;have c16b1 : (a0_1 != 1) = true:=bne_iff_ne.mpr c16;(first|rw [c16b0]|(simp only [i64_w,i32_w];rw [c16b0])|skip)
      replace H:=Option.bind_eq_some_iff.mp H;obtain ⟨t246,A180,H⟩:=H;(try dsimp only at H);have A18:=zA A180;clear A180;have H':=zA H;clear H;obtain ⟨_,_,_,_,_,_,_,_,_,_⟩:=zc5 K242;go_wp2_with (first|(go_at_call 38;(with_reducible refine (math_IsInf.calls a0_2 1 t246 _ A18.out).mono ?_);rintro e w' ⟨rfl,⟨nd,rfl⟩⟩))
      go_meet
      case rel => exact ⟨_,(t246),ze,H',⟨by have:=HJ1.out;first|omega|exact Nat.le_refl _⟩,⟨z1 K242.1⟩,⟨zH HB⟩⟩
    case rest =>
     clear HC15;try clear c14
     obtain ⟨kq,x30_14,rfl,HA,HJ14,K242,HB⟩:=hcut;cases kq with
     | zero => exact absurd HA.out (by simp [beaconref06_May.j1])
     | succ kj14 =>
      have H:=HA.out;clear HA;simp only [beaconref06_May.j1] at H;by_cases c20 : x30_14 = true
      ·subst c20;rw [if_pos rfl] at H;replace H:=Option.bind_eq_some_iff.mp H;obtain ⟨t247,A210,H⟩:=H;(try dsimp only at H);have A21:=zA A210;clear A210;by_cases c22 : t247 = true
       ·subst c22;rw [if_pos rfl] at H;obtain rfl:=Option.some.inj H;obtain ⟨_,_,_,_,_,_,_,_,_,_⟩:=zc5 K242;go_wp2_with (first|((with_reducible refine gate_callee (f:=60) rfl ?_);refine zg (some 33) Try.func60 #[.float .f64 a0_3] ?_;(with_reducible refine (beaconref06_zero.calls a0_3 true _ A21.out).mono ?_);rintro e w' ⟨rfl,⟨nd,rfl⟩⟩;refine ⟨_,rfl,?_⟩))
        go_ret
        exact ⟨zE,zH HB⟩
       ·replace c22:=Bool.eq_false_iff.mpr c22;subst c22;rw [if_neg (show ¬ (false = true) by decide)] at H;obtain rfl:=Option.some.inj H;obtain ⟨_,_,_,_,_,_,_,_,_,_⟩:=zc5 K242;go_wp2_with (first|((with_reducible refine gate_callee (f:=60) rfl ?_);refine zg (some 33) Try.func60 #[.float .f64 a0_3] ?_;(with_reducible refine (beaconref06_zero.calls a0_3 false _ A21.out).mono ?_);rintro e w' ⟨rfl,⟨nd,rfl⟩⟩;refine ⟨_,rfl,?_⟩))
        go_ret
        exact ⟨zE,zH HB⟩
      ·replace c20:=Bool.eq_false_iff.mpr c20;subst c20;rw [if_neg (show ¬ (false = true) by decide)] at H;replace H:=Option.bind_eq_some_iff.mp H;obtain ⟨t248,A250,H⟩:=H;(try dsimp only at H);have A25:=zA A250;clear A250;by_cases c26 : t248 = true
       ·subst c26;rw [if_pos rfl] at H;obtain rfl:=Option.some.inj H;obtain ⟨_,_,_,_,_,_,_,_,_,_⟩:=zc5 K242;go_wp2_with (first|((with_reducible refine gate_callee (f:=38) rfl ?_);refine zg (some 41) Try.func38 #[.float .f64 a0_3,.int .i64 1] ?_;(with_reducible refine (math_IsInf.calls a0_3 1 true _ A25.out).mono ?_);rintro e w' ⟨rfl,⟨nd,rfl⟩⟩;refine ⟨_,rfl,?_⟩))
        go_ret
        exact ⟨zE,zH HB⟩
       ·replace c26:=Bool.eq_false_iff.mpr c26;subst c26;rw [if_neg (show ¬ (false = true) by decide)] at H;replace H:=Option.bind_eq_some_iff.mp H;obtain ⟨t249,A280,H⟩:=H;(try dsimp only at H);have A28:=zA A280;clear A280;by_cases c29 : t249 = true
        ·subst c29;rw [if_pos rfl] at H;replace H:=Option.bind_eq_some_iff.mp H;obtain ⟨t250,A300,H⟩:=H;(try dsimp only at H);have A30:=zA A300;clear A300;obtain rfl:=Option.some.inj H;obtain ⟨_,_,_,_,_,_,_,_,_,_⟩:=zc5 K242;go_wp2_with (first|((with_reducible refine gate_callee (f:=38) rfl ?_);refine zg (some 41) Try.func38 #[.float .f64 a0_3,.int .i64 1] ?_;(with_reducible refine (math_IsInf.calls a0_3 1 false _ A25.out).mono ?_);rintro e w' ⟨rfl,⟨nd,rfl⟩⟩;refine ⟨_,rfl,?_⟩)|((with_reducible refine gate_callee (f:=59) rfl ?_);refine zg (some 47) Try.func59 #[.float .f64 a0_3] ?_;(with_reducible refine (beaconref06_Far.calls a0_3 true _ A28.out).mono ?_);rintro e w' ⟨rfl,⟨nd,rfl⟩⟩;refine ⟨_,rfl,?_⟩)|(go_at_call 58;(with_reducible refine (beaconref06_number.calls a0_4 t250 _ A30.out).mono ?_);rintro e w' ⟨rfl,⟨nd,rfl⟩⟩))
         go_ret
         exact ⟨zE,zH HB⟩
        ·replace c29:=Bool.eq_false_iff.mpr c29;subst c29;rw [if_neg (show ¬ (false = true) by decide)] at H;obtain rfl:=Option.some.inj H;obtain ⟨_,_,_,_,_,_,_,_,_,_⟩:=zc5 K242;go_wp2_with (first|((with_reducible refine gate_callee (f:=38) rfl ?_);refine zg (some 41) Try.func38 #[.float .f64 a0_3,.int .i64 1] ?_;(with_reducible refine (math_IsInf.calls a0_3 1 false _ A25.out).mono ?_);rintro e w' ⟨rfl,⟨nd,rfl⟩⟩;refine ⟨_,rfl,?_⟩)|((with_reducible refine gate_callee (f:=59) rfl ?_);refine zg (some 47) Try.func59 #[.float .f64 a0_3] ?_;(with_reducible refine (beaconref06_Far.calls a0_3 false _ A28.out).mono ?_);rintro e w' ⟨rfl,⟨nd,rfl⟩⟩;refine ⟨_,rfl,?_⟩))
         go_ret
         exact ⟨zE,zH HB⟩

/-! ### beaconref06_Before: function 50 -/
def beaconref06_Before.f (a0_0 : Int) (a0_1 : Int) (a0_2 : Nat) (a0_3 : Nat) (a0_4 : Int) (a1_0 : Int) (a1_1 : Int) (a1_2 : Nat) (a1_3 : Nat) (a1_4 : Int) : Option (Bool) := if a0_1 < a1_1 then (some true) else (if a0_1 = a1_1 then (some (decide (a0_0 < a1_0))) else (some false))
set_option maxHeartbeats 8000000 in
set_option maxRecDepth 100000 in
theorem beaconref06_Before.calls (a0_0 : Int) (a0_1 : Int) (a0_2 : Nat) (a0_3 : Nat) (a0_4 : Int) (a1_0 : Int) (a1_1 : Int) (a1_2 : Nat) (a1_3 : Nat) (a1_4 : Int) (r : Bool) (w : World) (h : beaconref06_Before.f a0_0 a0_1 a0_2 a0_3 a0_4 a1_0 a1_1 a1_2 a1_3 a1_4 = some r) :
  Calls Try.prog 50 #[.agg #[.int .i64 a0_0,.int .i64 a0_1,.float .f64 a0_2,.float .f64 a0_3,.int .i64 a0_4],.agg #[.int .i64 a1_0,.int .i64 a1_1,.float .f64 a1_2,.float .f64 a1_3,.int .i64 a1_4]] w fun e w' => e = .returned (.bool r) ∧ Below w.heap.size w w':=by
 have hu61:=Try.underlying61;have HB:=zA (Below.refl w.heap.size w);have H : (if a0_1 < a1_1 then (some true) else (if a0_1 = a1_1 then (some (decide (a0_0 < a1_0))) else (some false))) = some r:=h;clear h;by_cases c3 : a0_1 < a1_1
 ·rw [if_pos c3] at H;have c3b0 : decide (a0_1 < a1_1) = true:=decide_eq_true c3;clear c3;obtain rfl:=Option.some.inj H;go_enter Try.func50,Try.ntmps50
  go_wp2_with (first|((with_reducible refine gate_dst (N:=2) rfl ?_);refine zb (N:=2) (cs:=#[.int .i64 a0_0,.int .i64 a0_1,.float .f64 a0_2,.float .f64 a0_3,.int .i64 a0_4]) (t:=61) ?_;intro G251 hg w4 hbox hb;have K251:=zA (hbox);have GW251:=zN HB hg;have GE251:=zN HB hg;replace HB:=zS HB hb;clear hb hbox hg)|((with_reducible refine gate_dst (N:=3) rfl ?_);refine zb (N:=3) (cs:=#[.int .i64 a1_0,.int .i64 a1_1,.float .f64 a1_2,.float .f64 a1_3,.int .i64 a1_4]) (t:=61) ?_;intro G252 hg w5 hbox hb;have K252:=zA (hbox);have GW252:=zN HB hg;have GE252:=zN HB hg;replace HB:=zS HB hb;have NB251_252:=zL K251 hg;have NB252_251:=zG K251 hg;replace K251:=zB K251 hb;clear hb hbox hg;have:=NB251_252.1;have:=NB252_251.1;obtain ⟨_,_,_,_,_,_,_,_,_,_⟩:=zc5 K251;obtain ⟨_,_,_,_,_,_,_,_,_,_⟩:=zc5 K252))
  go_ret
  exact ⟨zE,zH HB⟩
 ·rw [if_neg c3] at H;have c3b0 : decide (a0_1 < a1_1) = false:=decide_eq_false c3;clear c3;by_cases c9 : a0_1 = a1_1
  ·rw [if_pos c9] at H;have c9b0 : (a0_1 == a1_1) = true:=beq_iff_eq.mpr c9;have c9b1 : (a0_1 != a1_1) = false:=bne_eq_false_iff_eq.mpr c9;clear c9;obtain rfl:=Option.some.inj H;go_enter Try.func50,Try.ntmps50
   go_wp2_with (first|((with_reducible refine gate_dst (N:=2) rfl ?_);refine zb (N:=2) (cs:=#[.int .i64 a0_0,.int .i64 a0_1,.float .f64 a0_2,.float .f64 a0_3,.int .i64 a0_4]) (t:=61) ?_;intro G251 hg w10 hbox hb;have K251:=zA (hbox);have GW251:=zN HB hg;have GE251:=zN HB hg;replace HB:=zS HB hb;clear hb hbox hg)|((with_reducible refine gate_dst (N:=3) rfl ?_);refine zb (N:=3) (cs:=#[.int .i64 a1_0,.int .i64 a1_1,.float .f64 a1_2,.float .f64 a1_3,.int .i64 a1_4]) (t:=61) ?_;intro G252 hg w11 hbox hb;have K252:=zA (hbox);have GW252:=zN HB hg;have GE252:=zN HB hg;replace HB:=zS HB hb;have NB251_252:=zL K251 hg;have NB252_251:=zG K251 hg;replace K251:=zB K251 hb;clear hb hbox hg;have:=NB251_252.1;have:=NB252_251.1;obtain ⟨_,_,_,_,_,_,_,_,_,_⟩:=zc5 K251;obtain ⟨_,_,_,_,_,_,_,_,_,_⟩:=zc5 K252))
   go_ret
   exact ⟨zE,zH HB⟩
  ·rw [if_neg c9] at H;have c9b0 : (a0_1 == a1_1) = false:=beq_eq_false_iff_ne.mpr c9;have c9b1 : (a0_1 != a1_1) = true:=bne_iff_ne.mpr c9;obtain rfl:=Option.some.inj H;go_enter Try.func50,Try.ntmps50
   go_wp2_with (first|((with_reducible refine gate_dst (N:=2) rfl ?_);refine zb (N:=2) (cs:=#[.int .i64 a0_0,.int .i64 a0_1,.float .f64 a0_2,.float .f64 a0_3,.int .i64 a0_4]) (t:=61) ?_;intro G251 hg w15 hbox hb;have K251:=zA (hbox);have GW251:=zN HB hg;have GE251:=zN HB hg;replace HB:=zS HB hb;clear hb hbox hg)|((with_reducible refine gate_dst (N:=3) rfl ?_);refine zb (N:=3) (cs:=#[.int .i64 a1_0,.int .i64 a1_1,.float .f64 a1_2,.float .f64 a1_3,.int .i64 a1_4]) (t:=61) ?_;intro G252 hg w16 hbox hb;have K252:=zA (hbox);have GW252:=zN HB hg;have GE252:=zN HB hg;replace HB:=zS HB hb;have NB251_252:=zL K251 hg;have NB252_251:=zG K251 hg;replace K251:=zB K251 hb;clear hb hbox hg;have:=NB251_252.1;have:=NB252_251.1;obtain ⟨_,_,_,_,_,_,_,_,_,_⟩:=zc5 K251;obtain ⟨_,_,_,_,_,_,_,_,_,_⟩:=zc5 K252))
   go_ret
   exact ⟨zE,zH HB⟩

end Go.Proofs.Ytpcgjdllgdkobaa.XP
