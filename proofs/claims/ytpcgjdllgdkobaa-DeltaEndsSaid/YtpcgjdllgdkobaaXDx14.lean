/- Go functions of this seat as Lean functions, with proofs that the calls come to them. (Written by xprint.py, a program of this session, over the kit's print.) -/
import Derived.Test.YtpcgjdllgdkobaaXDx0
import Derived.Test.YtpcgjdllgdkobaaXDx3
namespace Go.Proofs.Ytpcgjdllgdkobaa.XD
open Go.RowKit Go.Proofs.YtpcgjdllgdkobaaW.PrintWords Go.Proofs.YtpcgjdllgdkobaaW.PrintLast Go.Proofs.YtpcgjdllgdkobaaW.PrintMore
attribute [local go_sem] max2_int min2_int max_two min_two max_three min_three max_four min_four   -- for this text's walks alone
set_option linter.unusedVariables false
set_option linter.unusedSimpArgs false
open List renaming setIfInBounds_toArray → xA, set_cons_zero → xB, set_cons_succ → xC
open Go.Proofs.YtpcgjdllgdkobaaW.PrintWords renaming blk_drewN → bN, blk_drew → bD, blk_alloc → bA, below_set → bS, blk_frozen → bF, blk_cell → bC, cell_far → cF, blk_far → bZ, blk_below → bB, pw_below_drewN → bwN, below_drew1 → bw1, below_alloc → bwA
open Go.Proofs.YtpcgjdllgdkobaaW.PrintZ
open Bool renaming true → T,false → F

/-! ### beaconlaw14_own: function 13 -/
def beaconlaw14_own.f (l0 : List (S61)) : Option ((List (S61))) := if ([] : List (S61)).length + l0.length < 3518437208883 then (some (([] : List (S61)) ++ l0)) else (none)
set_option maxHeartbeats 8000000 in
set_option maxRecDepth 100000 in
theorem beaconlaw14_own.calls (A0 : Option Addr) (c0 : Nat) (l0 : List (S61)) (r : List (S61)) (w : World) (hr0 : Kd.C k61 w A0 l0.length l0) (hc0 : l0.length ≤ c0) (h : beaconlaw14_own.f l0 = some r) :
  Calls Try.prog 13 #[.slice A0 l0.length c0] w fun e w' => ∃ v0_ : Value,e = .returned (v0_) ∧ Kd.R k61 61 w' w.heap.size (fun _ => True) v0_ r ∧ Below w.heap.size w w':=by
 have HR0:=zA hr0
 have HC0:=zA hc0
 clear hr0 hc0
 have HB:=zA (Below.refl w.heap.size w)
 have H : (if ([] : List (S61)).length + l0.length < 3518437208883 then (some (([] : List (S61)) ++ l0)) else (none)) = some r:=h
 clear h
 by_cases c2 : ([] : List (S61)).length + l0.length < 3518437208883
 ·rw [if_pos c2] at H
  have LMc2:=zA c2
  clear c2
  obtain ⟨y189,hy189⟩ : ∃ y_ : List (S61),y_ = (([] : List (S61)) ++ l0):=⟨_,rfl⟩
  replace H : (some y189) = some r:=by first|(rw [hy189];with_reducible exact H)|(have H2_:=(Option.bind_some _ _).symm.trans H;rw [hy189];with_reducible exact H2_)|(have H2_:=(Option.bind_some _ _).symm.trans H;with_reducible exact H2_)|with_reducible exact H|(rw [hy189];exact H)|exact H
  have Ny189:=zA hy189
  clear hy189
  obtain rfl:=Option.some.inj H
  go_enter Try.func13,Try.ntmps13
  go_wp2_with (first|((with_reducible refine gate_builtin (b:=.append) (xs:=#[.tmp 4,.tmp 5]) rfl ?_);at_builtin;refine Kd.R_append_rows k61 (w0:=w) w.heap.size rfl (.tmp 4) (.tmp 5) 30 61 (.agg #[(.int .i64 0),(.int .i64 0),(.float .f64 0),(.float .f64 0),(.int .i64 0)]) 40 rfl Try.underlying30 info61 rfl (by decide) (by omega) (.slice none 0 0) ([] : List (S61)) l0 _ _ _ (fun _ => True) (fun _ => False) rfl rfl ?aO ?aR (fun _ _ h => h) (fun _ h => h.elim) ?aF ?aB ?aS ?aL ?_;(case aR => repeat (first|exact HR0.out|(with_reducible refine Kd.C_alloc ?_ _)|(with_reducible refine Kd.C_drewN ?_ _)|(with_reducible refine Kd.C_drew ?_)));(case aB => exact (zH HB));(case aF => exact (fun _ _ => trivial));(case aO => exact ((Kd.R_nil _ _ _ _ (fun _ => True))));(case aS => exact (zW HB));(case aL => have:=LMc2.out;omega);intro v190 w3 ho hb hg hat;rw [← Ny189.out] at ho;replace HB:=zA (hb);have HO191:=zA (ho);clear ho hb hg hat))
  go_ret
  exact ⟨_,by first|rfl|(simp [errW_none,errW_some] <;> rfl)|(simp [*,errW_none,errW_some] <;> rfl),by (with_reducible repeat (first|apply Kd.R_alloc|apply Kd.R_drewN|apply Kd.R_drew));exact HO191.out,zH HB⟩
 ·rw [if_neg c2] at H
  exact absurd H (by simp)

/-! ### beaconref02_CheckId: function 64 -/
def beaconref02_CheckId.f (a0 : Int) : Option (Int) := if a0 < 1 then (some 20) else (if a0 > 2147483647 then (some 20) else (some 0))
set_option maxHeartbeats 8000000 in
set_option maxRecDepth 100000 in
theorem beaconref02_CheckId.calls (a0 : Int) (r : Int) (w : World) (h : beaconref02_CheckId.f a0 = some r) :
  Calls Try.prog 64 #[.int .i64 a0] w fun e w' => e = .returned (.int .i64 r) ∧ Drawn0 w w':=by
 have H : (if a0 < 1 then (some 20) else (if a0 > 2147483647 then (some 20) else (some 0))) = some r:=h
 clear h
 by_cases c2 : a0 < 1
 ·rw [if_pos c2] at H
  have c2b0 : decide (a0 < 1) = true:=decide_eq_true c2
  clear c2
  obtain rfl:=Option.some.inj H
  go_enter Try.func64,Try.ntmps64
  go_wp2
  go_ret
  exact ⟨by first|rfl|(simp;done)|(simp [*];done),by repeat (first|exact Drawn0.refl _|apply Drawn0.step)⟩
 ·rw [if_neg c2] at H
  have c2b0 : decide (a0 < 1) = false:=decide_eq_false c2
  clear c2
  by_cases c3 : a0 > 2147483647
  ·rw [if_pos c3] at H
   have c3b0 : decide (2147483647 < a0) = true:=decide_eq_true c3
   clear c3
   obtain rfl:=Option.some.inj H
   go_enter Try.func64,Try.ntmps64
   go_wp2
   go_ret
   exact ⟨by first|rfl|(simp;done)|(simp [*];done),by repeat (first|exact Drawn0.refl _|apply Drawn0.step)⟩
  ·rw [if_neg c3] at H
   have c3b0 : decide (2147483647 < a0) = false:=decide_eq_false c3
   clear c3
   obtain rfl:=Option.some.inj H
   go_enter Try.func64,Try.ntmps64
   go_wp2
   go_ret
   exact ⟨by first|rfl|(simp;done)|(simp [*];done),by repeat (first|exact Drawn0.refl _|apply Drawn0.step)⟩

/-! ### beaconref06_number: function 58 -/
def beaconref06_number.f (a0 : Int) : Option (Bool) := (beaconref02_CheckId.f a0).bind fun t192 => (some (t192 == 0))
set_option maxHeartbeats 8000000 in
set_option maxRecDepth 100000 in
theorem beaconref06_number.calls (a0 : Int) (r : Bool) (w : World) (h : beaconref06_number.f a0 = some r) :
  Calls Try.prog 58 #[.int .i64 a0] w fun e w' => e = .returned (.bool r) ∧ Drawn0 w w':=by
 have H : ((beaconref02_CheckId.f a0).bind fun t192 => (some (t192 == 0))) = some r:=h
 clear h
 replace H:=Option.bind_eq_some_iff.mp H
 obtain ⟨t192,A20,H⟩:=H
 (try dsimp only at H)
 have A2:=zA A20
 clear A20
 obtain rfl:=Option.some.inj H
 go_enter Try.func58,Try.ntmps58
 go_wp2_with (first|((with_reducible refine gate_callee (f:=64) rfl ?_);refine zg (some 4) Try.func64 #[.int .i64 a0] ?_;(with_reducible refine (beaconref02_CheckId.calls a0 t192 _ A2.out).mono ?_);rintro e w' ⟨rfl,⟨nd,rfl⟩⟩;refine ⟨_,rfl,?_⟩))
 go_ret
 exact ⟨by first|rfl|(simp;done)|(simp [*];done),by repeat (first|exact Drawn0.refl _|apply Drawn0.step)⟩

/-! ### beaconref06_Far: function 59 -/
def beaconref06_Far.f (a0 : Nat) : Option (Bool) := (math_IsInf.f a0 1).bind fun t193 => (if t193 = true then (some true) else (if (fbits a0) = 0 then (some true) else (if (flt 0 a0) = true then (if (flt a0 4742290407621132288) = true then (if (fmulOk a0 4616189618054758400) = true then ((math_Trunc.f (fmul a0 4616189618054758400)).bind fun t194 => (some (feq (fmul a0 4616189618054758400) t194))) else (none)) else (some false)) else (some false))))
set_option maxHeartbeats 8000000 in
set_option maxRecDepth 100000 in
theorem beaconref06_Far.calls (a0 : Nat) (r : Bool) (w : World) (h : beaconref06_Far.f a0 = some r) :
  Calls Try.prog 59 #[.float .f64 a0] w fun e w' => e = .returned (.bool r) ∧ Drawn0 w w':=by
 have H : ((math_IsInf.f a0 1).bind fun t193 => (if t193 = true then (some true) else (if (fbits a0) = 0 then (some true) else (if (flt 0 a0) = true then (if (flt a0 4742290407621132288) = true then (if (fmulOk a0 4616189618054758400) = true then ((math_Trunc.f (fmul a0 4616189618054758400)).bind fun t194 => (some (feq (fmul a0 4616189618054758400) t194))) else (none)) else (some false)) else (some false))))) = some r:=h
 clear h
 replace H:=Option.bind_eq_some_iff.mp H
 obtain ⟨t193,A20,H⟩:=H
 (try dsimp only at H)
 have A2:=zA A20
 clear A20
 by_cases c3 : t193 = true
 ·subst c3
  rw [if_pos rfl] at H
  obtain rfl:=Option.some.inj H
  go_enter Try.func59,Try.ntmps59
  go_wp2_with (first|((with_reducible refine gate_callee (f:=38) rfl ?_);refine zg (some 4) Try.func38 #[.float .f64 a0,.int .i64 1] ?_;(with_reducible refine (math_IsInf.calls a0 1 true _ A2.out).mono ?_);rintro e w' ⟨rfl,⟨nd,rfl⟩⟩;refine ⟨_,rfl,?_⟩))
  go_ret
  exact ⟨by first|rfl|(simp;done)|(simp [*];done),by repeat (first|exact Drawn0.refl _|apply Drawn0.step)⟩
 ·replace c3:=Bool.eq_false_iff.mpr c3
  subst c3
  rw [if_neg (show ¬ (false = true) by decide)] at H
  by_cases c4 : (fbits a0) = 0
  ·rw [if_pos c4] at H
   have c4b0 : ((fbits a0) == 0) = true:=beq_iff_eq.mpr c4
   have c4b1 : ((fbits a0) != 0) = false:=bne_eq_false_iff_eq.mpr c4
   clear c4
   obtain rfl:=Option.some.inj H
   go_enter Try.func59,Try.ntmps59
   go_wp2_with (first|((with_reducible refine gate_callee (f:=38) rfl ?_);refine zg (some 4) Try.func38 #[.float .f64 a0,.int .i64 1] ?_;(with_reducible refine (math_IsInf.calls a0 1 false _ A2.out).mono ?_);rintro e w' ⟨rfl,⟨nd,rfl⟩⟩;refine ⟨_,rfl,?_⟩))
   go_ret
   exact ⟨by first|rfl|(simp;done)|(simp [*];done),by repeat (first|exact Drawn0.refl _|apply Drawn0.step)⟩
  ·rw [if_neg c4] at H
   have c4b0 : ((fbits a0) == 0) = false:=beq_eq_false_iff_ne.mpr c4
   have c4b1 : ((fbits a0) != 0) = true:=bne_iff_ne.mpr c4
   by_cases c5 : (flt 0 a0) = true
   ·rw [if_pos c5] at H
    have c5b0 : (flt 0 a0) = true:=c5
    clear c5
    by_cases c6 : (flt a0 4742290407621132288) = true
    ·rw [if_pos c6] at H
     have c6b0 : (flt a0 4742290407621132288) = true:=c6
     clear c6
     by_cases c7 : (fmulOk a0 4616189618054758400) = true
     ·rw [if_pos c7] at H
      have c7b0:=eq_true c7
      have c7b1 : decide ((fmulOk a0 4616189618054758400) = true) = true:=decide_eq_true c7
      clear c7
      replace H:=Option.bind_eq_some_iff.mp H
      obtain ⟨t194,A80,H⟩:=H
      (try dsimp only at H)
      have A8:=zA A80
      clear A80
      obtain rfl:=Option.some.inj H
      go_enter Try.func59,Try.ntmps59
      go_wp2_with (first|((with_reducible refine gate_callee (f:=38) rfl ?_);refine zg (some 4) Try.func38 #[.float .f64 a0,.int .i64 1] ?_;(with_reducible refine (math_IsInf.calls a0 1 false _ A2.out).mono ?_);rintro e w' ⟨rfl,⟨nd,rfl⟩⟩;refine ⟨_,rfl,?_⟩)|(go_at_call 65;(with_reducible refine (math_Trunc.calls (fmul a0 4616189618054758400) t194 _ A8.out).mono ?_);rintro e w' ⟨rfl,⟨nd,rfl⟩⟩))
      go_ret
      exact ⟨by first|rfl|(simp;done)|(simp [*];done),by repeat (first|exact Drawn0.refl _|apply Drawn0.step)⟩
     ·rw [if_neg c7] at H
      exact absurd H (by simp)
    ·rw [if_neg c6] at H
     have c6b0 : (flt a0 4742290407621132288) = false:=by simpa using c6
     clear c6
     obtain rfl:=Option.some.inj H
     go_enter Try.func59,Try.ntmps59
     go_wp2_with (first|((with_reducible refine gate_callee (f:=38) rfl ?_);refine zg (some 4) Try.func38 #[.float .f64 a0,.int .i64 1] ?_;(with_reducible refine (math_IsInf.calls a0 1 false _ A2.out).mono ?_);rintro e w' ⟨rfl,⟨nd,rfl⟩⟩;refine ⟨_,rfl,?_⟩))
     go_ret
     exact ⟨by first|rfl|(simp;done)|(simp [*];done),by repeat (first|exact Drawn0.refl _|apply Drawn0.step)⟩
   ·rw [if_neg c5] at H
    have c5b0 : (flt 0 a0) = false:=by simpa using c5
    clear c5
    obtain rfl:=Option.some.inj H
    go_enter Try.func59,Try.ntmps59
    go_wp2_with (first|((with_reducible refine gate_callee (f:=38) rfl ?_);refine zg (some 4) Try.func38 #[.float .f64 a0,.int .i64 1] ?_;(with_reducible refine (math_IsInf.calls a0 1 false _ A2.out).mono ?_);rintro e w' ⟨rfl,⟨nd,rfl⟩⟩;refine ⟨_,rfl,?_⟩))
    go_ret
    exact ⟨by first|rfl|(simp;done)|(simp [*];done),by repeat (first|exact Drawn0.refl _|apply Drawn0.step)⟩

/-! ### beaconref06_zero: function 60 -/
def beaconref06_zero.f (a0 : Nat) : Option (Bool) := some ((fbits a0) == 0)
set_option maxHeartbeats 8000000 in
set_option maxRecDepth 100000 in
theorem beaconref06_zero.calls (a0 : Nat) (r : Bool) (w : World) (h : beaconref06_zero.f a0 = some r) :
  Calls Try.prog 60 #[.float .f64 a0] w fun e w' => e = .returned (.bool r) ∧ Drawn0 w w':=by
 have H : (some ((fbits a0) == 0)) = some r:=h
 clear h
 obtain rfl:=Option.some.inj H
 go_enter Try.func60,Try.ntmps60
 go_wp2
 go_ret
 exact ⟨by first|rfl|(simp;done)|(simp [*];done),by repeat (first|exact Drawn0.refl _|apply Drawn0.step)⟩

/-! ### beaconref06_May: function 49 -/
mutual
def beaconref06_May.j0 : Nat → Bool → Int → Int → Nat → Nat → Int → Option (Bool)
 | 0, _, _, _, _, _, _ => none
 | k + 1, x22, x196000, x196001, x196002, x196003, x196004 => if x22 = true then (some false) else (if x196001 = 1 then (beaconref06_May.j1 k true x196000 x196001 x196002 x196003 x196004) else ((math_IsInf.f x196002 1).bind fun t199 => (beaconref06_May.j1 k t199 x196000 x196001 x196002 x196003 x196004)))
def beaconref06_May.j1 : Nat → Bool → Int → Int → Nat → Nat → Int → Option (Bool)
 | 0, _, _, _, _, _, _ => none
 | k + 1, x30, x196000, x196001, x196002, x196003, x196004 => if x30 = true then ((beaconref06_zero.f x196003).bind fun t200 => (if t200 = true then (some (x196004 == 0)) else (some false))) else ((math_IsInf.f x196003 1).bind fun t201 => (if t201 = true then (some (x196004 == 0)) else ((beaconref06_Far.f x196003).bind fun t202 => (if t202 = true then ((beaconref06_number.f x196004).bind fun t203 => (some t203)) else (some false)))))
end
def beaconref06_May.f (k : Nat) (a0_0 : Int) (a0_1 : Int) (a0_2 : Nat) (a0_3 : Nat) (a0_4 : Int) : Option (Bool) := (beaconref06_number.f a0_0).bind fun t196 => (if t196 = true then (if a0_1 = 1 then ((beaconref06_Far.f a0_2).bind fun t197 => (beaconref06_May.j0 k (!t197) a0_0 a0_1 a0_2 a0_3 a0_4)) else (if a0_1 = 2 then ((beaconref06_Far.f a0_2).bind fun t198 => (beaconref06_May.j0 k (!t198) a0_0 a0_1 a0_2 a0_3 a0_4)) else (beaconref06_May.j0 k true a0_0 a0_1 a0_2 a0_3 a0_4))) else (beaconref06_May.j0 k true a0_0 a0_1 a0_2 a0_3 a0_4))
theorem beaconref06_May.mono_l : ∀ k, (∀ y0 y1 y2 y3 y4 y5, LeO (beaconref06_May.j0 k y0 y1 y2 y3 y4 y5) (beaconref06_May.j0 (k + 1) y0 y1 y2 y3 y4 y5)) ∧ (∀ y0 y1 y2 y3 y4 y5, LeO (beaconref06_May.j1 k y0 y1 y2 y3 y4 y5) (beaconref06_May.j1 (k + 1) y0 y1 y2 y3 y4 y5))
 | 0 => ⟨fun _ _ _ _ _ _ r h => by simp [beaconref06_May.j0] at h, fun _ _ _ _ _ _ r h => by simp [beaconref06_May.j1] at h⟩
 | k + 1 => by
  obtain ⟨ih0,ih1⟩:=beaconref06_May.mono_l k
  refine ⟨?_,?_⟩
  ·intro y0 y1 y2 y3 y4 y5
   unfold beaconref06_May.j0
   repeat' first
   | (with_reducible exact ih0 _ _ _ _ _ _)
   | (with_reducible exact ih1 _ _ _ _ _ _)
   | (with_reducible exact LeO.refl _)
   | (with_reducible exact LeO.none _)
   | (with_reducible refine LeO.ite ?_ ?_)
   | (with_reducible refine LeO.bind ?_ (fun _ => ?_))
   | exact ih0 _ _ _ _ _ _
   | exact ih1 _ _ _ _ _ _
   | exact LeO.none _
   | refine LeO.ite ?_ ?_
   | refine LeO.bind ?_ (fun _ => ?_)
  ·intro y0 y1 y2 y3 y4 y5
   unfold beaconref06_May.j1
   repeat' first
   | (with_reducible exact ih0 _ _ _ _ _ _)
   | (with_reducible exact ih1 _ _ _ _ _ _)
   | (with_reducible exact LeO.refl _)
   | (with_reducible exact LeO.none _)
   | (with_reducible refine LeO.ite ?_ ?_)
   | (with_reducible refine LeO.bind ?_ (fun _ => ?_))
   | exact ih0 _ _ _ _ _ _
   | exact ih1 _ _ _ _ _ _
   | exact LeO.none _
   | refine LeO.ite ?_ ?_
   | refine LeO.bind ?_ (fun _ => ?_)
theorem beaconref06_May.mono : ∀ a0 a1 a2 a3 a4 k, LeO (beaconref06_May.f k a0 a1 a2 a3 a4) (beaconref06_May.f (k + 1) a0 a1 a2 a3 a4) := by
 intro a0 a1 a2 a3 a4 k
 obtain ⟨ih0,ih1⟩:=beaconref06_May.mono_l k
 unfold beaconref06_May.f
 repeat' first
   | (with_reducible exact ih0 _ _ _ _ _ _)
   | (with_reducible exact ih1 _ _ _ _ _ _)
   | (with_reducible exact LeO.refl _)
   | (with_reducible exact LeO.none _)
   | (with_reducible refine LeO.ite ?_ ?_)
   | (with_reducible refine LeO.bind ?_ (fun _ => ?_))
   | exact ih0 _ _ _ _ _ _
   | exact ih1 _ _ _ _ _ _
   | exact LeO.none _
   | refine LeO.ite ?_ ?_
   | refine LeO.bind ?_ (fun _ => ?_)
set_option maxHeartbeats 8000000 in
set_option maxRecDepth 100000 in
theorem beaconref06_May.calls (k : Nat) (a0_0 : Int) (a0_1 : Int) (a0_2 : Nat) (a0_3 : Nat) (a0_4 : Int) (r : Bool) (w : World) (h : beaconref06_May.f k a0_0 a0_1 a0_2 a0_3 a0_4 = some r) :
  Calls Try.prog 49 #[.agg #[.int .i64 a0_0,.int .i64 a0_1,.float .f64 a0_2,.float .f64 a0_3,.int .i64 a0_4]] w fun e w' => e = .returned (.bool r) ∧ Below w.heap.size w w':=by
 have hu61:=Try.underlying61
 have HB:=zA (Below.refl w.heap.size w)
 have H : ((beaconref06_number.f a0_0).bind fun t196 => (if t196 = true then (if a0_1 = 1 then ((beaconref06_Far.f a0_2).bind fun t197 => (beaconref06_May.j0 k (!t197) a0_0 a0_1 a0_2 a0_3 a0_4)) else (if a0_1 = 2 then ((beaconref06_Far.f a0_2).bind fun t198 => (beaconref06_May.j0 k (!t198) a0_0 a0_1 a0_2 a0_3 a0_4)) else (beaconref06_May.j0 k true a0_0 a0_1 a0_2 a0_3 a0_4))) else (beaconref06_May.j0 k true a0_0 a0_1 a0_2 a0_3 a0_4))) = some r:=h
 clear h
 have HC2:=zA H
 clear H
 go_enter Try.func49,Try.ntmps49
 go_upto_region 1 with (first|((with_reducible refine gate_dst (N:=1) rfl ?_);refine zb (N:=1) (cs:=#[.int .i64 a0_0,.int .i64 a0_1,.float .f64 a0_2,.float .f64 a0_3,.int .i64 a0_4]) (t:=61) ?_;intro G195 hg w3 hbox hb;have K195:=zA (hbox);have GW195:=zN HB hg;have GE195:=zN HB hg;replace HB:=zS HB hb;clear hb hbox hg))
 (try simp only [Act.put,xA,xB,xC])
 go_cut [22] (fun v22 wc => ∃ (kq : Nat) (x22_1 : Bool),v22 = .bool x22_1 ∧ Aside0 (beaconref06_May.j0 kq x22_1 a0_0 a0_1 a0_2 a0_3 a0_4 = some r) ∧ Aside0 (kq ≤ k) ∧ Aside0 (wc.heap[G195]? = some (.cells #[.int .i64 a0_0,.int .i64 a0_1,.float .f64 a0_2,.float .f64 a0_3,.int .i64 a0_4] 61 (0,0))) ∧ Aside0 (Below w.heap.size w wc))
 case first =>
  have H:=HC2.out
  clear HC2
  replace H:=Option.bind_eq_some_iff.mp H
  obtain ⟨t196,A40,H⟩:=H
  (try dsimp only at H)
  have A4:=zA A40
  clear A40
  by_cases c5 : t196 = true
  ·subst c5
   rw [if_pos rfl] at H
   by_cases c6 : a0_1 = 1
   ·rw [if_pos c6] at H
    have c6b0 : (a0_1 == 1) = true:=beq_iff_eq.mpr c6
    have c6b1 : (a0_1 != 1) = false:=bne_eq_false_iff_eq.mpr c6
    clear c6
    (first|rw [c6b0]|(simp only [i64_w,i32_w];rw [c6b0])|skip)
    replace H:=Option.bind_eq_some_iff.mp H
    obtain ⟨t197,A70,H⟩:=H
    (try dsimp only at H)
    have A7:=zA A70
    clear A70
    have H':=zA H
    clear H
    obtain ⟨hcz8_0,hcz8_1,hcz8_2,hcz8_3,hcz8_4,hfz8_0,hfz8_1,hfz8_2,hfz8_3,hfz8_4⟩:=zc5 K195
    go_wp2_with (first|((with_reducible refine gate_callee (f:=58) rfl ?_);refine zg (some 5) Try.func58 #[.int .i64 a0_0] ?_;(with_reducible refine (beaconref06_number.calls a0_0 true _ A4.out).mono ?_);rintro e w' ⟨rfl,⟨nd,rfl⟩⟩;refine ⟨_,rfl,?_⟩)|(go_at_call 59;(with_reducible refine (beaconref06_Far.calls a0_2 t197 _ A7.out).mono ?_);rintro e w' ⟨rfl,⟨nd,rfl⟩⟩))
    go_meet
    case rel => exact ⟨_,(!t197),ze,H',⟨zo⟩,⟨z1 K195.1⟩,⟨zH HB⟩⟩
   ·rw [if_neg c6] at H
    have c6b0 : (a0_1 == 1) = false:=beq_eq_false_iff_ne.mpr c6
    have c6b1 : (a0_1 != 1) = true:=bne_iff_ne.mpr c6
    (first|rw [c6b0]|(simp only [i64_w,i32_w];rw [c6b0])|skip)
    by_cases c9 : a0_1 = 2
    ·rw [if_pos c9] at H
     have c9b0 : (a0_1 == 2) = true:=beq_iff_eq.mpr c9
     have c9b1 : (a0_1 != 2) = false:=bne_eq_false_iff_eq.mpr c9
     clear c9
     replace H:=Option.bind_eq_some_iff.mp H
     obtain ⟨t198,A100,H⟩:=H
     (try dsimp only at H)
     have A10:=zA A100
     clear A100
     have H':=zA H
     clear H
     obtain ⟨hcz11_0,hcz11_1,hcz11_2,hcz11_3,hcz11_4,hfz11_0,hfz11_1,hfz11_2,hfz11_3,hfz11_4⟩:=zc5 K195
     go_wp2_with (first|((with_reducible refine gate_callee (f:=58) rfl ?_);refine zg (some 5) Try.func58 #[.int .i64 a0_0] ?_;(with_reducible refine (beaconref06_number.calls a0_0 true _ A4.out).mono ?_);rintro e w' ⟨rfl,⟨nd,rfl⟩⟩;refine ⟨_,rfl,?_⟩)|(go_at_call 59;(with_reducible refine (beaconref06_Far.calls a0_2 t198 _ A10.out).mono ?_);rintro e w' ⟨rfl,⟨nd,rfl⟩⟩))
     go_meet
     case rel => exact ⟨_,(!t198),ze,H',⟨zo⟩,⟨z1 K195.1⟩,⟨zH HB⟩⟩
    ·rw [if_neg c9] at H
     have c9b0 : (a0_1 == 2) = false:=beq_eq_false_iff_ne.mpr c9
     have c9b1 : (a0_1 != 2) = true:=bne_iff_ne.mpr c9
     have H':=zA H
     clear H
     obtain ⟨hcz12_0,hcz12_1,hcz12_2,hcz12_3,hcz12_4,hfz12_0,hfz12_1,hfz12_2,hfz12_3,hfz12_4⟩:=zc5 K195
     go_wp2_with (first|((with_reducible refine gate_callee (f:=58) rfl ?_);refine zg (some 5) Try.func58 #[.int .i64 a0_0] ?_;(with_reducible refine (beaconref06_number.calls a0_0 true _ A4.out).mono ?_);rintro e w' ⟨rfl,⟨nd,rfl⟩⟩;refine ⟨_,rfl,?_⟩))
     go_meet
     case rel => exact ⟨_,(true),ze,H',⟨zo⟩,⟨z1 K195.1⟩,⟨zH HB⟩⟩
  ·replace c5:=Bool.eq_false_iff.mpr c5
   subst c5
   rw [if_neg (show ¬ (false = true) by decide)] at H
   have H':=zA H
   clear H
   obtain ⟨hcz13_0,hcz13_1,hcz13_2,hcz13_3,hcz13_4,hfz13_0,hfz13_1,hfz13_2,hfz13_3,hfz13_4⟩:=zc5 K195
   go_wp2_with (first|((with_reducible refine gate_callee (f:=58) rfl ?_);refine zg (some 5) Try.func58 #[.int .i64 a0_0] ?_;(with_reducible refine (beaconref06_number.calls a0_0 false _ A4.out).mono ?_);rintro e w' ⟨rfl,⟨nd,rfl⟩⟩;refine ⟨_,rfl,?_⟩))
   go_meet
   case rel => exact ⟨_,(true),ze,H',⟨zo⟩,⟨z1 K195.1⟩,⟨zH HB⟩⟩
 case rest =>
  clear HC2
  obtain ⟨kq,x22_1,rfl,HA,HJ1,K195,HB⟩:=hcut
  cases kq with
  | zero => exact absurd HA.out (by simp [beaconref06_May.j0])
  | succ kj1 =>
   have H:=HA.out
   clear HA
   simp only [beaconref06_May.j0] at H
   by_cases c14 : x22_1 = true
   ·subst c14
    rw [if_pos rfl] at H
    obtain rfl:=Option.some.inj H
    go_wp2
    go_ret
    exact ⟨zE,zH HB⟩
   ·replace c14:=Bool.eq_false_iff.mpr c14
    subst c14
    rw [if_neg (show ¬ (false = true) by decide)] at H
    have HC15:=zA H
    clear H
    go_upto_region 3 with (fail)
    go_cut [30] (fun v30 wc => ∃ (kq : Nat) (x30_14 : Bool),v30 = .bool x30_14 ∧ Aside0 (beaconref06_May.j1 kq x30_14 a0_0 a0_1 a0_2 a0_3 a0_4 = some r) ∧ Aside0 (kq ≤ kj1) ∧ Aside0 (wc.heap[G195]? = some (.cells #[.int .i64 a0_0,.int .i64 a0_1,.float .f64 a0_2,.float .f64 a0_3,.int .i64 a0_4] 61 (0,0))) ∧ Aside0 (Below w.heap.size w wc))
    case first =>
     have H:=HC15.out
     clear HC15
     by_cases c16 : a0_1 = 1
     ·rw [if_pos c16] at H
      have c16b0 : (a0_1 == 1) = true:=beq_iff_eq.mpr c16
      have c16b1 : (a0_1 != 1) = false:=bne_eq_false_iff_eq.mpr c16
      clear c16
      (first|rw [c16b0]|(simp only [i64_w,i32_w];rw [c16b0])|skip)
      have H':=zA H
      clear H
      obtain ⟨hcz17_0,hcz17_1,hcz17_2,hcz17_3,hcz17_4,hfz17_0,hfz17_1,hfz17_2,hfz17_3,hfz17_4⟩:=zc5 K195
      go_wp2
      go_meet
      case rel => exact ⟨_,(true),ze,H',⟨by have:=HJ1.out;first|omega|exact Nat.le_refl _⟩,⟨z1 K195.1⟩,⟨zH HB⟩⟩
     ·rw [if_neg c16] at H
      have c16b0 : (a0_1 == 1) = false:=beq_eq_false_iff_ne.mpr c16
      have c16b1 : (a0_1 != 1) = true:=bne_iff_ne.mpr c16
      (first|rw [c16b0]|(simp only [i64_w,i32_w];rw [c16b0])|skip)
      replace H:=Option.bind_eq_some_iff.mp H
      obtain ⟨t199,A180,H⟩:=H
      (try dsimp only at H)
      have A18:=zA A180
      clear A180
      have H':=zA H
      clear H
      obtain ⟨hcz19_0,hcz19_1,hcz19_2,hcz19_3,hcz19_4,hfz19_0,hfz19_1,hfz19_2,hfz19_3,hfz19_4⟩:=zc5 K195
      go_wp2_with (first|(go_at_call 38;(with_reducible refine (math_IsInf.calls a0_2 1 t199 _ A18.out).mono ?_);rintro e w' ⟨rfl,⟨nd,rfl⟩⟩))
      go_meet
      case rel => exact ⟨_,(t199),ze,H',⟨by have:=HJ1.out;first|omega|exact Nat.le_refl _⟩,⟨z1 K195.1⟩,⟨zH HB⟩⟩
    case rest =>
     clear HC15
     try clear c14
     obtain ⟨kq,x30_14,rfl,HA,HJ14,K195,HB⟩:=hcut
     cases kq with
     | zero => exact absurd HA.out (by simp [beaconref06_May.j1])
     | succ kj14 =>
      have H:=HA.out
      clear HA
      simp only [beaconref06_May.j1] at H
      by_cases c20 : x30_14 = true
      ·subst c20
       rw [if_pos rfl] at H
       replace H:=Option.bind_eq_some_iff.mp H
       obtain ⟨t200,A210,H⟩:=H
       (try dsimp only at H)
       have A21:=zA A210
       clear A210
       by_cases c22 : t200 = true
       ·subst c22
        rw [if_pos rfl] at H
        obtain rfl:=Option.some.inj H
        obtain ⟨hcz23_0,hcz23_1,hcz23_2,hcz23_3,hcz23_4,hfz23_0,hfz23_1,hfz23_2,hfz23_3,hfz23_4⟩:=zc5 K195
        go_wp2_with (first|((with_reducible refine gate_callee (f:=60) rfl ?_);refine zg (some 33) Try.func60 #[.float .f64 a0_3] ?_;(with_reducible refine (beaconref06_zero.calls a0_3 true _ A21.out).mono ?_);rintro e w' ⟨rfl,⟨nd,rfl⟩⟩;refine ⟨_,rfl,?_⟩))
        go_ret
        exact ⟨zE,zH HB⟩
       ·replace c22:=Bool.eq_false_iff.mpr c22
        subst c22
        rw [if_neg (show ¬ (false = true) by decide)] at H
        obtain rfl:=Option.some.inj H
        obtain ⟨hcz24_0,hcz24_1,hcz24_2,hcz24_3,hcz24_4,hfz24_0,hfz24_1,hfz24_2,hfz24_3,hfz24_4⟩:=zc5 K195
        go_wp2_with (first|((with_reducible refine gate_callee (f:=60) rfl ?_);refine zg (some 33) Try.func60 #[.float .f64 a0_3] ?_;(with_reducible refine (beaconref06_zero.calls a0_3 false _ A21.out).mono ?_);rintro e w' ⟨rfl,⟨nd,rfl⟩⟩;refine ⟨_,rfl,?_⟩))
        go_ret
        exact ⟨zE,zH HB⟩
      ·replace c20:=Bool.eq_false_iff.mpr c20
       subst c20
       rw [if_neg (show ¬ (false = true) by decide)] at H
       replace H:=Option.bind_eq_some_iff.mp H
       obtain ⟨t201,A250,H⟩:=H
       (try dsimp only at H)
       have A25:=zA A250
       clear A250
       by_cases c26 : t201 = true
       ·subst c26
        rw [if_pos rfl] at H
        obtain rfl:=Option.some.inj H
        obtain ⟨hcz27_0,hcz27_1,hcz27_2,hcz27_3,hcz27_4,hfz27_0,hfz27_1,hfz27_2,hfz27_3,hfz27_4⟩:=zc5 K195
        go_wp2_with (first|((with_reducible refine gate_callee (f:=38) rfl ?_);refine zg (some 41) Try.func38 #[.float .f64 a0_3,.int .i64 1] ?_;(with_reducible refine (math_IsInf.calls a0_3 1 true _ A25.out).mono ?_);rintro e w' ⟨rfl,⟨nd,rfl⟩⟩;refine ⟨_,rfl,?_⟩))
        go_ret
        exact ⟨zE,zH HB⟩
       ·replace c26:=Bool.eq_false_iff.mpr c26
        subst c26
        rw [if_neg (show ¬ (false = true) by decide)] at H
        replace H:=Option.bind_eq_some_iff.mp H
        obtain ⟨t202,A280,H⟩:=H
        (try dsimp only at H)
        have A28:=zA A280
        clear A280
        by_cases c29 : t202 = true
        ·subst c29
         rw [if_pos rfl] at H
         replace H:=Option.bind_eq_some_iff.mp H
         obtain ⟨t203,A300,H⟩:=H
         (try dsimp only at H)
         have A30:=zA A300
         clear A300
         obtain rfl:=Option.some.inj H
         obtain ⟨hcz31_0,hcz31_1,hcz31_2,hcz31_3,hcz31_4,hfz31_0,hfz31_1,hfz31_2,hfz31_3,hfz31_4⟩:=zc5 K195
         go_wp2_with (first|((with_reducible refine gate_callee (f:=38) rfl ?_);refine zg (some 41) Try.func38 #[.float .f64 a0_3,.int .i64 1] ?_;(with_reducible refine (math_IsInf.calls a0_3 1 false _ A25.out).mono ?_);rintro e w' ⟨rfl,⟨nd,rfl⟩⟩;refine ⟨_,rfl,?_⟩)|((with_reducible refine gate_callee (f:=59) rfl ?_);refine zg (some 47) Try.func59 #[.float .f64 a0_3] ?_;(with_reducible refine (beaconref06_Far.calls a0_3 true _ A28.out).mono ?_);rintro e w' ⟨rfl,⟨nd,rfl⟩⟩;refine ⟨_,rfl,?_⟩)|(go_at_call 58;(with_reducible refine (beaconref06_number.calls a0_4 t203 _ A30.out).mono ?_);rintro e w' ⟨rfl,⟨nd,rfl⟩⟩))
         go_ret
         exact ⟨zE,zH HB⟩
        ·replace c29:=Bool.eq_false_iff.mpr c29
         subst c29
         rw [if_neg (show ¬ (false = true) by decide)] at H
         obtain rfl:=Option.some.inj H
         obtain ⟨hcz32_0,hcz32_1,hcz32_2,hcz32_3,hcz32_4,hfz32_0,hfz32_1,hfz32_2,hfz32_3,hfz32_4⟩:=zc5 K195
         go_wp2_with (first|((with_reducible refine gate_callee (f:=38) rfl ?_);refine zg (some 41) Try.func38 #[.float .f64 a0_3,.int .i64 1] ?_;(with_reducible refine (math_IsInf.calls a0_3 1 false _ A25.out).mono ?_);rintro e w' ⟨rfl,⟨nd,rfl⟩⟩;refine ⟨_,rfl,?_⟩)|((with_reducible refine gate_callee (f:=59) rfl ?_);refine zg (some 47) Try.func59 #[.float .f64 a0_3] ?_;(with_reducible refine (beaconref06_Far.calls a0_3 false _ A28.out).mono ?_);rintro e w' ⟨rfl,⟨nd,rfl⟩⟩;refine ⟨_,rfl,?_⟩))
         go_ret
         exact ⟨zE,zH HB⟩

/-! ### beaconref06_Before: function 50 -/
def beaconref06_Before.f (a0_0 : Int) (a0_1 : Int) (a0_2 : Nat) (a0_3 : Nat) (a0_4 : Int) (a1_0 : Int) (a1_1 : Int) (a1_2 : Nat) (a1_3 : Nat) (a1_4 : Int) : Option (Bool) := if a0_1 < a1_1 then (some true) else (if a0_1 = a1_1 then (some (decide (a0_0 < a1_0))) else (some false))
set_option maxHeartbeats 8000000 in
set_option maxRecDepth 100000 in
theorem beaconref06_Before.calls (a0_0 : Int) (a0_1 : Int) (a0_2 : Nat) (a0_3 : Nat) (a0_4 : Int) (a1_0 : Int) (a1_1 : Int) (a1_2 : Nat) (a1_3 : Nat) (a1_4 : Int) (r : Bool) (w : World) (h : beaconref06_Before.f a0_0 a0_1 a0_2 a0_3 a0_4 a1_0 a1_1 a1_2 a1_3 a1_4 = some r) :
  Calls Try.prog 50 #[.agg #[.int .i64 a0_0,.int .i64 a0_1,.float .f64 a0_2,.float .f64 a0_3,.int .i64 a0_4],.agg #[.int .i64 a1_0,.int .i64 a1_1,.float .f64 a1_2,.float .f64 a1_3,.int .i64 a1_4]] w fun e w' => e = .returned (.bool r) ∧ Below w.heap.size w w':=by
 have hu61:=Try.underlying61
 have HB:=zA (Below.refl w.heap.size w)
 have H : (if a0_1 < a1_1 then (some true) else (if a0_1 = a1_1 then (some (decide (a0_0 < a1_0))) else (some false))) = some r:=h
 clear h
 by_cases c3 : a0_1 < a1_1
 ·rw [if_pos c3] at H
  have c3b0 : decide (a0_1 < a1_1) = true:=decide_eq_true c3
  clear c3
  obtain rfl:=Option.some.inj H
  go_enter Try.func50,Try.ntmps50
  go_wp2_with (first|((with_reducible refine gate_dst (N:=2) rfl ?_);refine zb (N:=2) (cs:=#[.int .i64 a0_0,.int .i64 a0_1,.float .f64 a0_2,.float .f64 a0_3,.int .i64 a0_4]) (t:=61) ?_;intro G204 hg w4 hbox hb;have K204:=zA (hbox);have GW204:=zN HB hg;have GE204:=zN HB hg;replace HB:=zS HB hb;clear hb hbox hg)|((with_reducible refine gate_dst (N:=3) rfl ?_);refine zb (N:=3) (cs:=#[.int .i64 a1_0,.int .i64 a1_1,.float .f64 a1_2,.float .f64 a1_3,.int .i64 a1_4]) (t:=61) ?_;intro G205 hg w5 hbox hb;have K205:=zA (hbox);have GW205:=zN HB hg;have GE205:=zN HB hg;replace HB:=zS HB hb;have NB204_205:=zL K204 hg;have NB205_204:=zG K204 hg;replace K204:=zB K204 hb;clear hb hbox hg;have:=NB204_205.1;have:=NB205_204.1;obtain ⟨hcz7_0,hcz7_1,hcz7_2,hcz7_3,hcz7_4,hfz7_0,hfz7_1,hfz7_2,hfz7_3,hfz7_4⟩:=zc5 K204;obtain ⟨hcz8_0,hcz8_1,hcz8_2,hcz8_3,hcz8_4,hfz8_0,hfz8_1,hfz8_2,hfz8_3,hfz8_4⟩:=zc5 K205))
  go_ret
  exact ⟨zE,zH HB⟩
 ·rw [if_neg c3] at H
  have c3b0 : decide (a0_1 < a1_1) = false:=decide_eq_false c3
  clear c3
  by_cases c9 : a0_1 = a1_1
  ·rw [if_pos c9] at H
   have c9b0 : (a0_1 == a1_1) = true:=beq_iff_eq.mpr c9
   have c9b1 : (a0_1 != a1_1) = false:=bne_eq_false_iff_eq.mpr c9
   clear c9
   obtain rfl:=Option.some.inj H
   go_enter Try.func50,Try.ntmps50
   go_wp2_with (first|((with_reducible refine gate_dst (N:=2) rfl ?_);refine zb (N:=2) (cs:=#[.int .i64 a0_0,.int .i64 a0_1,.float .f64 a0_2,.float .f64 a0_3,.int .i64 a0_4]) (t:=61) ?_;intro G204 hg w10 hbox hb;have K204:=zA (hbox);have GW204:=zN HB hg;have GE204:=zN HB hg;replace HB:=zS HB hb;clear hb hbox hg)|((with_reducible refine gate_dst (N:=3) rfl ?_);refine zb (N:=3) (cs:=#[.int .i64 a1_0,.int .i64 a1_1,.float .f64 a1_2,.float .f64 a1_3,.int .i64 a1_4]) (t:=61) ?_;intro G205 hg w11 hbox hb;have K205:=zA (hbox);have GW205:=zN HB hg;have GE205:=zN HB hg;replace HB:=zS HB hb;have NB204_205:=zL K204 hg;have NB205_204:=zG K204 hg;replace K204:=zB K204 hb;clear hb hbox hg;have:=NB204_205.1;have:=NB205_204.1;obtain ⟨hcz13_0,hcz13_1,hcz13_2,hcz13_3,hcz13_4,hfz13_0,hfz13_1,hfz13_2,hfz13_3,hfz13_4⟩:=zc5 K204;obtain ⟨hcz14_0,hcz14_1,hcz14_2,hcz14_3,hcz14_4,hfz14_0,hfz14_1,hfz14_2,hfz14_3,hfz14_4⟩:=zc5 K205))
   go_ret
   exact ⟨zE,zH HB⟩
  ·rw [if_neg c9] at H
   have c9b0 : (a0_1 == a1_1) = false:=beq_eq_false_iff_ne.mpr c9
   have c9b1 : (a0_1 != a1_1) = true:=bne_iff_ne.mpr c9
   obtain rfl:=Option.some.inj H
   go_enter Try.func50,Try.ntmps50
   go_wp2_with (first|((with_reducible refine gate_dst (N:=2) rfl ?_);refine zb (N:=2) (cs:=#[.int .i64 a0_0,.int .i64 a0_1,.float .f64 a0_2,.float .f64 a0_3,.int .i64 a0_4]) (t:=61) ?_;intro G204 hg w15 hbox hb;have K204:=zA (hbox);have GW204:=zN HB hg;have GE204:=zN HB hg;replace HB:=zS HB hb;clear hb hbox hg)|((with_reducible refine gate_dst (N:=3) rfl ?_);refine zb (N:=3) (cs:=#[.int .i64 a1_0,.int .i64 a1_1,.float .f64 a1_2,.float .f64 a1_3,.int .i64 a1_4]) (t:=61) ?_;intro G205 hg w16 hbox hb;have K205:=zA (hbox);have GW205:=zN HB hg;have GE205:=zN HB hg;replace HB:=zS HB hb;have NB204_205:=zL K204 hg;have NB205_204:=zG K204 hg;replace K204:=zB K204 hb;clear hb hbox hg;have:=NB204_205.1;have:=NB205_204.1;obtain ⟨hcz18_0,hcz18_1,hcz18_2,hcz18_3,hcz18_4,hfz18_0,hfz18_1,hfz18_2,hfz18_3,hfz18_4⟩:=zc5 K204;obtain ⟨hcz19_0,hcz19_1,hcz19_2,hcz19_3,hcz19_4,hfz19_0,hfz19_1,hfz19_2,hfz19_3,hfz19_4⟩:=zc5 K205))
   go_ret
   exact ⟨zE,zH HB⟩

end Go.Proofs.Ytpcgjdllgdkobaa.XD
