/- Go functions of this seat as Lean functions, with proofs that the calls come to them. (Written by xprint.py, a program of this session, over the kit's print.) -/
import Derived.Test.YtajejidnidomgaaXRx0
import Derived.Test.YtajejidnidomgaaXRx2
import Derived.Test.YtajejidnidomgaaXRx4
import Derived.Test.YtajejidnidomgaaXRx5
namespace Go.Proofs.Ytajejidnidomgaa.XR
open Go.RowKit Go.Proofs.YtajejidnidomgaaW.PrintWords Go.Proofs.YtajejidnidomgaaW.PrintLast Go.Proofs.YtajejidnidomgaaW.PrintMore
attribute [local go_sem] max2_int min2_int max_two min_two max_three min_three max_four min_four   -- for this text's walks alone
set_option linter.unusedVariables false
set_option linter.unusedSimpArgs false
open Go.Proofs.YtajejidnidomgaaW.PrintWords renaming blk_drewN → bN, blk_drew → bD, blk_alloc → bA, below_set → bS, blk_frozen → bF, blk_cell → bC, cell_far → cF, blk_far → bZ, blk_below → bB, pw_below_drewN → bwN, below_drew1 → bw1, below_alloc → bwA

/-! ### math_ldexp: function 63 -/
def math_ldexp.f (a0 : Nat) (a1 : Int) : Option (Nat) := if (feq a0 0) = true then (some a0) else ((math_IsInf.f a0 0).bind fun t198 => (if t198 = true then (some a0) else ((math_IsNaN.f a0).bind fun t199 => (if t199 = true then (some a0) else ((math_normalize.f a0).bind fun bt200 => (if (wrap64 ((wrap64 (a1 + bt200.2)) + (wrap64 ((Go.bits .and .i64 (wrap64 ((fbits bt200.1) / 4503599627370496)) 2047) - 1023)))) < (-1075) then ((math_Copysign.f 0 bt200.1).bind fun t202 => (some t202)) else (if (wrap64 ((wrap64 (a1 + bt200.2)) + (wrap64 ((Go.bits .and .i64 (wrap64 ((fbits bt200.1) / 4503599627370496)) 2047) - 1023)))) > 1023 then (if (flt bt200.1 0) = true then ((math_Inf.f (-1)).bind fun t203 => (some t203)) else ((math_Inf.f 1).bind fun t204 => (some t204))) else (if (wrap64 ((wrap64 (a1 + bt200.2)) + (wrap64 ((Go.bits .and .i64 (wrap64 ((fbits bt200.1) / 4503599627370496)) 2047) - 1023)))) < (-1022) then (if (fmulOk 4368491638549381120 (ffrom (Go.bits .or .u64 (Go.bits .andNot .u64 (fbits bt200.1) 9218868437227405312) (IntKind.u64.wrap ((IntKind.u64.wrap (wrap64 ((wrap64 ((wrap64 ((wrap64 (a1 + bt200.2)) + (wrap64 ((Go.bits .and .i64 (wrap64 ((fbits bt200.1) / 4503599627370496)) 2047) - 1023)))) + 53)) + 1023))) * 4503599627370496))))) = true then (some (fmul 4368491638549381120 (ffrom (Go.bits .or .u64 (Go.bits .andNot .u64 (fbits bt200.1) 9218868437227405312) (IntKind.u64.wrap ((IntKind.u64.wrap (wrap64 ((wrap64 ((wrap64 ((wrap64 (a1 + bt200.2)) + (wrap64 ((Go.bits .and .i64 (wrap64 ((fbits bt200.1) / 4503599627370496)) 2047) - 1023)))) + 53)) + 1023))) * 4503599627370496)))))) else (none)) else (if (fmulOk 4607182418800017408 (ffrom (Go.bits .or .u64 (Go.bits .andNot .u64 (fbits bt200.1) 9218868437227405312) (IntKind.u64.wrap ((IntKind.u64.wrap (wrap64 ((wrap64 ((wrap64 (a1 + bt200.2)) + (wrap64 ((Go.bits .and .i64 (wrap64 ((fbits bt200.1) / 4503599627370496)) 2047) - 1023)))) + 1023))) * 4503599627370496))))) = true then (some (fmul 4607182418800017408 (ffrom (Go.bits .or .u64 (Go.bits .andNot .u64 (fbits bt200.1) 9218868437227405312) (IntKind.u64.wrap ((IntKind.u64.wrap (wrap64 ((wrap64 ((wrap64 (a1 + bt200.2)) + (wrap64 ((Go.bits .and .i64 (wrap64 ((fbits bt200.1) / 4503599627370496)) 2047) - 1023)))) + 1023))) * 4503599627370496)))))) else (none))))))))))
set_option maxHeartbeats 2500000 in
set_option maxRecDepth 100000 in
theorem math_ldexp.calls (a0 : Nat) (a1 : Int) (r : Nat) (w : World) (h : math_ldexp.f a0 a1 = some r) :
  Calls Try.prog 63 #[.float .f64 a0,.int .i64 a1] w fun e w' => e = .returned (.float .f64 r) ∧ Drawn0 w w':=by
 have H : (if (feq a0 0) = true then (some a0) else ((math_IsInf.f a0 0).bind fun t198 => (if t198 = true then (some a0) else ((math_IsNaN.f a0).bind fun t199 => (if t199 = true then (some a0) else ((math_normalize.f a0).bind fun bt200 => (if (wrap64 ((wrap64 (a1 + bt200.2)) + (wrap64 ((Go.bits .and .i64 (wrap64 ((fbits bt200.1) / 4503599627370496)) 2047) - 1023)))) < (-1075) then ((math_Copysign.f 0 bt200.1).bind fun t202 => (some t202)) else (if (wrap64 ((wrap64 (a1 + bt200.2)) + (wrap64 ((Go.bits .and .i64 (wrap64 ((fbits bt200.1) / 4503599627370496)) 2047) - 1023)))) > 1023 then (if (flt bt200.1 0) = true then ((math_Inf.f (-1)).bind fun t203 => (some t203)) else ((math_Inf.f 1).bind fun t204 => (some t204))) else (if (wrap64 ((wrap64 (a1 + bt200.2)) + (wrap64 ((Go.bits .and .i64 (wrap64 ((fbits bt200.1) / 4503599627370496)) 2047) - 1023)))) < (-1022) then (if (fmulOk 4368491638549381120 (ffrom (Go.bits .or .u64 (Go.bits .andNot .u64 (fbits bt200.1) 9218868437227405312) (IntKind.u64.wrap ((IntKind.u64.wrap (wrap64 ((wrap64 ((wrap64 ((wrap64 (a1 + bt200.2)) + (wrap64 ((Go.bits .and .i64 (wrap64 ((fbits bt200.1) / 4503599627370496)) 2047) - 1023)))) + 53)) + 1023))) * 4503599627370496))))) = true then (some (fmul 4368491638549381120 (ffrom (Go.bits .or .u64 (Go.bits .andNot .u64 (fbits bt200.1) 9218868437227405312) (IntKind.u64.wrap ((IntKind.u64.wrap (wrap64 ((wrap64 ((wrap64 ((wrap64 (a1 + bt200.2)) + (wrap64 ((Go.bits .and .i64 (wrap64 ((fbits bt200.1) / 4503599627370496)) 2047) - 1023)))) + 53)) + 1023))) * 4503599627370496)))))) else (none)) else (if (fmulOk 4607182418800017408 (ffrom (Go.bits .or .u64 (Go.bits .andNot .u64 (fbits bt200.1) 9218868437227405312) (IntKind.u64.wrap ((IntKind.u64.wrap (wrap64 ((wrap64 ((wrap64 (a1 + bt200.2)) + (wrap64 ((Go.bits .and .i64 (wrap64 ((fbits bt200.1) / 4503599627370496)) 2047) - 1023)))) + 1023))) * 4503599627370496))))) = true then (some (fmul 4607182418800017408 (ffrom (Go.bits .or .u64 (Go.bits .andNot .u64 (fbits bt200.1) 9218868437227405312) (IntKind.u64.wrap ((IntKind.u64.wrap (wrap64 ((wrap64 ((wrap64 (a1 + bt200.2)) + (wrap64 ((Go.bits .and .i64 (wrap64 ((fbits bt200.1) / 4503599627370496)) 2047) - 1023)))) + 1023))) * 4503599627370496)))))) else (none))))))))))) = some r:=h
 clear h
 by_cases c3 : (feq a0 0) = true
 ·rw [if_pos c3] at H
  have c3b0 : (feq a0 0) = true:=c3
  clear c3
  obtain rfl:=Option.some.inj H
  go_enter Try.func63,Try.ntmps63
  go_wp2
  go_ret
  exact ⟨by first|rfl|(simp;done)|(simp [*];done),by repeat (first|exact Drawn0.refl _|apply Drawn0.step)⟩
 ·rw [if_neg c3] at H
  have c3b0 : (feq a0 0) = false:=by simpa using c3
  clear c3
  replace H:=Option.bind_eq_some_iff.mp H
  obtain ⟨t198,A40,H⟩:=H
  replace H : (if t198 = true then (some a0) else ((math_IsNaN.f a0).bind fun t199 => (if t199 = true then (some a0) else ((math_normalize.f a0).bind fun bt200 => (if (wrap64 ((wrap64 (a1 + bt200.2)) + (wrap64 ((Go.bits .and .i64 (wrap64 ((fbits bt200.1) / 4503599627370496)) 2047) - 1023)))) < (-1075) then ((math_Copysign.f 0 bt200.1).bind fun t202 => (some t202)) else (if (wrap64 ((wrap64 (a1 + bt200.2)) + (wrap64 ((Go.bits .and .i64 (wrap64 ((fbits bt200.1) / 4503599627370496)) 2047) - 1023)))) > 1023 then (if (flt bt200.1 0) = true then ((math_Inf.f (-1)).bind fun t203 => (some t203)) else ((math_Inf.f 1).bind fun t204 => (some t204))) else (if (wrap64 ((wrap64 (a1 + bt200.2)) + (wrap64 ((Go.bits .and .i64 (wrap64 ((fbits bt200.1) / 4503599627370496)) 2047) - 1023)))) < (-1022) then (if (fmulOk 4368491638549381120 (ffrom (Go.bits .or .u64 (Go.bits .andNot .u64 (fbits bt200.1) 9218868437227405312) (IntKind.u64.wrap ((IntKind.u64.wrap (wrap64 ((wrap64 ((wrap64 ((wrap64 (a1 + bt200.2)) + (wrap64 ((Go.bits .and .i64 (wrap64 ((fbits bt200.1) / 4503599627370496)) 2047) - 1023)))) + 53)) + 1023))) * 4503599627370496))))) = true then (some (fmul 4368491638549381120 (ffrom (Go.bits .or .u64 (Go.bits .andNot .u64 (fbits bt200.1) 9218868437227405312) (IntKind.u64.wrap ((IntKind.u64.wrap (wrap64 ((wrap64 ((wrap64 ((wrap64 (a1 + bt200.2)) + (wrap64 ((Go.bits .and .i64 (wrap64 ((fbits bt200.1) / 4503599627370496)) 2047) - 1023)))) + 53)) + 1023))) * 4503599627370496)))))) else (none)) else (if (fmulOk 4607182418800017408 (ffrom (Go.bits .or .u64 (Go.bits .andNot .u64 (fbits bt200.1) 9218868437227405312) (IntKind.u64.wrap ((IntKind.u64.wrap (wrap64 ((wrap64 ((wrap64 (a1 + bt200.2)) + (wrap64 ((Go.bits .and .i64 (wrap64 ((fbits bt200.1) / 4503599627370496)) 2047) - 1023)))) + 1023))) * 4503599627370496))))) = true then (some (fmul 4607182418800017408 (ffrom (Go.bits .or .u64 (Go.bits .andNot .u64 (fbits bt200.1) 9218868437227405312) (IntKind.u64.wrap ((IntKind.u64.wrap (wrap64 ((wrap64 ((wrap64 (a1 + bt200.2)) + (wrap64 ((Go.bits .and .i64 (wrap64 ((fbits bt200.1) / 4503599627370496)) 2047) - 1023)))) + 1023))) * 4503599627370496)))))) else (none))))))))) = some r:=H
  have A4:=Aside0.mk A40
  clear A40
  by_cases c5 : t198 = true
  ·subst c5
   have H1 : (some a0) = some r:=by rw [if_pos rfl] at H;exact H
   clear H
   have H:=H1
   clear H1
   obtain rfl:=Option.some.inj H
   go_enter Try.func63,Try.ntmps63
   go_wp2_with (first|((with_reducible refine gate_callee (f:=38) rfl ?_);refine goesL_ (some 14) rfl rfl Try.func38 (by kernel_rfl) rfl #[.float .f64 a0,.int .i64 0] rfl (by (try simp only [List.map_toArray,List.map_cons,List.map_nil]);first|done|rfl|(simp only [List.length_drop,List.length_take];rfl)) ?_;(with_reducible refine (math_IsInf.calls a0 0 true _ A4.out).mono ?_);rintro e w' ⟨rfl,⟨nd,rfl⟩⟩;refine ⟨_,rfl,?_⟩))
   go_ret
   exact ⟨by first|rfl|(simp;done)|(simp [*];done),by repeat (first|exact Drawn0.refl _|apply Drawn0.step)⟩
  ·replace c5:=Bool.eq_false_iff.mpr c5
   subst c5
   have H1 : ((math_IsNaN.f a0).bind fun t199 => (if t199 = true then (some a0) else ((math_normalize.f a0).bind fun bt200 => (if (wrap64 ((wrap64 (a1 + bt200.2)) + (wrap64 ((Go.bits .and .i64 (wrap64 ((fbits bt200.1) / 4503599627370496)) 2047) - 1023)))) < (-1075) then ((math_Copysign.f 0 bt200.1).bind fun t202 => (some t202)) else (if (wrap64 ((wrap64 (a1 + bt200.2)) + (wrap64 ((Go.bits .and .i64 (wrap64 ((fbits bt200.1) / 4503599627370496)) 2047) - 1023)))) > 1023 then (if (flt bt200.1 0) = true then ((math_Inf.f (-1)).bind fun t203 => (some t203)) else ((math_Inf.f 1).bind fun t204 => (some t204))) else (if (wrap64 ((wrap64 (a1 + bt200.2)) + (wrap64 ((Go.bits .and .i64 (wrap64 ((fbits bt200.1) / 4503599627370496)) 2047) - 1023)))) < (-1022) then (if (fmulOk 4368491638549381120 (ffrom (Go.bits .or .u64 (Go.bits .andNot .u64 (fbits bt200.1) 9218868437227405312) (IntKind.u64.wrap ((IntKind.u64.wrap (wrap64 ((wrap64 ((wrap64 ((wrap64 (a1 + bt200.2)) + (wrap64 ((Go.bits .and .i64 (wrap64 ((fbits bt200.1) / 4503599627370496)) 2047) - 1023)))) + 53)) + 1023))) * 4503599627370496))))) = true then (some (fmul 4368491638549381120 (ffrom (Go.bits .or .u64 (Go.bits .andNot .u64 (fbits bt200.1) 9218868437227405312) (IntKind.u64.wrap ((IntKind.u64.wrap (wrap64 ((wrap64 ((wrap64 ((wrap64 (a1 + bt200.2)) + (wrap64 ((Go.bits .and .i64 (wrap64 ((fbits bt200.1) / 4503599627370496)) 2047) - 1023)))) + 53)) + 1023))) * 4503599627370496)))))) else (none)) else (if (fmulOk 4607182418800017408 (ffrom (Go.bits .or .u64 (Go.bits .andNot .u64 (fbits bt200.1) 9218868437227405312) (IntKind.u64.wrap ((IntKind.u64.wrap (wrap64 ((wrap64 ((wrap64 (a1 + bt200.2)) + (wrap64 ((Go.bits .and .i64 (wrap64 ((fbits bt200.1) / 4503599627370496)) 2047) - 1023)))) + 1023))) * 4503599627370496))))) = true then (some (fmul 4607182418800017408 (ffrom (Go.bits .or .u64 (Go.bits .andNot .u64 (fbits bt200.1) 9218868437227405312) (IntKind.u64.wrap ((IntKind.u64.wrap (wrap64 ((wrap64 ((wrap64 (a1 + bt200.2)) + (wrap64 ((Go.bits .and .i64 (wrap64 ((fbits bt200.1) / 4503599627370496)) 2047) - 1023)))) + 1023))) * 4503599627370496)))))) else (none)))))))) = some r:=by rw [if_neg (show ¬ (false = true) by decide)] at H;exact H
   clear H
   have H:=H1
   clear H1
   replace H:=Option.bind_eq_some_iff.mp H
   obtain ⟨t199,A60,H⟩:=H
   replace H : (if t199 = true then (some a0) else ((math_normalize.f a0).bind fun bt200 => (if (wrap64 ((wrap64 (a1 + bt200.2)) + (wrap64 ((Go.bits .and .i64 (wrap64 ((fbits bt200.1) / 4503599627370496)) 2047) - 1023)))) < (-1075) then ((math_Copysign.f 0 bt200.1).bind fun t202 => (some t202)) else (if (wrap64 ((wrap64 (a1 + bt200.2)) + (wrap64 ((Go.bits .and .i64 (wrap64 ((fbits bt200.1) / 4503599627370496)) 2047) - 1023)))) > 1023 then (if (flt bt200.1 0) = true then ((math_Inf.f (-1)).bind fun t203 => (some t203)) else ((math_Inf.f 1).bind fun t204 => (some t204))) else (if (wrap64 ((wrap64 (a1 + bt200.2)) + (wrap64 ((Go.bits .and .i64 (wrap64 ((fbits bt200.1) / 4503599627370496)) 2047) - 1023)))) < (-1022) then (if (fmulOk 4368491638549381120 (ffrom (Go.bits .or .u64 (Go.bits .andNot .u64 (fbits bt200.1) 9218868437227405312) (IntKind.u64.wrap ((IntKind.u64.wrap (wrap64 ((wrap64 ((wrap64 ((wrap64 (a1 + bt200.2)) + (wrap64 ((Go.bits .and .i64 (wrap64 ((fbits bt200.1) / 4503599627370496)) 2047) - 1023)))) + 53)) + 1023))) * 4503599627370496))))) = true then (some (fmul 4368491638549381120 (ffrom (Go.bits .or .u64 (Go.bits .andNot .u64 (fbits bt200.1) 9218868437227405312) (IntKind.u64.wrap ((IntKind.u64.wrap (wrap64 ((wrap64 ((wrap64 ((wrap64 (a1 + bt200.2)) + (wrap64 ((Go.bits .and .i64 (wrap64 ((fbits bt200.1) / 4503599627370496)) 2047) - 1023)))) + 53)) + 1023))) * 4503599627370496)))))) else (none)) else (if (fmulOk 4607182418800017408 (ffrom (Go.bits .or .u64 (Go.bits .andNot .u64 (fbits bt200.1) 9218868437227405312) (IntKind.u64.wrap ((IntKind.u64.wrap (wrap64 ((wrap64 ((wrap64 (a1 + bt200.2)) + (wrap64 ((Go.bits .and .i64 (wrap64 ((fbits bt200.1) / 4503599627370496)) 2047) - 1023)))) + 1023))) * 4503599627370496))))) = true then (some (fmul 4607182418800017408 (ffrom (Go.bits .or .u64 (Go.bits .andNot .u64 (fbits bt200.1) 9218868437227405312) (IntKind.u64.wrap ((IntKind.u64.wrap (wrap64 ((wrap64 ((wrap64 (a1 + bt200.2)) + (wrap64 ((Go.bits .and .i64 (wrap64 ((fbits bt200.1) / 4503599627370496)) 2047) - 1023)))) + 1023))) * 4503599627370496)))))) else (none))))))) = some r:=H
   have A6:=Aside0.mk A60
   clear A60
   by_cases c7 : t199 = true
   ·subst c7
    have H1 : (some a0) = some r:=by rw [if_pos rfl] at H;exact H
    clear H
    have H:=H1
    clear H1
    obtain rfl:=Option.some.inj H
    go_enter Try.func63,Try.ntmps63
    go_wp2_with (first|((with_reducible refine gate_callee (f:=38) rfl ?_);refine goesL_ (some 14) rfl rfl Try.func38 (by kernel_rfl) rfl #[.float .f64 a0,.int .i64 0] rfl (by (try simp only [List.map_toArray,List.map_cons,List.map_nil]);first|done|rfl|(simp only [List.length_drop,List.length_take];rfl)) ?_;(with_reducible refine (math_IsInf.calls a0 0 false _ A4.out).mono ?_);rintro e w' ⟨rfl,⟨nd,rfl⟩⟩;refine ⟨_,rfl,?_⟩)|(go_at_call 37;(with_reducible refine (math_IsNaN.calls a0 true _ A6.out).mono ?_);rintro e w' ⟨rfl,⟨nd,rfl⟩⟩))
    go_ret
    exact ⟨by first|rfl|(simp;done)|(simp [*];done),by repeat (first|exact Drawn0.refl _|apply Drawn0.step)⟩
   ·replace c7:=Bool.eq_false_iff.mpr c7
    subst c7
    have H1 : ((math_normalize.f a0).bind fun bt200 => (if (wrap64 ((wrap64 (a1 + bt200.2)) + (wrap64 ((Go.bits .and .i64 (wrap64 ((fbits bt200.1) / 4503599627370496)) 2047) - 1023)))) < (-1075) then ((math_Copysign.f 0 bt200.1).bind fun t202 => (some t202)) else (if (wrap64 ((wrap64 (a1 + bt200.2)) + (wrap64 ((Go.bits .and .i64 (wrap64 ((fbits bt200.1) / 4503599627370496)) 2047) - 1023)))) > 1023 then (if (flt bt200.1 0) = true then ((math_Inf.f (-1)).bind fun t203 => (some t203)) else ((math_Inf.f 1).bind fun t204 => (some t204))) else (if (wrap64 ((wrap64 (a1 + bt200.2)) + (wrap64 ((Go.bits .and .i64 (wrap64 ((fbits bt200.1) / 4503599627370496)) 2047) - 1023)))) < (-1022) then (if (fmulOk 4368491638549381120 (ffrom (Go.bits .or .u64 (Go.bits .andNot .u64 (fbits bt200.1) 9218868437227405312) (IntKind.u64.wrap ((IntKind.u64.wrap (wrap64 ((wrap64 ((wrap64 ((wrap64 (a1 + bt200.2)) + (wrap64 ((Go.bits .and .i64 (wrap64 ((fbits bt200.1) / 4503599627370496)) 2047) - 1023)))) + 53)) + 1023))) * 4503599627370496))))) = true then (some (fmul 4368491638549381120 (ffrom (Go.bits .or .u64 (Go.bits .andNot .u64 (fbits bt200.1) 9218868437227405312) (IntKind.u64.wrap ((IntKind.u64.wrap (wrap64 ((wrap64 ((wrap64 ((wrap64 (a1 + bt200.2)) + (wrap64 ((Go.bits .and .i64 (wrap64 ((fbits bt200.1) / 4503599627370496)) 2047) - 1023)))) + 53)) + 1023))) * 4503599627370496)))))) else (none)) else (if (fmulOk 4607182418800017408 (ffrom (Go.bits .or .u64 (Go.bits .andNot .u64 (fbits bt200.1) 9218868437227405312) (IntKind.u64.wrap ((IntKind.u64.wrap (wrap64 ((wrap64 ((wrap64 (a1 + bt200.2)) + (wrap64 ((Go.bits .and .i64 (wrap64 ((fbits bt200.1) / 4503599627370496)) 2047) - 1023)))) + 1023))) * 4503599627370496))))) = true then (some (fmul 4607182418800017408 (ffrom (Go.bits .or .u64 (Go.bits .andNot .u64 (fbits bt200.1) 9218868437227405312) (IntKind.u64.wrap ((IntKind.u64.wrap (wrap64 ((wrap64 ((wrap64 (a1 + bt200.2)) + (wrap64 ((Go.bits .and .i64 (wrap64 ((fbits bt200.1) / 4503599627370496)) 2047) - 1023)))) + 1023))) * 4503599627370496)))))) else (none)))))) = some r:=by rw [if_neg (show ¬ (false = true) by decide)] at H;exact H
    clear H
    have H:=H1
    clear H1
    replace H:=Option.bind_eq_some_iff.mp H
    obtain ⟨⟨t200,t201⟩,A80,H⟩:=H
    replace H : (if (wrap64 ((wrap64 (a1 + t201)) + (wrap64 ((Go.bits .and .i64 (wrap64 ((fbits t200) / 4503599627370496)) 2047) - 1023)))) < (-1075) then ((math_Copysign.f 0 t200).bind fun t202 => (some t202)) else (if (wrap64 ((wrap64 (a1 + t201)) + (wrap64 ((Go.bits .and .i64 (wrap64 ((fbits t200) / 4503599627370496)) 2047) - 1023)))) > 1023 then (if (flt t200 0) = true then ((math_Inf.f (-1)).bind fun t203 => (some t203)) else ((math_Inf.f 1).bind fun t204 => (some t204))) else (if (wrap64 ((wrap64 (a1 + t201)) + (wrap64 ((Go.bits .and .i64 (wrap64 ((fbits t200) / 4503599627370496)) 2047) - 1023)))) < (-1022) then (if (fmulOk 4368491638549381120 (ffrom (Go.bits .or .u64 (Go.bits .andNot .u64 (fbits t200) 9218868437227405312) (IntKind.u64.wrap ((IntKind.u64.wrap (wrap64 ((wrap64 ((wrap64 ((wrap64 (a1 + t201)) + (wrap64 ((Go.bits .and .i64 (wrap64 ((fbits t200) / 4503599627370496)) 2047) - 1023)))) + 53)) + 1023))) * 4503599627370496))))) = true then (some (fmul 4368491638549381120 (ffrom (Go.bits .or .u64 (Go.bits .andNot .u64 (fbits t200) 9218868437227405312) (IntKind.u64.wrap ((IntKind.u64.wrap (wrap64 ((wrap64 ((wrap64 ((wrap64 (a1 + t201)) + (wrap64 ((Go.bits .and .i64 (wrap64 ((fbits t200) / 4503599627370496)) 2047) - 1023)))) + 53)) + 1023))) * 4503599627370496)))))) else (none)) else (if (fmulOk 4607182418800017408 (ffrom (Go.bits .or .u64 (Go.bits .andNot .u64 (fbits t200) 9218868437227405312) (IntKind.u64.wrap ((IntKind.u64.wrap (wrap64 ((wrap64 ((wrap64 (a1 + t201)) + (wrap64 ((Go.bits .and .i64 (wrap64 ((fbits t200) / 4503599627370496)) 2047) - 1023)))) + 1023))) * 4503599627370496))))) = true then (some (fmul 4607182418800017408 (ffrom (Go.bits .or .u64 (Go.bits .andNot .u64 (fbits t200) 9218868437227405312) (IntKind.u64.wrap ((IntKind.u64.wrap (wrap64 ((wrap64 ((wrap64 (a1 + t201)) + (wrap64 ((Go.bits .and .i64 (wrap64 ((fbits t200) / 4503599627370496)) 2047) - 1023)))) + 1023))) * 4503599627370496)))))) else (none))))) = some r:=H
    have A8:=Aside0.mk A80
    clear A80
    by_cases c9 : (wrap64 ((wrap64 (a1 + t201)) + (wrap64 ((Go.bits .and .i64 (wrap64 ((fbits t200) / 4503599627370496)) 2047) - 1023)))) < (-1075)
    ·rw [if_pos c9] at H
     have c9b0 : decide ((wrap64 ((wrap64 (a1 + t201)) + (wrap64 ((Go.bits .and .i64 (wrap64 ((fbits t200) / 4503599627370496)) 2047) - 1023)))) < (-1075)) = true:=decide_eq_true c9
     clear c9
     replace H:=Option.bind_eq_some_iff.mp H
     obtain ⟨t202,A100,H⟩:=H
     replace H : (some t202) = some r:=H
     have A10:=Aside0.mk A100
     clear A100
     obtain rfl:=Option.some.inj H
     go_enter Try.func63,Try.ntmps63
     go_wp2_with (first|((with_reducible refine gate_callee (f:=38) rfl ?_);refine goesL_ (some 14) rfl rfl Try.func38 (by kernel_rfl) rfl #[.float .f64 a0,.int .i64 0] rfl (by (try simp only [List.map_toArray,List.map_cons,List.map_nil]);first|done|rfl|(simp only [List.length_drop,List.length_take];rfl)) ?_;(with_reducible refine (math_IsInf.calls a0 0 false _ A4.out).mono ?_);rintro e w' ⟨rfl,⟨nd,rfl⟩⟩;refine ⟨_,rfl,?_⟩)|(go_at_call 37;(with_reducible refine (math_IsNaN.calls a0 false _ A6.out).mono ?_);rintro e w' ⟨rfl,⟨nd,rfl⟩⟩)|((with_reducible refine gate_callee (f:=64) rfl ?_);refine goesL_ (some 22) rfl rfl Try.func64 (by kernel_rfl) rfl #[.float .f64 a0] rfl (by (try simp only [List.map_toArray,List.map_cons,List.map_nil]);first|done|rfl|(simp only [List.length_drop,List.length_take];rfl)) ?_;(with_reducible refine (math_normalize.calls a0 t200 t201 _ A8.out).mono ?_);rintro e w' ⟨rfl,⟨nd,rfl⟩⟩;refine ⟨_,rfl,?_⟩)|((with_reducible refine gate_callee (f:=59) rfl ?_);refine goesL_ (some 40) rfl rfl Try.func59 (by kernel_rfl) rfl #[.float .f64 0,.float .f64 t200] rfl (by (try simp only [List.map_toArray,List.map_cons,List.map_nil]);first|done|rfl|(simp only [List.length_drop,List.length_take];rfl)) ?_;(with_reducible refine (math_Copysign.calls 0 t200 t202 _ A10.out).mono ?_);rintro e w' ⟨rfl,⟨nd,rfl⟩⟩;refine ⟨_,rfl,?_⟩))
     go_ret
     exact ⟨by first|rfl|(simp;done)|(simp [*];done),by repeat (first|exact Drawn0.refl _|apply Drawn0.step)⟩
    ·rw [if_neg c9] at H
     have c9b0 : decide ((wrap64 ((wrap64 (a1 + t201)) + (wrap64 ((Go.bits .and .i64 (wrap64 ((fbits t200) / 4503599627370496)) 2047) - 1023)))) < (-1075)) = false:=decide_eq_false c9
     clear c9
     by_cases c11 : (wrap64 ((wrap64 (a1 + t201)) + (wrap64 ((Go.bits .and .i64 (wrap64 ((fbits t200) / 4503599627370496)) 2047) - 1023)))) > 1023
     ·rw [if_pos c11] at H
      have c11b0 : decide (1023 < (wrap64 ((wrap64 (a1 + t201)) + (wrap64 ((Go.bits .and .i64 (wrap64 ((fbits t200) / 4503599627370496)) 2047) - 1023))))) = true:=decide_eq_true c11
      clear c11
      by_cases c12 : (flt t200 0) = true
      ·rw [if_pos c12] at H
       have c12b0 : (flt t200 0) = true:=c12
       clear c12
       replace H:=Option.bind_eq_some_iff.mp H
       obtain ⟨t203,A130,H⟩:=H
       replace H : (some t203) = some r:=H
       have A13:=Aside0.mk A130
       clear A130
       obtain rfl:=Option.some.inj H
       go_enter Try.func63,Try.ntmps63
       go_wp2_with (first|((with_reducible refine gate_callee (f:=38) rfl ?_);refine goesL_ (some 14) rfl rfl Try.func38 (by kernel_rfl) rfl #[.float .f64 a0,.int .i64 0] rfl (by (try simp only [List.map_toArray,List.map_cons,List.map_nil]);first|done|rfl|(simp only [List.length_drop,List.length_take];rfl)) ?_;(with_reducible refine (math_IsInf.calls a0 0 false _ A4.out).mono ?_);rintro e w' ⟨rfl,⟨nd,rfl⟩⟩;refine ⟨_,rfl,?_⟩)|(go_at_call 37;(with_reducible refine (math_IsNaN.calls a0 false _ A6.out).mono ?_);rintro e w' ⟨rfl,⟨nd,rfl⟩⟩)|((with_reducible refine gate_callee (f:=64) rfl ?_);refine goesL_ (some 22) rfl rfl Try.func64 (by kernel_rfl) rfl #[.float .f64 a0] rfl (by (try simp only [List.map_toArray,List.map_cons,List.map_nil]);first|done|rfl|(simp only [List.length_drop,List.length_take];rfl)) ?_;(with_reducible refine (math_normalize.calls a0 t200 t201 _ A8.out).mono ?_);rintro e w' ⟨rfl,⟨nd,rfl⟩⟩;refine ⟨_,rfl,?_⟩)|((with_reducible refine gate_callee (f:=65) rfl ?_);refine goesL_ (some 45) rfl rfl Try.func65 (by kernel_rfl) rfl #[.int .i64 (-1)] rfl (by (try simp only [List.map_toArray,List.map_cons,List.map_nil]);first|done|rfl|(simp only [List.length_drop,List.length_take];rfl)) ?_;(with_reducible refine (math_Inf.calls (-1) t203 _ A13.out).mono ?_);rintro e w' ⟨rfl,⟨nd,rfl⟩⟩;refine ⟨_,rfl,?_⟩))
       go_ret
       exact ⟨by first|rfl|(simp;done)|(simp [*];done),by repeat (first|exact Drawn0.refl _|apply Drawn0.step)⟩
      ·rw [if_neg c12] at H
       have c12b0 : (flt t200 0) = false:=by simpa using c12
       clear c12
       replace H:=Option.bind_eq_some_iff.mp H
       obtain ⟨t204,A140,H⟩:=H
       replace H : (some t204) = some r:=H
       have A14:=Aside0.mk A140
       clear A140
       obtain rfl:=Option.some.inj H
       go_enter Try.func63,Try.ntmps63
       go_wp2_with (first|((with_reducible refine gate_callee (f:=38) rfl ?_);refine goesL_ (some 14) rfl rfl Try.func38 (by kernel_rfl) rfl #[.float .f64 a0,.int .i64 0] rfl (by (try simp only [List.map_toArray,List.map_cons,List.map_nil]);first|done|rfl|(simp only [List.length_drop,List.length_take];rfl)) ?_;(with_reducible refine (math_IsInf.calls a0 0 false _ A4.out).mono ?_);rintro e w' ⟨rfl,⟨nd,rfl⟩⟩;refine ⟨_,rfl,?_⟩)|(go_at_call 37;(with_reducible refine (math_IsNaN.calls a0 false _ A6.out).mono ?_);rintro e w' ⟨rfl,⟨nd,rfl⟩⟩)|((with_reducible refine gate_callee (f:=64) rfl ?_);refine goesL_ (some 22) rfl rfl Try.func64 (by kernel_rfl) rfl #[.float .f64 a0] rfl (by (try simp only [List.map_toArray,List.map_cons,List.map_nil]);first|done|rfl|(simp only [List.length_drop,List.length_take];rfl)) ?_;(with_reducible refine (math_normalize.calls a0 t200 t201 _ A8.out).mono ?_);rintro e w' ⟨rfl,⟨nd,rfl⟩⟩;refine ⟨_,rfl,?_⟩)|((with_reducible refine gate_callee (f:=65) rfl ?_);refine goesL_ (some 46) rfl rfl Try.func65 (by kernel_rfl) rfl #[.int .i64 1] rfl (by (try simp only [List.map_toArray,List.map_cons,List.map_nil]);first|done|rfl|(simp only [List.length_drop,List.length_take];rfl)) ?_;(with_reducible refine (math_Inf.calls 1 t204 _ A14.out).mono ?_);rintro e w' ⟨rfl,⟨nd,rfl⟩⟩;refine ⟨_,rfl,?_⟩))
       go_ret
       exact ⟨by first|rfl|(simp;done)|(simp [*];done),by repeat (first|exact Drawn0.refl _|apply Drawn0.step)⟩
     ·rw [if_neg c11] at H
      have c11b0 : decide (1023 < (wrap64 ((wrap64 (a1 + t201)) + (wrap64 ((Go.bits .and .i64 (wrap64 ((fbits t200) / 4503599627370496)) 2047) - 1023))))) = false:=decide_eq_false c11
      clear c11
      by_cases c15 : (wrap64 ((wrap64 (a1 + t201)) + (wrap64 ((Go.bits .and .i64 (wrap64 ((fbits t200) / 4503599627370496)) 2047) - 1023)))) < (-1022)
      ·rw [if_pos c15] at H
       have c15b0 : decide ((wrap64 ((wrap64 (a1 + t201)) + (wrap64 ((Go.bits .and .i64 (wrap64 ((fbits t200) / 4503599627370496)) 2047) - 1023)))) < (-1022)) = true:=decide_eq_true c15
       clear c15
       by_cases c16 : (fmulOk 4368491638549381120 (ffrom (Go.bits .or .u64 (Go.bits .andNot .u64 (fbits t200) 9218868437227405312) (IntKind.u64.wrap ((IntKind.u64.wrap (wrap64 ((wrap64 ((wrap64 ((wrap64 (a1 + t201)) + (wrap64 ((Go.bits .and .i64 (wrap64 ((fbits t200) / 4503599627370496)) 2047) - 1023)))) + 53)) + 1023))) * 4503599627370496))))) = true
       ·rw [if_pos c16] at H
        have c16b0:=eq_true c16
        have c16b1 : decide ((fmulOk 4368491638549381120 (ffrom (Go.bits .or .u64 (Go.bits .andNot .u64 (fbits t200) 9218868437227405312) (IntKind.u64.wrap ((IntKind.u64.wrap (wrap64 ((wrap64 ((wrap64 ((wrap64 (a1 + t201)) + (wrap64 ((Go.bits .and .i64 (wrap64 ((fbits t200) / 4503599627370496)) 2047) - 1023)))) + 53)) + 1023))) * 4503599627370496))))) = true) = true:=decide_eq_true c16
        obtain rfl:=Option.some.inj H
        go_enter Try.func63,Try.ntmps63
        go_wp2_with (first|((with_reducible refine gate_callee (f:=38) rfl ?_);refine goesL_ (some 14) rfl rfl Try.func38 (by kernel_rfl) rfl #[.float .f64 a0,.int .i64 0] rfl (by (try simp only [List.map_toArray,List.map_cons,List.map_nil]);first|done|rfl|(simp only [List.length_drop,List.length_take];rfl)) ?_;(with_reducible refine (math_IsInf.calls a0 0 false _ A4.out).mono ?_);rintro e w' ⟨rfl,⟨nd,rfl⟩⟩;refine ⟨_,rfl,?_⟩)|(go_at_call 37;(with_reducible refine (math_IsNaN.calls a0 false _ A6.out).mono ?_);rintro e w' ⟨rfl,⟨nd,rfl⟩⟩)|((with_reducible refine gate_callee (f:=64) rfl ?_);refine goesL_ (some 22) rfl rfl Try.func64 (by kernel_rfl) rfl #[.float .f64 a0] rfl (by (try simp only [List.map_toArray,List.map_cons,List.map_nil]);first|done|rfl|(simp only [List.length_drop,List.length_take];rfl)) ?_;(with_reducible refine (math_normalize.calls a0 t200 t201 _ A8.out).mono ?_);rintro e w' ⟨rfl,⟨nd,rfl⟩⟩;refine ⟨_,rfl,?_⟩))
        go_ret
        exact ⟨by first|rfl|(simp;done)|(simp [*];done),by repeat (first|exact Drawn0.refl _|apply Drawn0.step)⟩
       ·rw [if_neg c16] at H
        exact absurd H (by simp)
      ·rw [if_neg c15] at H
       have c15b0 : decide ((wrap64 ((wrap64 (a1 + t201)) + (wrap64 ((Go.bits .and .i64 (wrap64 ((fbits t200) / 4503599627370496)) 2047) - 1023)))) < (-1022)) = false:=decide_eq_false c15
       clear c15
       by_cases c17 : (fmulOk 4607182418800017408 (ffrom (Go.bits .or .u64 (Go.bits .andNot .u64 (fbits t200) 9218868437227405312) (IntKind.u64.wrap ((IntKind.u64.wrap (wrap64 ((wrap64 ((wrap64 (a1 + t201)) + (wrap64 ((Go.bits .and .i64 (wrap64 ((fbits t200) / 4503599627370496)) 2047) - 1023)))) + 1023))) * 4503599627370496))))) = true
       ·rw [if_pos c17] at H
        have c17b0:=eq_true c17
        have c17b1 : decide ((fmulOk 4607182418800017408 (ffrom (Go.bits .or .u64 (Go.bits .andNot .u64 (fbits t200) 9218868437227405312) (IntKind.u64.wrap ((IntKind.u64.wrap (wrap64 ((wrap64 ((wrap64 (a1 + t201)) + (wrap64 ((Go.bits .and .i64 (wrap64 ((fbits t200) / 4503599627370496)) 2047) - 1023)))) + 1023))) * 4503599627370496))))) = true) = true:=decide_eq_true c17
        obtain rfl:=Option.some.inj H
        go_enter Try.func63,Try.ntmps63
        go_wp2_with (first|((with_reducible refine gate_callee (f:=38) rfl ?_);refine goesL_ (some 14) rfl rfl Try.func38 (by kernel_rfl) rfl #[.float .f64 a0,.int .i64 0] rfl (by (try simp only [List.map_toArray,List.map_cons,List.map_nil]);first|done|rfl|(simp only [List.length_drop,List.length_take];rfl)) ?_;(with_reducible refine (math_IsInf.calls a0 0 false _ A4.out).mono ?_);rintro e w' ⟨rfl,⟨nd,rfl⟩⟩;refine ⟨_,rfl,?_⟩)|(go_at_call 37;(with_reducible refine (math_IsNaN.calls a0 false _ A6.out).mono ?_);rintro e w' ⟨rfl,⟨nd,rfl⟩⟩)|((with_reducible refine gate_callee (f:=64) rfl ?_);refine goesL_ (some 22) rfl rfl Try.func64 (by kernel_rfl) rfl #[.float .f64 a0] rfl (by (try simp only [List.map_toArray,List.map_cons,List.map_nil]);first|done|rfl|(simp only [List.length_drop,List.length_take];rfl)) ?_;(with_reducible refine (math_normalize.calls a0 t200 t201 _ A8.out).mono ?_);rintro e w' ⟨rfl,⟨nd,rfl⟩⟩;refine ⟨_,rfl,?_⟩))
        go_ret
        exact ⟨by first|rfl|(simp;done)|(simp [*];done),by repeat (first|exact Drawn0.refl _|apply Drawn0.step)⟩
       ·rw [if_neg c17] at H
        exact absurd H (by simp)

/-! ### math_Ldexp: function 58 -/
def math_Ldexp.f (a0 : Nat) (a1 : Int) : Option (Nat) := (math_ldexp.f a0 a1).bind fun t205 => (some t205)
set_option maxHeartbeats 2500000 in
set_option maxRecDepth 100000 in
theorem math_Ldexp.calls (a0 : Nat) (a1 : Int) (r : Nat) (w : World) (h : math_Ldexp.f a0 a1 = some r) :
  Calls Try.prog 58 #[.float .f64 a0,.int .i64 a1] w fun e w' => e = .returned (.float .f64 r) ∧ Drawn0 w w':=by
 have H : ((math_ldexp.f a0 a1).bind fun t205 => (some t205)) = some r:=h
 clear h
 replace H:=Option.bind_eq_some_iff.mp H
 obtain ⟨t205,A30,H⟩:=H
 replace H : (some t205) = some r:=H
 have A3:=Aside0.mk A30
 clear A30
 obtain rfl:=Option.some.inj H
 go_enter Try.func58,Try.ntmps58
 go_wp2_with (first|((with_reducible refine gate_callee (f:=63) rfl ?_);refine goesL_ (some 10) rfl rfl Try.func63 (by kernel_rfl) rfl #[.float .f64 a0,.int .i64 a1] rfl (by (try simp only [List.map_toArray,List.map_cons,List.map_nil]);first|done|rfl|(simp only [List.length_drop,List.length_take];rfl)) ?_;(with_reducible refine (math_ldexp.calls a0 a1 t205 _ A3.out).mono ?_);rintro e w' ⟨rfl,⟨nd,rfl⟩⟩;refine ⟨_,rfl,?_⟩))
 go_ret
 exact ⟨by first|rfl|(simp;done)|(simp [*];done),by repeat (first|exact Drawn0.refl _|apply Drawn0.step)⟩

/-! ### math_mod: function 52 -/
mutual
def math_mod.j0 : Nat → Nat → Nat → Bool → Option (Nat)
 | 0, _, _, _ => none
 | k + 1, x0, x1, x23 => if x23 = true then ((math_NaN.f).bind fun t209 => (some t209)) else ((math_Abs.f x1).bind fun t210 => ((math_Frexp.f k t210).bind fun bt211 => (if (flt x0 0) = true then (math_mod.j1 k x0 t210 bt211.1 bt211.2 (fneg x0)) else (math_mod.j1 k x0 t210 bt211.1 bt211.2 x0))))
def math_mod.j1 : Nat → Nat → Nat → Nat → Int → Nat → Option (Nat)
 | 0, _, _, _, _, _ => none
 | k + 1, x0, x1, x5, x6, x7 => math_mod.l0 k x0 x1 x5 x6 x7
def math_mod.l0 : Nat → Nat → Nat → Nat → Int → Nat → Option (Nat)
 | 0, _, _, _, _, _ => none
 | k + 1, x0, x1, x5, x6, x7 => if (fle x1 x7) = true then ((math_Frexp.f k x7).bind fun bt213 => (if (flt bt213.1 x5) = true then ((math_Ldexp.f x1 (wrap64 ((wrap64 (bt213.2 - 1)) - x6))).bind fun t215 => (if (fsubOk x7 t215) = true then (math_mod.l0 k x0 x1 x5 x6 (fsub x7 t215)) else (none))) else ((math_Ldexp.f x1 (wrap64 (bt213.2 - x6))).bind fun t216 => (if (fsubOk x7 t216) = true then (math_mod.l0 k x0 x1 x5 x6 (fsub x7 t216)) else (none))))) else (if (flt x0 0) = true then (some (fneg x7)) else (some x7))
end
def math_mod.f (k : Nat) (a0 : Nat) (a1 : Nat) : Option (Nat) := if (feq a1 0) = true then (math_mod.j0 k a0 a1 true) else ((math_IsInf.f a0 0).bind fun t206 => (if t206 = true then (math_mod.j0 k a0 a1 true) else ((math_IsNaN.f a0).bind fun t207 => (if t207 = true then (math_mod.j0 k a0 a1 true) else ((math_IsNaN.f a1).bind fun t208 => (math_mod.j0 k a0 a1 t208))))))
theorem math_mod.mono_l : ∀ k, (∀ y0 y1 y2, LeO (math_mod.j0 k y0 y1 y2) (math_mod.j0 (k + 1) y0 y1 y2)) ∧ (∀ y0 y1 y2 y3 y4, LeO (math_mod.j1 k y0 y1 y2 y3 y4) (math_mod.j1 (k + 1) y0 y1 y2 y3 y4)) ∧ (∀ y0 y1 y2 y3 y4, LeO (math_mod.l0 k y0 y1 y2 y3 y4) (math_mod.l0 (k + 1) y0 y1 y2 y3 y4))
 | 0 => ⟨fun _ _ _ r h => by simp [math_mod.j0] at h, fun _ _ _ _ _ r h => by simp [math_mod.j1] at h, fun _ _ _ _ _ r h => by simp [math_mod.l0] at h⟩
 | k + 1 => by
  obtain ⟨ih0,ih1,ih2⟩:=math_mod.mono_l k
  refine ⟨?_,?_,?_⟩
  ·intro y0 y1 y2
   unfold math_mod.j0
   repeat' first
   | (with_reducible exact ih0 _ _ _)
   | (with_reducible exact ih1 _ _ _ _ _)
   | (with_reducible exact ih2 _ _ _ _ _)
   | (with_reducible exact math_Frexp.mono _ _)
   | (with_reducible exact LeO.refl _)
   | (with_reducible exact LeO.none _)
   | (with_reducible refine LeO.ite ?_ ?_)
   | (with_reducible refine LeO.bind ?_ (fun _ => ?_))
   | exact ih0 _ _ _
   | exact ih1 _ _ _ _ _
   | exact ih2 _ _ _ _ _
   | exact math_Frexp.mono _ _
   | exact LeO.none _
   | refine LeO.ite ?_ ?_
   | refine LeO.bind ?_ (fun _ => ?_)
  ·intro y0 y1 y2 y3 y4
   unfold math_mod.j1
   repeat' first
   | (with_reducible exact ih0 _ _ _)
   | (with_reducible exact ih1 _ _ _ _ _)
   | (with_reducible exact ih2 _ _ _ _ _)
   | (with_reducible exact math_Frexp.mono _ _)
   | (with_reducible exact LeO.refl _)
   | (with_reducible exact LeO.none _)
   | (with_reducible refine LeO.ite ?_ ?_)
   | (with_reducible refine LeO.bind ?_ (fun _ => ?_))
   | exact ih0 _ _ _
   | exact ih1 _ _ _ _ _
   | exact ih2 _ _ _ _ _
   | exact math_Frexp.mono _ _
   | exact LeO.none _
   | refine LeO.ite ?_ ?_
   | refine LeO.bind ?_ (fun _ => ?_)
  ·intro y0 y1 y2 y3 y4
   unfold math_mod.l0
   repeat' first
   | (with_reducible exact ih0 _ _ _)
   | (with_reducible exact ih1 _ _ _ _ _)
   | (with_reducible exact ih2 _ _ _ _ _)
   | (with_reducible exact math_Frexp.mono _ _)
   | (with_reducible exact LeO.refl _)
   | (with_reducible exact LeO.none _)
   | (with_reducible refine LeO.ite ?_ ?_)
   | (with_reducible refine LeO.bind ?_ (fun _ => ?_))
   | exact ih0 _ _ _
   | exact ih1 _ _ _ _ _
   | exact ih2 _ _ _ _ _
   | exact math_Frexp.mono _ _
   | exact LeO.none _
   | refine LeO.ite ?_ ?_
   | refine LeO.bind ?_ (fun _ => ?_)
theorem math_mod.mono : ∀ a0 a1 k, LeO (math_mod.f k a0 a1) (math_mod.f (k + 1) a0 a1) := by
 intro a0 a1 k
 obtain ⟨ih0,ih1,ih2⟩:=math_mod.mono_l k
 unfold math_mod.f
 repeat' first
   | (with_reducible exact ih0 _ _ _)
   | (with_reducible exact ih1 _ _ _ _ _)
   | (with_reducible exact ih2 _ _ _ _ _)
   | (with_reducible exact math_Frexp.mono _ _)
   | (with_reducible exact LeO.refl _)
   | (with_reducible exact LeO.none _)
   | (with_reducible refine LeO.ite ?_ ?_)
   | (with_reducible refine LeO.bind ?_ (fun _ => ?_))
   | exact ih0 _ _ _
   | exact ih1 _ _ _ _ _
   | exact ih2 _ _ _ _ _
   | exact math_Frexp.mono _ _
   | exact LeO.none _
   | refine LeO.ite ?_ ?_
   | refine LeO.bind ?_ (fun _ => ?_)
set_option maxHeartbeats 2500000 in
set_option maxRecDepth 100000 in
theorem math_mod.calls (k : Nat) (a0 : Nat) (a1 : Nat) (r : Nat) (w : World) (h : math_mod.f k a0 a1 = some r) :
  Calls Try.prog 52 #[.float .f64 a0,.float .f64 a1] w fun e w' => e = .returned (.float .f64 r) ∧ Drawn0 w w':=by
 have H : (if (feq a1 0) = true then (math_mod.j0 k a0 a1 true) else ((math_IsInf.f a0 0).bind fun t206 => (if t206 = true then (math_mod.j0 k a0 a1 true) else ((math_IsNaN.f a0).bind fun t207 => (if t207 = true then (math_mod.j0 k a0 a1 true) else ((math_IsNaN.f a1).bind fun t208 => (math_mod.j0 k a0 a1 t208))))))) = some r:=h
 clear h
 have HC3:=Aside0.mk H
 clear H
 go_enter Try.func52,Try.ntmps52
 go_upto_region 1 with (fail)
 go_cut [23] (fun v23 wc => ∃ (kq : Nat) (x23_2 : Bool),v23 = .bool x23_2 ∧ Aside0 (math_mod.j0 kq a0 a1 x23_2 = some r) ∧ Aside0 (kq ≤ k) ∧ Drawn0 w wc)
 case first =>
  have H:=HC3.out
  clear HC3
  by_cases c4 : (feq a1 0) = true
  ·rw [if_pos c4] at H
   have c4b0 : (feq a1 0) = true:=c4
   clear c4
   (first|rw [c4b0]|(simp only [i64_w,i32_w];rw [c4b0])|skip)
   have H':=Aside0.mk H
   clear H
   go_wp2
   go_meet
   case rel => exact ⟨_,(true),(by first|rfl|(simp;done)|(simp [*];done)),H',⟨by first|omega|exact Nat.le_refl _⟩,by repeat (first|exact Drawn0.refl _|apply Drawn0.step)⟩
  ·rw [if_neg c4] at H
   have c4b0 : (feq a1 0) = false:=by simpa using c4
   clear c4
   (first|rw [c4b0]|(simp only [i64_w,i32_w];rw [c4b0])|skip)
   replace H:=Option.bind_eq_some_iff.mp H
   obtain ⟨t206,A50,H⟩:=H
   replace H : (if t206 = true then (math_mod.j0 k a0 a1 true) else ((math_IsNaN.f a0).bind fun t207 => (if t207 = true then (math_mod.j0 k a0 a1 true) else ((math_IsNaN.f a1).bind fun t208 => (math_mod.j0 k a0 a1 t208))))) = some r:=H
   have A5:=Aside0.mk A50
   clear A50
   by_cases c6 : t206 = true
   ·subst c6
    have H1 : (math_mod.j0 k a0 a1 true) = some r:=by rw [if_pos rfl] at H;exact H
    clear H
    have H:=H1
    clear H1
    have H':=Aside0.mk H
    clear H
    go_wp2_with (first|(go_at_call 38;(with_reducible refine (math_IsInf.calls a0 0 true _ A5.out).mono ?_);rintro e w' ⟨rfl,⟨nd,rfl⟩⟩))
    go_meet
    case rel => exact ⟨_,(true),(by first|rfl|(simp;done)|(simp [*];done)),H',⟨by first|omega|exact Nat.le_refl _⟩,by repeat (first|exact Drawn0.refl _|apply Drawn0.step)⟩
   ·replace c6:=Bool.eq_false_iff.mpr c6
    subst c6
    have H1 : ((math_IsNaN.f a0).bind fun t207 => (if t207 = true then (math_mod.j0 k a0 a1 true) else ((math_IsNaN.f a1).bind fun t208 => (math_mod.j0 k a0 a1 t208)))) = some r:=by rw [if_neg (show ¬ (false = true) by decide)] at H;exact H
    clear H
    have H:=H1
    clear H1
    replace H:=Option.bind_eq_some_iff.mp H
    obtain ⟨t207,A70,H⟩:=H
    replace H : (if t207 = true then (math_mod.j0 k a0 a1 true) else ((math_IsNaN.f a1).bind fun t208 => (math_mod.j0 k a0 a1 t208))) = some r:=H
    have A7:=Aside0.mk A70
    clear A70
    by_cases c8 : t207 = true
    ·subst c8
     have H1 : (math_mod.j0 k a0 a1 true) = some r:=by rw [if_pos rfl] at H;exact H
     clear H
     have H:=H1
     clear H1
     have H':=Aside0.mk H
     clear H
     go_wp2_with (first|(go_at_call 38;(with_reducible refine (math_IsInf.calls a0 0 false _ A5.out).mono ?_);rintro e w' ⟨rfl,⟨nd,rfl⟩⟩)|(go_at_call 37;(with_reducible refine (math_IsNaN.calls a0 true _ A7.out).mono ?_);rintro e w' ⟨rfl,⟨nd,rfl⟩⟩))
     go_meet
     case rel => exact ⟨_,(true),(by first|rfl|(simp;done)|(simp [*];done)),H',⟨by first|omega|exact Nat.le_refl _⟩,by repeat (first|exact Drawn0.refl _|apply Drawn0.step)⟩
    ·replace c8:=Bool.eq_false_iff.mpr c8
     subst c8
     have H1 : ((math_IsNaN.f a1).bind fun t208 => (math_mod.j0 k a0 a1 t208)) = some r:=by rw [if_neg (show ¬ (false = true) by decide)] at H;exact H
     clear H
     have H:=H1
     clear H1
     replace H:=Option.bind_eq_some_iff.mp H
     obtain ⟨t208,A90,H⟩:=H
     replace H : (math_mod.j0 k a0 a1 t208) = some r:=H
     have A9:=Aside0.mk A90
     clear A90
     have H':=Aside0.mk H
     clear H
     go_wp2_with (first|(go_at_call 38;(with_reducible refine (math_IsInf.calls a0 0 false _ A5.out).mono ?_);rintro e w' ⟨rfl,⟨nd,rfl⟩⟩)|(go_at_call 37;(with_reducible refine (math_IsNaN.calls a0 false _ A7.out).mono ?_);rintro e w' ⟨rfl,⟨nd,rfl⟩⟩)|(go_at_call 37;(with_reducible refine (math_IsNaN.calls a1 t208 _ A9.out).mono ?_);rintro e w' ⟨rfl,⟨nd,rfl⟩⟩))
     go_meet
     case rel => exact ⟨_,(t208),(by first|rfl|(simp;done)|(simp [*];done)),H',⟨by first|omega|exact Nat.le_refl _⟩,by repeat (first|exact Drawn0.refl _|apply Drawn0.step)⟩
 case rest =>
  clear HC3
  try clear p2
  try clear c4
  try clear c4b0
  try clear c5
  try clear c6
  try clear c8
  obtain ⟨kq,x23_2,rfl,HA,HJ2,⟨mc2,rfl⟩⟩:=hcut
  cases kq with
  | zero => exact absurd HA.out (by simp [math_mod.j0])
  | succ kj2 =>
   have H:=HA.out
   clear HA
   simp only [math_mod.j0] at H
   by_cases c10 : x23_2 = true
   ·subst c10
    have H1 : ((math_NaN.f).bind fun t209 => (some t209)) = some r:=by rw [if_pos rfl] at H;exact H
    clear H
    have H:=H1
    clear H1
    replace H:=Option.bind_eq_some_iff.mp H
    obtain ⟨t209,A110,H⟩:=H
    replace H : (some t209) = some r:=H
    have A11:=Aside0.mk A110
    clear A110
    obtain rfl:=Option.some.inj H
    go_wp2_with (first|((with_reducible refine gate_callee (f:=56) rfl ?_);refine goesL_ (some 24) rfl rfl Try.func56 (by kernel_rfl) rfl #[] rfl (by (try simp only [List.map_toArray,List.map_cons,List.map_nil]);first|done|rfl|(simp only [List.length_drop,List.length_take];rfl)) ?_;(with_reducible refine (math_NaN.calls  t209 _ A11.out).mono ?_);rintro e w' ⟨rfl,⟨nd,rfl⟩⟩;refine ⟨_,rfl,?_⟩))
    go_ret
    exact ⟨by first|rfl|(simp;done)|(simp [*];done),by repeat (first|exact Drawn0.refl _|apply Drawn0.step)⟩
   ·replace c10:=Bool.eq_false_iff.mpr c10
    subst c10
    have H1 : ((math_Abs.f a1).bind fun t210 => ((math_Frexp.f kj2 t210).bind fun bt211 => (if (flt a0 0) = true then (math_mod.j1 kj2 a0 t210 bt211.1 bt211.2 (fneg a0)) else (math_mod.j1 kj2 a0 t210 bt211.1 bt211.2 a0)))) = some r:=by rw [if_neg (show ¬ (false = true) by decide)] at H;exact H
    clear H
    have H:=H1
    clear H1
    replace H:=Option.bind_eq_some_iff.mp H
    obtain ⟨t210,A120,H⟩:=H
    replace H : ((math_Frexp.f kj2 t210).bind fun bt211 => (if (flt a0 0) = true then (math_mod.j1 kj2 a0 t210 bt211.1 bt211.2 (fneg a0)) else (math_mod.j1 kj2 a0 t210 bt211.1 bt211.2 a0))) = some r:=H
    have A12:=Aside0.mk A120
    clear A120
    replace H:=Option.bind_eq_some_iff.mp H
    obtain ⟨⟨t211,t212⟩,A130,H⟩:=H
    replace H : (if (flt a0 0) = true then (math_mod.j1 kj2 a0 t210 t211 t212 (fneg a0)) else (math_mod.j1 kj2 a0 t210 t211 t212 a0)) = some r:=H
    have A13:=Aside0.mk A130
    clear A130
    have HC14:=Aside0.mk H
    clear H
    go_upto_if 34 with (first|((with_reducible refine gate_callee (f:=25) rfl ?_);refine goesL_ (some 26) rfl rfl Try.func25 (by kernel_rfl) rfl #[.float .f64 a1] rfl (by (try simp only [List.map_toArray,List.map_cons,List.map_nil]);first|done|rfl|(simp only [List.length_drop,List.length_take];rfl)) ?_;(with_reducible refine (math_Abs.calls a1 t210 _ A12.out).mono ?_);rintro e w' ⟨rfl,⟨nd,rfl⟩⟩;refine ⟨_,rfl,?_⟩)|((with_reducible refine gate_callee (f:=57) rfl ?_);refine goesL_ (some 29) rfl rfl Try.func57 (by kernel_rfl) rfl #[.float .f64 t210] rfl (by (try simp only [List.map_toArray,List.map_cons,List.map_nil]);first|done|rfl|(simp only [List.length_drop,List.length_take];rfl)) ?_;(with_reducible refine (math_Frexp.calls kj2 t210 t211 t212 _ A13.out).mono ?_);rintro e w' ⟨rfl,⟨nd,rfl⟩⟩;refine ⟨_,rfl,?_⟩))
    (try simp only [Act.put,List.setIfInBounds_toArray,List.set_cons_zero,List.set_cons_succ])
    go_cut [7] (fun v7 wc => ∃ (kq : Nat) (x7_13 : Nat),v7 = .float .f64 x7_13 ∧ Aside0 (math_mod.j1 kq a0 t210 t211 t212 x7_13 = some r) ∧ Aside0 (kq ≤ kj2) ∧ Drawn0 w wc)
    case first =>
     have H:=HC14.out
     clear HC14
     by_cases c15 : (flt a0 0) = true
     ·rw [if_pos c15] at H
      have c15b0 : (flt a0 0) = true:=c15
      clear c15
      (first|rw [c15b0]|(simp only [i64_w,i32_w];rw [c15b0])|skip)
      have H':=Aside0.mk H
      clear H
      go_wp2
      go_meet
      case rel => exact ⟨_,(fneg a0),(by first|rfl|(simp;done)|(simp [*];done)),H',⟨by have:=HJ2.out;first|omega|exact Nat.le_refl _⟩,by repeat (first|exact Drawn0.refl _|apply Drawn0.step)⟩
     ·rw [if_neg c15] at H
      have c15b0 : (flt a0 0) = false:=by simpa using c15
      clear c15
      (first|rw [c15b0]|(simp only [i64_w,i32_w];rw [c15b0])|skip)
      have H':=Aside0.mk H
      clear H
      go_wp2
      go_meet
      case rel => exact ⟨_,(a0),(by first|rfl|(simp;done)|(simp [*];done)),H',⟨by have:=HJ2.out;first|omega|exact Nat.le_refl _⟩,by repeat (first|exact Drawn0.refl _|apply Drawn0.step)⟩
    case rest =>
     clear HC14
     try clear c1
     try clear c2
     try clear p2
     try clear c4
     try clear c4b0
     try clear c5
     try clear c6
     try clear c8
     try clear c10
     try clear c15
     try clear c15b0
     try clear p2
     obtain ⟨kq,x7_13,rfl,HA,HJ13,⟨mc13,rfl⟩⟩:=hcut
     cases kq with
     | zero => exact absurd HA.out (by simp [math_mod.j1])
     | succ kj13 =>
      have H:=HA.out
      clear HA
      simp only [math_mod.j1] at H
      have H':=Aside0.mk H
      clear H
      go_wp2
      go_loopg [7] kj13 (fun kq v7 w' => ∃ (x7_3 : Nat),v7 = .float .f64 x7_3 ∧ Aside0 (math_mod.l0 kq a0 t210 t211 t212 x7_3 = some r) ∧ Aside0 (kq ≤ kj13) ∧ Drawn0 w w')
      case atStart => exact ⟨(x7_13),(by first|rfl|(simp;done)|(simp [*];done)),H',⟨Nat.le_refl _⟩,by repeat (first|exact Drawn0.refl _|apply Drawn0.step)⟩
      case round =>
       clear H'
       try clear c1
       try clear c2
       try clear p2
       try clear c4
       try clear c4b0
       try clear c5
       try clear c6
       try clear c8
       try clear c10
       try clear c13
       try clear c15
       try clear c15b0
       try clear p2
       obtain ⟨x7_3,rfl,HA,HK3,⟨m3,rfl⟩⟩:=hrel
       cases gk with
       | zero => exact absurd HA.out (by simp [math_mod.l0])
       | succ k3 =>
        have H:=HA.out
        clear HA
        simp only [math_mod.l0] at H
        by_cases c16 : (fle t210 x7_3) = true
        ·rw [if_pos c16] at H
         have c16b0 : (fle t210 x7_3) = true:=c16
         clear c16
         replace H:=Option.bind_eq_some_iff.mp H
         obtain ⟨⟨t213,t214⟩,A170,H⟩:=H
         replace H : (if (flt t213 t211) = true then ((math_Ldexp.f t210 (wrap64 ((wrap64 (t214 - 1)) - t212))).bind fun t215 => (if (fsubOk x7_3 t215) = true then (math_mod.l0 k3 a0 t210 t211 t212 (fsub x7_3 t215)) else (none))) else ((math_Ldexp.f t210 (wrap64 (t214 - t212))).bind fun t216 => (if (fsubOk x7_3 t216) = true then (math_mod.l0 k3 a0 t210 t211 t212 (fsub x7_3 t216)) else (none)))) = some r:=H
         have A17:=Aside0.mk A170
         clear A170
         by_cases c18 : (flt t213 t211) = true
         ·rw [if_pos c18] at H
          have c18b0 : (flt t213 t211) = true:=c18
          clear c18
          replace H:=Option.bind_eq_some_iff.mp H
          obtain ⟨t215,A190,H⟩:=H
          replace H : (if (fsubOk x7_3 t215) = true then (math_mod.l0 k3 a0 t210 t211 t212 (fsub x7_3 t215)) else (none)) = some r:=H
          have A19:=Aside0.mk A190
          clear A190
          by_cases c20 : (fsubOk x7_3 t215) = true
          ·rw [if_pos c20] at H
           have c20b0:=eq_true c20
           have c20b1 : decide ((fsubOk x7_3 t215) = true) = true:=decide_eq_true c20
           clear c20
           have H':=Aside0.mk H
           clear H
           go_wp2_with (first|((with_reducible refine gate_callee (f:=57) rfl ?_);refine goesL_ (some 42) rfl rfl Try.func57 (by kernel_rfl) rfl #[.float .f64 x7_3] rfl (by (try simp only [List.map_toArray,List.map_cons,List.map_nil]);first|done|rfl|(simp only [List.length_drop,List.length_take];rfl)) ?_;(with_reducible refine (math_Frexp.calls k3 x7_3 t213 t214 _ A17.out).mono ?_);rintro e w' ⟨rfl,⟨nd,rfl⟩⟩;refine ⟨_,rfl,?_⟩)|((with_reducible refine gate_callee (f:=58) rfl ?_);refine goesL_ (some 55) rfl rfl Try.func58 (by kernel_rfl) rfl #[.float .f64 t210,.int .i64 (wrap64 ((wrap64 (t214 - 1)) - t212))] rfl (by (try simp only [List.map_toArray,List.map_cons,List.map_nil]);first|done|rfl|(simp only [List.length_drop,List.length_take];rfl)) ?_;(with_reducible refine (math_Ldexp.calls t210 (wrap64 ((wrap64 (t214 - 1)) - t212)) t215 _ A19.out).mono ?_);rintro e w' ⟨rfl,⟨nd,rfl⟩⟩;refine ⟨_,rfl,?_⟩))
           go_roundg k3
           case measure => have:=HJ2.out;have:=HJ13.out;have:=HK3.out;omega
           case rel => exact ⟨(fsub x7_3 t215),(by first|rfl|(simp;done)|(simp [*];done)),H',⟨by have:=HJ2.out;have:=HJ13.out;have:=HK3.out;omega⟩,by repeat (first|exact Drawn0.refl _|apply Drawn0.step)⟩
          ·rw [if_neg c20] at H
           exact absurd H (by simp)
         ·rw [if_neg c18] at H
          have c18b0 : (flt t213 t211) = false:=by simpa using c18
          clear c18
          replace H:=Option.bind_eq_some_iff.mp H
          obtain ⟨t216,A210,H⟩:=H
          replace H : (if (fsubOk x7_3 t216) = true then (math_mod.l0 k3 a0 t210 t211 t212 (fsub x7_3 t216)) else (none)) = some r:=H
          have A21:=Aside0.mk A210
          clear A210
          by_cases c22 : (fsubOk x7_3 t216) = true
          ·rw [if_pos c22] at H
           have c22b0:=eq_true c22
           have c22b1 : decide ((fsubOk x7_3 t216) = true) = true:=decide_eq_true c22
           clear c22
           have H':=Aside0.mk H
           clear H
           go_wp2_with (first|((with_reducible refine gate_callee (f:=57) rfl ?_);refine goesL_ (some 42) rfl rfl Try.func57 (by kernel_rfl) rfl #[.float .f64 x7_3] rfl (by (try simp only [List.map_toArray,List.map_cons,List.map_nil]);first|done|rfl|(simp only [List.length_drop,List.length_take];rfl)) ?_;(with_reducible refine (math_Frexp.calls k3 x7_3 t213 t214 _ A17.out).mono ?_);rintro e w' ⟨rfl,⟨nd,rfl⟩⟩;refine ⟨_,rfl,?_⟩)|((with_reducible refine gate_callee (f:=58) rfl ?_);refine goesL_ (some 55) rfl rfl Try.func58 (by kernel_rfl) rfl #[.float .f64 t210,.int .i64 (wrap64 (t214 - t212))] rfl (by (try simp only [List.map_toArray,List.map_cons,List.map_nil]);first|done|rfl|(simp only [List.length_drop,List.length_take];rfl)) ?_;(with_reducible refine (math_Ldexp.calls t210 (wrap64 (t214 - t212)) t216 _ A21.out).mono ?_);rintro e w' ⟨rfl,⟨nd,rfl⟩⟩;refine ⟨_,rfl,?_⟩))
           go_roundg k3
           case measure => have:=HJ2.out;have:=HJ13.out;have:=HK3.out;omega
           case rel => exact ⟨(fsub x7_3 t216),(by first|rfl|(simp;done)|(simp [*];done)),H',⟨by have:=HJ2.out;have:=HJ13.out;have:=HK3.out;omega⟩,by repeat (first|exact Drawn0.refl _|apply Drawn0.step)⟩
          ·rw [if_neg c22] at H
           exact absurd H (by simp)
        ·rw [if_neg c16] at H
         have c16b0 : (fle t210 x7_3) = false:=by simpa using c16
         clear c16
         by_cases c23 : (flt a0 0) = true
         ·rw [if_pos c23] at H
          have c23b0 : (flt a0 0) = true:=c23
          clear c23
          obtain rfl:=Option.some.inj H
          go_wp2
          go_ret
          exact ⟨by first|rfl|(simp;done)|(simp [*];done),by repeat (first|exact Drawn0.refl _|apply Drawn0.step)⟩
         ·rw [if_neg c23] at H
          have c23b0 : (flt a0 0) = false:=by simpa using c23
          clear c23
          obtain rfl:=Option.some.inj H
          go_wp2
          go_ret
          exact ⟨by first|rfl|(simp;done)|(simp [*];done),by repeat (first|exact Drawn0.refl _|apply Drawn0.step)⟩

/-! ### math_Mod: function 46 -/
def math_Mod.f (k : Nat) (a0 : Nat) (a1 : Nat) : Option (Nat) := (math_mod.f k a0 a1).bind fun t217 => (some t217)
theorem math_Mod.mono : ∀ a0 a1 k, LeO (math_Mod.f k a0 a1) (math_Mod.f (k + 1) a0 a1) := by
 intro a0 a1 k
 unfold math_Mod.f
 repeat' first
   | (with_reducible exact math_mod.mono _ _ _)
   | (with_reducible exact LeO.refl _)
   | (with_reducible exact LeO.none _)
   | (with_reducible refine LeO.ite ?_ ?_)
   | (with_reducible refine LeO.bind ?_ (fun _ => ?_))
   | exact math_mod.mono _ _ _
   | exact LeO.none _
   | refine LeO.ite ?_ ?_
   | refine LeO.bind ?_ (fun _ => ?_)
set_option maxHeartbeats 2500000 in
set_option maxRecDepth 100000 in
theorem math_Mod.calls (k : Nat) (a0 : Nat) (a1 : Nat) (r : Nat) (w : World) (h : math_Mod.f k a0 a1 = some r) :
  Calls Try.prog 46 #[.float .f64 a0,.float .f64 a1] w fun e w' => e = .returned (.float .f64 r) ∧ Drawn0 w w':=by
 have H : ((math_mod.f k a0 a1).bind fun t217 => (some t217)) = some r:=h
 clear h
 replace H:=Option.bind_eq_some_iff.mp H
 obtain ⟨t217,A30,H⟩:=H
 replace H : (some t217) = some r:=H
 have A3:=Aside0.mk A30
 clear A30
 obtain rfl:=Option.some.inj H
 go_enter Try.func46,Try.ntmps46
 go_wp2_with (first|((with_reducible refine gate_callee (f:=52) rfl ?_);refine goesL_ (some 10) rfl rfl Try.func52 (by kernel_rfl) rfl #[.float .f64 a0,.float .f64 a1] rfl (by (try simp only [List.map_toArray,List.map_cons,List.map_nil]);first|done|rfl|(simp only [List.length_drop,List.length_take];rfl)) ?_;(with_reducible refine (math_mod.calls k a0 a1 t217 _ A3.out).mono ?_);rintro e w' ⟨rfl,⟨nd,rfl⟩⟩;refine ⟨_,rfl,?_⟩))
 go_ret
 exact ⟨by first|rfl|(simp;done)|(simp [*];done),by repeat (first|exact Drawn0.refl _|apply Drawn0.step)⟩

/-! ### beaconref01_Round: function 35 -/
def beaconref01_Round.f (k : Nat) (a0 : Nat) : Option (Nat × Int) := (beaconref01_nan.f a0).bind fun t218 => (if t218 = true then (some (0, 10)) else (if (flt a0 4607182418800017408) = true then (some (4607182418800017408, 0)) else (if (flt 4697254411347427328 a0) = true then (some (4697254411347427328, 0)) else (if (fmulOk a0 4616189618054758400) = true then ((math_Floor.f (fmul a0 4616189618054758400)).bind fun t219 => (if (fdivOk t219 4616189618054758400) = true then (if (faddOk (fdiv t219 4616189618054758400) 4598175219545276416) = true then (if (fsubOk a0 (fdiv t219 4616189618054758400)) = true then (if (fsubOk (fadd (fdiv t219 4616189618054758400) 4598175219545276416) a0) = true then (if (flt (fsub (fadd (fdiv t219 4616189618054758400) 4598175219545276416) a0) (fsub a0 (fdiv t219 4616189618054758400))) = true then (some (fadd (fdiv t219 4616189618054758400) 4598175219545276416, 0)) else (if (feq (fsub a0 (fdiv t219 4616189618054758400)) (fsub (fadd (fdiv t219 4616189618054758400) 4598175219545276416) a0)) = true then (if (fmulOk (fdiv t219 4616189618054758400) 4616189618054758400) = true then ((math_Mod.f k (fmul (fdiv t219 4616189618054758400) 4616189618054758400) 4611686018427387904).bind fun t220 => (if (feq t220 4607182418800017408) = true then (some (fadd (fdiv t219 4616189618054758400) 4598175219545276416, 0)) else (some (fdiv t219 4616189618054758400, 0)))) else (none)) else (some (fdiv t219 4616189618054758400, 0)))) else (none)) else (none)) else (none)) else (none))) else (none)))))
theorem beaconref01_Round.mono : ∀ a0 k, LeO (beaconref01_Round.f k a0) (beaconref01_Round.f (k + 1) a0) := by
 intro a0 k
 unfold beaconref01_Round.f
 repeat' first
   | (with_reducible exact math_Mod.mono _ _ _)
   | (with_reducible exact LeO.refl _)
   | (with_reducible exact LeO.none _)
   | (with_reducible refine LeO.ite ?_ ?_)
   | (with_reducible refine LeO.bind ?_ (fun _ => ?_))
   | exact math_Mod.mono _ _ _
   | exact LeO.none _
   | refine LeO.ite ?_ ?_
   | refine LeO.bind ?_ (fun _ => ?_)
set_option maxHeartbeats 2500000 in
set_option maxRecDepth 100000 in
theorem beaconref01_Round.calls (k : Nat) (a0 : Nat) (r1 : Nat) (r2 : Int) (w : World) (h : beaconref01_Round.f k a0 = some (r1, r2)) :
  Calls Try.prog 35 #[.float .f64 a0] w fun e w' => e = .returned (.tuple #[.float .f64 r1,.int .i64 r2]) ∧ Drawn0 w w':=by
 have H : ((beaconref01_nan.f a0).bind fun t218 => (if t218 = true then (some (0,10)) else (if (flt a0 4607182418800017408) = true then (some (4607182418800017408,0)) else (if (flt 4697254411347427328 a0) = true then (some (4697254411347427328,0)) else (if (fmulOk a0 4616189618054758400) = true then ((math_Floor.f (fmul a0 4616189618054758400)).bind fun t219 => (if (fdivOk t219 4616189618054758400) = true then (if (faddOk (fdiv t219 4616189618054758400) 4598175219545276416) = true then (if (fsubOk a0 (fdiv t219 4616189618054758400)) = true then (if (fsubOk (fadd (fdiv t219 4616189618054758400) 4598175219545276416) a0) = true then (if (flt (fsub (fadd (fdiv t219 4616189618054758400) 4598175219545276416) a0) (fsub a0 (fdiv t219 4616189618054758400))) = true then (some (fadd (fdiv t219 4616189618054758400) 4598175219545276416,0)) else (if (feq (fsub a0 (fdiv t219 4616189618054758400)) (fsub (fadd (fdiv t219 4616189618054758400) 4598175219545276416) a0)) = true then (if (fmulOk (fdiv t219 4616189618054758400) 4616189618054758400) = true then ((math_Mod.f k (fmul (fdiv t219 4616189618054758400) 4616189618054758400) 4611686018427387904).bind fun t220 => (if (feq t220 4607182418800017408) = true then (some (fadd (fdiv t219 4616189618054758400) 4598175219545276416,0)) else (some (fdiv t219 4616189618054758400,0)))) else (none)) else (some (fdiv t219 4616189618054758400,0)))) else (none)) else (none)) else (none)) else (none))) else (none)))))) = some (r1,r2):=h
 clear h
 replace H:=Option.bind_eq_some_iff.mp H
 obtain ⟨t218,A20,H⟩:=H
 replace H : (if t218 = true then (some (0,10)) else (if (flt a0 4607182418800017408) = true then (some (4607182418800017408,0)) else (if (flt 4697254411347427328 a0) = true then (some (4697254411347427328,0)) else (if (fmulOk a0 4616189618054758400) = true then ((math_Floor.f (fmul a0 4616189618054758400)).bind fun t219 => (if (fdivOk t219 4616189618054758400) = true then (if (faddOk (fdiv t219 4616189618054758400) 4598175219545276416) = true then (if (fsubOk a0 (fdiv t219 4616189618054758400)) = true then (if (fsubOk (fadd (fdiv t219 4616189618054758400) 4598175219545276416) a0) = true then (if (flt (fsub (fadd (fdiv t219 4616189618054758400) 4598175219545276416) a0) (fsub a0 (fdiv t219 4616189618054758400))) = true then (some (fadd (fdiv t219 4616189618054758400) 4598175219545276416,0)) else (if (feq (fsub a0 (fdiv t219 4616189618054758400)) (fsub (fadd (fdiv t219 4616189618054758400) 4598175219545276416) a0)) = true then (if (fmulOk (fdiv t219 4616189618054758400) 4616189618054758400) = true then ((math_Mod.f k (fmul (fdiv t219 4616189618054758400) 4616189618054758400) 4611686018427387904).bind fun t220 => (if (feq t220 4607182418800017408) = true then (some (fadd (fdiv t219 4616189618054758400) 4598175219545276416,0)) else (some (fdiv t219 4616189618054758400,0)))) else (none)) else (some (fdiv t219 4616189618054758400,0)))) else (none)) else (none)) else (none)) else (none))) else (none))))) = some (r1,r2):=H
 have A2:=Aside0.mk A20
 clear A20
 by_cases c3 : t218 = true
 ·subst c3
  have H1 : (some (0,10)) = some (r1,r2):=by rw [if_pos rfl] at H;exact H
  clear H
  have H:=H1
  clear H1
  simp only [Option.some.injEq,Prod.mk.injEq] at H
  obtain ⟨rfl,rfl⟩:=H
  go_enter Try.func35,Try.ntmps35
  go_wp2_with (first|((with_reducible refine gate_callee (f:=41) rfl ?_);refine goesL_ (some 7) rfl rfl Try.func41 (by kernel_rfl) rfl #[.float .f64 a0] rfl (by (try simp only [List.map_toArray,List.map_cons,List.map_nil]);first|done|rfl|(simp only [List.length_drop,List.length_take];rfl)) ?_;(with_reducible refine (beaconref01_nan.calls a0 true _ A2.out).mono ?_);rintro e w' ⟨rfl,⟨nd,rfl⟩⟩;refine ⟨_,rfl,?_⟩))
  go_ret2
  exact ⟨by first|rfl|(simp;done)|(simp [*];done),by repeat (first|exact Drawn0.refl _|apply Drawn0.step)⟩
 ·replace c3:=Bool.eq_false_iff.mpr c3
  subst c3
  have H1 : (if (flt a0 4607182418800017408) = true then (some (4607182418800017408,0)) else (if (flt 4697254411347427328 a0) = true then (some (4697254411347427328,0)) else (if (fmulOk a0 4616189618054758400) = true then ((math_Floor.f (fmul a0 4616189618054758400)).bind fun t219 => (if (fdivOk t219 4616189618054758400) = true then (if (faddOk (fdiv t219 4616189618054758400) 4598175219545276416) = true then (if (fsubOk a0 (fdiv t219 4616189618054758400)) = true then (if (fsubOk (fadd (fdiv t219 4616189618054758400) 4598175219545276416) a0) = true then (if (flt (fsub (fadd (fdiv t219 4616189618054758400) 4598175219545276416) a0) (fsub a0 (fdiv t219 4616189618054758400))) = true then (some (fadd (fdiv t219 4616189618054758400) 4598175219545276416,0)) else (if (feq (fsub a0 (fdiv t219 4616189618054758400)) (fsub (fadd (fdiv t219 4616189618054758400) 4598175219545276416) a0)) = true then (if (fmulOk (fdiv t219 4616189618054758400) 4616189618054758400) = true then ((math_Mod.f k (fmul (fdiv t219 4616189618054758400) 4616189618054758400) 4611686018427387904).bind fun t220 => (if (feq t220 4607182418800017408) = true then (some (fadd (fdiv t219 4616189618054758400) 4598175219545276416,0)) else (some (fdiv t219 4616189618054758400,0)))) else (none)) else (some (fdiv t219 4616189618054758400,0)))) else (none)) else (none)) else (none)) else (none))) else (none)))) = some (r1,r2):=by rw [if_neg (show ¬ (false = true) by decide)] at H;exact H
  clear H
  have H:=H1
  clear H1
  by_cases c4 : (flt a0 4607182418800017408) = true
  ·rw [if_pos c4] at H
   have c4b0 : (flt a0 4607182418800017408) = true:=c4
   clear c4
   simp only [Option.some.injEq,Prod.mk.injEq] at H
   obtain ⟨rfl,rfl⟩:=H
   go_enter Try.func35,Try.ntmps35
   go_wp2_with (first|((with_reducible refine gate_callee (f:=41) rfl ?_);refine goesL_ (some 7) rfl rfl Try.func41 (by kernel_rfl) rfl #[.float .f64 a0] rfl (by (try simp only [List.map_toArray,List.map_cons,List.map_nil]);first|done|rfl|(simp only [List.length_drop,List.length_take];rfl)) ?_;(with_reducible refine (beaconref01_nan.calls a0 false _ A2.out).mono ?_);rintro e w' ⟨rfl,⟨nd,rfl⟩⟩;refine ⟨_,rfl,?_⟩))
   go_ret2
   exact ⟨by first|rfl|(simp;done)|(simp [*];done),by repeat (first|exact Drawn0.refl _|apply Drawn0.step)⟩
  ·rw [if_neg c4] at H
   have c4b0 : (flt a0 4607182418800017408) = false:=by simpa using c4
   clear c4
   by_cases c5 : (flt 4697254411347427328 a0) = true
   ·rw [if_pos c5] at H
    have c5b0 : (flt 4697254411347427328 a0) = true:=c5
    clear c5
    simp only [Option.some.injEq,Prod.mk.injEq] at H
    obtain ⟨rfl,rfl⟩:=H
    go_enter Try.func35,Try.ntmps35
    go_wp2_with (first|((with_reducible refine gate_callee (f:=41) rfl ?_);refine goesL_ (some 7) rfl rfl Try.func41 (by kernel_rfl) rfl #[.float .f64 a0] rfl (by (try simp only [List.map_toArray,List.map_cons,List.map_nil]);first|done|rfl|(simp only [List.length_drop,List.length_take];rfl)) ?_;(with_reducible refine (beaconref01_nan.calls a0 false _ A2.out).mono ?_);rintro e w' ⟨rfl,⟨nd,rfl⟩⟩;refine ⟨_,rfl,?_⟩))
    go_ret2
    exact ⟨by first|rfl|(simp;done)|(simp [*];done),by repeat (first|exact Drawn0.refl _|apply Drawn0.step)⟩
   ·rw [if_neg c5] at H
    have c5b0 : (flt 4697254411347427328 a0) = false:=by simpa using c5
    clear c5
    by_cases c6 : (fmulOk a0 4616189618054758400) = true
    ·rw [if_pos c6] at H
     have c6b0:=eq_true c6
     have c6b1 : decide ((fmulOk a0 4616189618054758400) = true) = true:=decide_eq_true c6
     clear c6
     replace H:=Option.bind_eq_some_iff.mp H
     obtain ⟨t219,A70,H⟩:=H
     replace H : (if (fdivOk t219 4616189618054758400) = true then (if (faddOk (fdiv t219 4616189618054758400) 4598175219545276416) = true then (if (fsubOk a0 (fdiv t219 4616189618054758400)) = true then (if (fsubOk (fadd (fdiv t219 4616189618054758400) 4598175219545276416) a0) = true then (if (flt (fsub (fadd (fdiv t219 4616189618054758400) 4598175219545276416) a0) (fsub a0 (fdiv t219 4616189618054758400))) = true then (some (fadd (fdiv t219 4616189618054758400) 4598175219545276416,0)) else (if (feq (fsub a0 (fdiv t219 4616189618054758400)) (fsub (fadd (fdiv t219 4616189618054758400) 4598175219545276416) a0)) = true then (if (fmulOk (fdiv t219 4616189618054758400) 4616189618054758400) = true then ((math_Mod.f k (fmul (fdiv t219 4616189618054758400) 4616189618054758400) 4611686018427387904).bind fun t220 => (if (feq t220 4607182418800017408) = true then (some (fadd (fdiv t219 4616189618054758400) 4598175219545276416,0)) else (some (fdiv t219 4616189618054758400,0)))) else (none)) else (some (fdiv t219 4616189618054758400,0)))) else (none)) else (none)) else (none)) else (none)) = some (r1,r2):=H
     have A7:=Aside0.mk A70
     clear A70
     by_cases c8 : (fdivOk t219 4616189618054758400) = true
     ·rw [if_pos c8] at H
      have c8b0:=eq_true c8
      have c8b1 : decide ((fdivOk t219 4616189618054758400) = true) = true:=decide_eq_true c8
      clear c8
      by_cases c9 : (faddOk (fdiv t219 4616189618054758400) 4598175219545276416) = true
      ·rw [if_pos c9] at H
       have c9b0:=eq_true c9
       have c9b1 : decide ((faddOk (fdiv t219 4616189618054758400) 4598175219545276416) = true) = true:=decide_eq_true c9
       clear c9
       by_cases c10 : (fsubOk a0 (fdiv t219 4616189618054758400)) = true
       ·rw [if_pos c10] at H
        have c10b0:=eq_true c10
        have c10b1 : decide ((fsubOk a0 (fdiv t219 4616189618054758400)) = true) = true:=decide_eq_true c10
        clear c10
        by_cases c11 : (fsubOk (fadd (fdiv t219 4616189618054758400) 4598175219545276416) a0) = true
        ·rw [if_pos c11] at H
         have c11b0:=eq_true c11
         have c11b1 : decide ((fsubOk (fadd (fdiv t219 4616189618054758400) 4598175219545276416) a0) = true) = true:=decide_eq_true c11
         clear c11
         by_cases c12 : (flt (fsub (fadd (fdiv t219 4616189618054758400) 4598175219545276416) a0) (fsub a0 (fdiv t219 4616189618054758400))) = true
         ·rw [if_pos c12] at H
          have c12b0 : (flt (fsub (fadd (fdiv t219 4616189618054758400) 4598175219545276416) a0) (fsub a0 (fdiv t219 4616189618054758400))) = true:=c12
          clear c12
          simp only [Option.some.injEq,Prod.mk.injEq] at H
          obtain ⟨rfl,rfl⟩:=H
          go_enter Try.func35,Try.ntmps35
          go_wp2_with (first|((with_reducible refine gate_callee (f:=41) rfl ?_);refine goesL_ (some 7) rfl rfl Try.func41 (by kernel_rfl) rfl #[.float .f64 a0] rfl (by (try simp only [List.map_toArray,List.map_cons,List.map_nil]);first|done|rfl|(simp only [List.length_drop,List.length_take];rfl)) ?_;(with_reducible refine (beaconref01_nan.calls a0 false _ A2.out).mono ?_);rintro e w' ⟨rfl,⟨nd,rfl⟩⟩;refine ⟨_,rfl,?_⟩)|((with_reducible refine gate_callee (f:=45) rfl ?_);refine goesL_ (some 14) rfl rfl Try.func45 (by kernel_rfl) rfl #[.float .f64 (fmul a0 4616189618054758400)] rfl (by (try simp only [List.map_toArray,List.map_cons,List.map_nil]);first|done|rfl|(simp only [List.length_drop,List.length_take];rfl)) ?_;(with_reducible refine (math_Floor.calls (fmul a0 4616189618054758400) t219 _ A7.out).mono ?_);rintro e w' ⟨rfl,⟨nd,rfl⟩⟩;refine ⟨_,rfl,?_⟩))
          go_ret2
          exact ⟨by first|rfl|(simp;done)|(simp [*];done),by repeat (first|exact Drawn0.refl _|apply Drawn0.step)⟩
         ·rw [if_neg c12] at H
          have c12b0 : (flt (fsub (fadd (fdiv t219 4616189618054758400) 4598175219545276416) a0) (fsub a0 (fdiv t219 4616189618054758400))) = false:=by simpa using c12
          clear c12
          by_cases c13 : (feq (fsub a0 (fdiv t219 4616189618054758400)) (fsub (fadd (fdiv t219 4616189618054758400) 4598175219545276416) a0)) = true
          ·rw [if_pos c13] at H
           have c13b0 : (feq (fsub a0 (fdiv t219 4616189618054758400)) (fsub (fadd (fdiv t219 4616189618054758400) 4598175219545276416) a0)) = true:=c13
           clear c13
           by_cases c14 : (fmulOk (fdiv t219 4616189618054758400) 4616189618054758400) = true
           ·rw [if_pos c14] at H
            have c14b0:=eq_true c14
            have c14b1 : decide ((fmulOk (fdiv t219 4616189618054758400) 4616189618054758400) = true) = true:=decide_eq_true c14
            clear c14
            replace H:=Option.bind_eq_some_iff.mp H
            obtain ⟨t220,A150,H⟩:=H
            replace H : (if (feq t220 4607182418800017408) = true then (some (fadd (fdiv t219 4616189618054758400) 4598175219545276416,0)) else (some (fdiv t219 4616189618054758400,0))) = some (r1,r2):=H
            have A15:=Aside0.mk A150
            clear A150
            by_cases c16 : (feq t220 4607182418800017408) = true
            ·rw [if_pos c16] at H
             have c16b0 : (feq t220 4607182418800017408) = true:=c16
             clear c16
             simp only [Option.some.injEq,Prod.mk.injEq] at H
             obtain ⟨rfl,rfl⟩:=H
             go_enter Try.func35,Try.ntmps35
             go_wp2_with (first|((with_reducible refine gate_callee (f:=41) rfl ?_);refine goesL_ (some 7) rfl rfl Try.func41 (by kernel_rfl) rfl #[.float .f64 a0] rfl (by (try simp only [List.map_toArray,List.map_cons,List.map_nil]);first|done|rfl|(simp only [List.length_drop,List.length_take];rfl)) ?_;(with_reducible refine (beaconref01_nan.calls a0 false _ A2.out).mono ?_);rintro e w' ⟨rfl,⟨nd,rfl⟩⟩;refine ⟨_,rfl,?_⟩)|((with_reducible refine gate_callee (f:=45) rfl ?_);refine goesL_ (some 14) rfl rfl Try.func45 (by kernel_rfl) rfl #[.float .f64 (fmul a0 4616189618054758400)] rfl (by (try simp only [List.map_toArray,List.map_cons,List.map_nil]);first|done|rfl|(simp only [List.length_drop,List.length_take];rfl)) ?_;(with_reducible refine (math_Floor.calls (fmul a0 4616189618054758400) t219 _ A7.out).mono ?_);rintro e w' ⟨rfl,⟨nd,rfl⟩⟩;refine ⟨_,rfl,?_⟩)|(go_at_call 46;(with_reducible refine (math_Mod.calls k (fmul (fdiv t219 4616189618054758400) 4616189618054758400) 4611686018427387904 t220 _ A15.out).mono ?_);rintro e w' ⟨rfl,⟨nd,rfl⟩⟩))
             go_ret2
             exact ⟨by first|rfl|(simp;done)|(simp [*];done),by repeat (first|exact Drawn0.refl _|apply Drawn0.step)⟩
            ·rw [if_neg c16] at H
             have c16b0 : (feq t220 4607182418800017408) = false:=by simpa using c16
             clear c16
             simp only [Option.some.injEq,Prod.mk.injEq] at H
             obtain ⟨rfl,rfl⟩:=H
             go_enter Try.func35,Try.ntmps35
             go_wp2_with (first|((with_reducible refine gate_callee (f:=41) rfl ?_);refine goesL_ (some 7) rfl rfl Try.func41 (by kernel_rfl) rfl #[.float .f64 a0] rfl (by (try simp only [List.map_toArray,List.map_cons,List.map_nil]);first|done|rfl|(simp only [List.length_drop,List.length_take];rfl)) ?_;(with_reducible refine (beaconref01_nan.calls a0 false _ A2.out).mono ?_);rintro e w' ⟨rfl,⟨nd,rfl⟩⟩;refine ⟨_,rfl,?_⟩)|((with_reducible refine gate_callee (f:=45) rfl ?_);refine goesL_ (some 14) rfl rfl Try.func45 (by kernel_rfl) rfl #[.float .f64 (fmul a0 4616189618054758400)] rfl (by (try simp only [List.map_toArray,List.map_cons,List.map_nil]);first|done|rfl|(simp only [List.length_drop,List.length_take];rfl)) ?_;(with_reducible refine (math_Floor.calls (fmul a0 4616189618054758400) t219 _ A7.out).mono ?_);rintro e w' ⟨rfl,⟨nd,rfl⟩⟩;refine ⟨_,rfl,?_⟩)|(go_at_call 46;(with_reducible refine (math_Mod.calls k (fmul (fdiv t219 4616189618054758400) 4616189618054758400) 4611686018427387904 t220 _ A15.out).mono ?_);rintro e w' ⟨rfl,⟨nd,rfl⟩⟩))
             go_ret2
             exact ⟨by first|rfl|(simp;done)|(simp [*];done),by repeat (first|exact Drawn0.refl _|apply Drawn0.step)⟩
           ·rw [if_neg c14] at H
            exact absurd H (by simp)
          ·rw [if_neg c13] at H
           have c13b0 : (feq (fsub a0 (fdiv t219 4616189618054758400)) (fsub (fadd (fdiv t219 4616189618054758400) 4598175219545276416) a0)) = false:=by simpa using c13
           clear c13
           simp only [Option.some.injEq,Prod.mk.injEq] at H
           obtain ⟨rfl,rfl⟩:=H
           go_enter Try.func35,Try.ntmps35
           go_wp2_with (first|((with_reducible refine gate_callee (f:=41) rfl ?_);refine goesL_ (some 7) rfl rfl Try.func41 (by kernel_rfl) rfl #[.float .f64 a0] rfl (by (try simp only [List.map_toArray,List.map_cons,List.map_nil]);first|done|rfl|(simp only [List.length_drop,List.length_take];rfl)) ?_;(with_reducible refine (beaconref01_nan.calls a0 false _ A2.out).mono ?_);rintro e w' ⟨rfl,⟨nd,rfl⟩⟩;refine ⟨_,rfl,?_⟩)|((with_reducible refine gate_callee (f:=45) rfl ?_);refine goesL_ (some 14) rfl rfl Try.func45 (by kernel_rfl) rfl #[.float .f64 (fmul a0 4616189618054758400)] rfl (by (try simp only [List.map_toArray,List.map_cons,List.map_nil]);first|done|rfl|(simp only [List.length_drop,List.length_take];rfl)) ?_;(with_reducible refine (math_Floor.calls (fmul a0 4616189618054758400) t219 _ A7.out).mono ?_);rintro e w' ⟨rfl,⟨nd,rfl⟩⟩;refine ⟨_,rfl,?_⟩))
           go_ret2
           exact ⟨by first|rfl|(simp;done)|(simp [*];done),by repeat (first|exact Drawn0.refl _|apply Drawn0.step)⟩
        ·rw [if_neg c11] at H
         exact absurd H (by simp)
       ·rw [if_neg c10] at H
        exact absurd H (by simp)
      ·rw [if_neg c9] at H
       exact absurd H (by simp)
     ·rw [if_neg c8] at H
      exact absurd H (by simp)
    ·rw [if_neg c6] at H
     exact absurd H (by simp)

/-! ### beaconref05_Cost: function 20 -/
def beaconref05_Cost.f (k : Nat) (a0_0 : Int) (a0_1 : Nat) (a0_2 : Nat) : Option (Nat × Int) := (beaconref05_Check.f k a0_0 a0_1 a0_2).bind fun t222 => (if t222 = 0 then (if a0_0 = 0 then (some (0, 4)) else (if (fmulOk 4616189618054758400 a0_2) = true then (if (faddOk a0_1 (fmul 4616189618054758400 a0_2)) = true then ((beaconref01_Round.f k (fadd a0_1 (fmul 4616189618054758400 a0_2))).bind fun bt223 => (some (bt223.1, bt223.2))) else (none)) else (none))) else (some (0, t222)))
theorem beaconref05_Cost.mono : ∀ a0 a1 a2 k, LeO (beaconref05_Cost.f k a0 a1 a2) (beaconref05_Cost.f (k + 1) a0 a1 a2) := by
 intro a0 a1 a2 k
 unfold beaconref05_Cost.f
 repeat' first
   | (with_reducible exact beaconref01_Round.mono _ _)
   | (with_reducible exact beaconref05_Check.mono _ _ _ _)
   | (with_reducible exact LeO.refl _)
   | (with_reducible exact LeO.none _)
   | (with_reducible refine LeO.ite ?_ ?_)
   | (with_reducible refine LeO.bind ?_ (fun _ => ?_))
   | exact beaconref01_Round.mono _ _
   | exact beaconref05_Check.mono _ _ _ _
   | exact LeO.none _
   | refine LeO.ite ?_ ?_
   | refine LeO.bind ?_ (fun _ => ?_)
set_option maxHeartbeats 2500000 in
set_option maxRecDepth 100000 in
theorem beaconref05_Cost.calls (k : Nat) (a0_0 : Int) (a0_1 : Nat) (a0_2 : Nat) (r1 : Nat) (r2 : Int) (w : World) (h : beaconref05_Cost.f k a0_0 a0_1 a0_2 = some (r1, r2)) :
  Calls Try.prog 20 #[.agg #[.int .i64 a0_0,.float .f64 a0_1,.float .f64 a0_2]] w fun e w' => e = .returned (.tuple #[.float .f64 r1,.int .i64 r2]) ∧ Below w.heap.size w w':=by
 have hu24:=Try.underlying24
 have HB:=Aside0.mk (Below.refl w.heap.size w)
 have H : ((beaconref05_Check.f k a0_0 a0_1 a0_2).bind fun t222 => (if t222 = 0 then (if a0_0 = 0 then (some (0,4)) else (if (fmulOk 4616189618054758400 a0_2) = true then (if (faddOk a0_1 (fmul 4616189618054758400 a0_2)) = true then ((beaconref01_Round.f k (fadd a0_1 (fmul 4616189618054758400 a0_2))).bind fun bt223 => (some (bt223.1,bt223.2))) else (none)) else (none))) else (some (0,t222)))) = some (r1,r2):=h
 clear h
 replace H:=Option.bind_eq_some_iff.mp H
 obtain ⟨t222,A20,H⟩:=H
 replace H : (if t222 = 0 then (if a0_0 = 0 then (some (0,4)) else (if (fmulOk 4616189618054758400 a0_2) = true then (if (faddOk a0_1 (fmul 4616189618054758400 a0_2)) = true then ((beaconref01_Round.f k (fadd a0_1 (fmul 4616189618054758400 a0_2))).bind fun bt223 => (some (bt223.1,bt223.2))) else (none)) else (none))) else (some (0,t222))) = some (r1,r2):=H
 have A2:=Aside0.mk A20
 clear A20
 by_cases c3 : t222 = 0
 ·rw [if_pos c3] at H
  have c3b0 : (t222 == 0) = true:=beq_iff_eq.mpr c3
  have c3b1 : (t222 != 0) = false:=bne_eq_false_iff_eq.mpr c3
  clear c3
  by_cases c4 : a0_0 = 0
  ·rw [if_pos c4] at H
   have c4b0 : (a0_0 == 0) = true:=beq_iff_eq.mpr c4
   have c4b1 : (a0_0 != 0) = false:=bne_eq_false_iff_eq.mpr c4
   clear c4
   simp only [Option.some.injEq,Prod.mk.injEq] at H
   obtain ⟨rfl,rfl⟩:=H
   go_enter Try.func20,Try.ntmps20
   go_wp2_with (first|((with_reducible refine gate_dst (N:=1) rfl ?_);refine box_event ?hg (N:=1) ?hd (cs:=#[.int .i64 a0_0,.float .f64 a0_1,.float .f64 a0_2]) (t:=24) ?hr ?_;(case hd => rfl);(case hg => rfl);(case hr => first|(go_simp;done)|(go_simp;rfl));intro G221 hg w5 hbox hb;have n0_:=Aside0.mk (below_step (by repeat (first|(with_reducible first|exact HB.1|apply bwA|apply bwN|apply bw1)|exact HB.1)) hb);have n1_:=Aside0.mk (hbox);have n2_:=Aside0.mk ((by rw [hg];exact (below_size (by repeat (first|(with_reducible first|exact HB.1|apply bwA|apply bwN|apply bw1)|exact HB.1))) : w.heap.size ≤ G221));have n3_:=Aside0.mk ((by rw [hg];exact (below_size (by repeat (first|(with_reducible first|exact HB.1|apply bwA|apply bwN|apply bw1)|exact HB.1))) : w.heap.size ≤ G221));clear HB;have HB:=n0_;have K221:=n1_;have GW221:=n2_;have GE221:=n3_;clear n0_ n1_ n2_ n3_;clear hb hbox hg;have hcz6_0 : w5.cell? ⟨G221,0,none⟩ = some (.int .i64 a0_0):=(bC K221.1 0).trans rfl;have hcz6_1 : w5.cell? ⟨G221,1,none⟩ = some (.float .f64 a0_1):=(bC K221.1 1).trans rfl;have hcz6_2 : w5.cell? ⟨G221,2,none⟩ = some (.float .f64 a0_2):=(bC K221.1 2).trans rfl;have hfz6_0:=bF K221.1 0;have hfz6_1:=bF K221.1 1;have hfz6_2:=bF K221.1 2)|((with_reducible refine gate_callee (f:=13) rfl ?_);refine goesL_ (some 7) rfl rfl Try.func13 (by kernel_rfl) rfl #[.agg #[.int .i64 a0_0,.float .f64 a0_1,.float .f64 a0_2]] rfl (by (try simp only [List.map_toArray,List.map_cons,List.map_nil]);first|done|rfl|(simp only [List.length_drop,List.length_take];rfl)) ?_;(with_reducible refine (beaconref05_Check.calls k a0_0 a0_1 a0_2 t222 _ A2.out).mono ?_);rintro e w7 ⟨rfl,hb⟩;refine ⟨_,rfl,?_⟩;have n0_:=Aside0.mk (bB (g:=G221) (o:=.cells #[.int .i64 a0_0,.float .f64 a0_1,.float .f64 a0_2] 24 (0,0)) (by (with_reducible repeat first|apply bN|apply bD|apply bA);exact K221.1) hb);have n1_:=Aside0.mk (below_step (by repeat (first|(with_reducible first|exact HB.1|apply bwA|apply bwN|apply bw1|refine bS ?_ GE221.1)|exact HB.1)) hb);clear K221;clear HB;have K221:=n0_;have HB:=n1_;clear n0_ n1_;(try clear hb);(try clear hb2);(try clear hk);(try clear hi);have hcz8_0 : w7.cell? ⟨G221,0,none⟩ = some (.int .i64 a0_0):=(bC K221.1 0).trans rfl;have hcz8_1 : w7.cell? ⟨G221,1,none⟩ = some (.float .f64 a0_1):=(bC K221.1 1).trans rfl;have hcz8_2 : w7.cell? ⟨G221,2,none⟩ = some (.float .f64 a0_2):=(bC K221.1 2).trans rfl;have hfz8_0:=bF K221.1 0;have hfz8_1:=bF K221.1 1;have hfz8_2:=bF K221.1 2))
   go_ret2
   exact ⟨by first|rfl|(simp [errW_none,errW_some] <;> rfl)|(simp [*,errW_none,errW_some] <;> rfl),by repeat (first|(with_reducible first|exact HB.1|apply bwA|apply bwN|apply bw1|refine bS ?_ GE221.1)|exact HB.1)⟩
  ·rw [if_neg c4] at H
   have c4b0 : (a0_0 == 0) = false:=beq_eq_false_iff_ne.mpr c4
   have c4b1 : (a0_0 != 0) = true:=bne_iff_ne.mpr c4
   by_cases c9 : (fmulOk 4616189618054758400 a0_2) = true
   ·rw [if_pos c9] at H
    have c9b0:=eq_true c9
    have c9b1 : decide ((fmulOk 4616189618054758400 a0_2) = true) = true:=decide_eq_true c9
    clear c9
    by_cases c10 : (faddOk a0_1 (fmul 4616189618054758400 a0_2)) = true
    ·rw [if_pos c10] at H
     have c10b0:=eq_true c10
     have c10b1 : decide ((faddOk a0_1 (fmul 4616189618054758400 a0_2)) = true) = true:=decide_eq_true c10
     clear c10
     replace H:=Option.bind_eq_some_iff.mp H
     obtain ⟨⟨t223,t224⟩,A110,H⟩:=H
     replace H : (some (t223,t224)) = some (r1,r2):=H
     have A11:=Aside0.mk A110
     clear A110
     simp only [Option.some.injEq,Prod.mk.injEq] at H
     obtain ⟨rfl,rfl⟩:=H
     go_enter Try.func20,Try.ntmps20
     go_wp2_with (first|((with_reducible refine gate_dst (N:=1) rfl ?_);refine box_event ?hg (N:=1) ?hd (cs:=#[.int .i64 a0_0,.float .f64 a0_1,.float .f64 a0_2]) (t:=24) ?hr ?_;(case hd => rfl);(case hg => rfl);(case hr => first|(go_simp;done)|(go_simp;rfl));intro G221 hg w12 hbox hb;have n0_:=Aside0.mk (below_step (by repeat (first|(with_reducible first|exact HB.1|apply bwA|apply bwN|apply bw1)|exact HB.1)) hb);have n1_:=Aside0.mk (hbox);have n2_:=Aside0.mk ((by rw [hg];exact (below_size (by repeat (first|(with_reducible first|exact HB.1|apply bwA|apply bwN|apply bw1)|exact HB.1))) : w.heap.size ≤ G221));have n3_:=Aside0.mk ((by rw [hg];exact (below_size (by repeat (first|(with_reducible first|exact HB.1|apply bwA|apply bwN|apply bw1)|exact HB.1))) : w.heap.size ≤ G221));clear HB;have HB:=n0_;have K221:=n1_;have GW221:=n2_;have GE221:=n3_;clear n0_ n1_ n2_ n3_;clear hb hbox hg;have hcz13_0 : w12.cell? ⟨G221,0,none⟩ = some (.int .i64 a0_0):=(bC K221.1 0).trans rfl;have hcz13_1 : w12.cell? ⟨G221,1,none⟩ = some (.float .f64 a0_1):=(bC K221.1 1).trans rfl;have hcz13_2 : w12.cell? ⟨G221,2,none⟩ = some (.float .f64 a0_2):=(bC K221.1 2).trans rfl;have hfz13_0:=bF K221.1 0;have hfz13_1:=bF K221.1 1;have hfz13_2:=bF K221.1 2)|((with_reducible refine gate_callee (f:=13) rfl ?_);refine goesL_ (some 7) rfl rfl Try.func13 (by kernel_rfl) rfl #[.agg #[.int .i64 a0_0,.float .f64 a0_1,.float .f64 a0_2]] rfl (by (try simp only [List.map_toArray,List.map_cons,List.map_nil]);first|done|rfl|(simp only [List.length_drop,List.length_take];rfl)) ?_;(with_reducible refine (beaconref05_Check.calls k a0_0 a0_1 a0_2 t222 _ A2.out).mono ?_);rintro e w14 ⟨rfl,hb⟩;refine ⟨_,rfl,?_⟩;have n0_:=Aside0.mk (bB (g:=G221) (o:=.cells #[.int .i64 a0_0,.float .f64 a0_1,.float .f64 a0_2] 24 (0,0)) (by (with_reducible repeat first|apply bN|apply bD|apply bA);exact K221.1) hb);have n1_:=Aside0.mk (below_step (by repeat (first|(with_reducible first|exact HB.1|apply bwA|apply bwN|apply bw1|refine bS ?_ GE221.1)|exact HB.1)) hb);clear K221;clear HB;have K221:=n0_;have HB:=n1_;clear n0_ n1_;(try clear hb);(try clear hb2);(try clear hk);(try clear hi);have hcz15_0 : w14.cell? ⟨G221,0,none⟩ = some (.int .i64 a0_0):=(bC K221.1 0).trans rfl;have hcz15_1 : w14.cell? ⟨G221,1,none⟩ = some (.float .f64 a0_1):=(bC K221.1 1).trans rfl;have hcz15_2 : w14.cell? ⟨G221,2,none⟩ = some (.float .f64 a0_2):=(bC K221.1 2).trans rfl;have hfz15_0:=bF K221.1 0;have hfz15_1:=bF K221.1 1;have hfz15_2:=bF K221.1 2)|((with_reducible refine gate_callee (f:=35) rfl ?_);refine goesL_ (some 21) rfl rfl Try.func35 (by kernel_rfl) rfl #[.float .f64 (fadd a0_1 (fmul 4616189618054758400 a0_2))] rfl (by (try simp only [List.map_toArray,List.map_cons,List.map_nil]);first|done|rfl|(simp only [List.length_drop,List.length_take];rfl)) ?_;(with_reducible refine (beaconref01_Round.calls k (fadd a0_1 (fmul 4616189618054758400 a0_2)) t223 t224 _ A11.out).mono ?_);rintro e w' ⟨rfl,⟨nd,rfl⟩⟩;refine ⟨_,rfl,?_⟩))
     go_ret2
     exact ⟨by first|rfl|(simp [errW_none,errW_some] <;> rfl)|(simp [*,errW_none,errW_some] <;> rfl),by repeat (first|(with_reducible first|exact HB.1|apply bwA|apply bwN|apply bw1|refine bS ?_ GE221.1)|exact HB.1)⟩
    ·rw [if_neg c10] at H
     exact absurd H (by simp)
   ·rw [if_neg c9] at H
    exact absurd H (by simp)
 ·rw [if_neg c3] at H
  have c3b0 : (t222 == 0) = false:=beq_eq_false_iff_ne.mpr c3
  have c3b1 : (t222 != 0) = true:=bne_iff_ne.mpr c3
  simp only [Option.some.injEq,Prod.mk.injEq] at H
  obtain ⟨rfl,rfl⟩:=H
  go_enter Try.func20,Try.ntmps20
  go_wp2_with (first|((with_reducible refine gate_dst (N:=1) rfl ?_);refine box_event ?hg (N:=1) ?hd (cs:=#[.int .i64 a0_0,.float .f64 a0_1,.float .f64 a0_2]) (t:=24) ?hr ?_;(case hd => rfl);(case hg => rfl);(case hr => first|(go_simp;done)|(go_simp;rfl));intro G221 hg w16 hbox hb;have n0_:=Aside0.mk (below_step (by repeat (first|(with_reducible first|exact HB.1|apply bwA|apply bwN|apply bw1)|exact HB.1)) hb);have n1_:=Aside0.mk (hbox);have n2_:=Aside0.mk ((by rw [hg];exact (below_size (by repeat (first|(with_reducible first|exact HB.1|apply bwA|apply bwN|apply bw1)|exact HB.1))) : w.heap.size ≤ G221));have n3_:=Aside0.mk ((by rw [hg];exact (below_size (by repeat (first|(with_reducible first|exact HB.1|apply bwA|apply bwN|apply bw1)|exact HB.1))) : w.heap.size ≤ G221));clear HB;have HB:=n0_;have K221:=n1_;have GW221:=n2_;have GE221:=n3_;clear n0_ n1_ n2_ n3_;clear hb hbox hg;have hcz17_0 : w16.cell? ⟨G221,0,none⟩ = some (.int .i64 a0_0):=(bC K221.1 0).trans rfl;have hcz17_1 : w16.cell? ⟨G221,1,none⟩ = some (.float .f64 a0_1):=(bC K221.1 1).trans rfl;have hcz17_2 : w16.cell? ⟨G221,2,none⟩ = some (.float .f64 a0_2):=(bC K221.1 2).trans rfl;have hfz17_0:=bF K221.1 0;have hfz17_1:=bF K221.1 1;have hfz17_2:=bF K221.1 2)|((with_reducible refine gate_callee (f:=13) rfl ?_);refine goesL_ (some 7) rfl rfl Try.func13 (by kernel_rfl) rfl #[.agg #[.int .i64 a0_0,.float .f64 a0_1,.float .f64 a0_2]] rfl (by (try simp only [List.map_toArray,List.map_cons,List.map_nil]);first|done|rfl|(simp only [List.length_drop,List.length_take];rfl)) ?_;(with_reducible refine (beaconref05_Check.calls k a0_0 a0_1 a0_2 t222 _ A2.out).mono ?_);rintro e w18 ⟨rfl,hb⟩;refine ⟨_,rfl,?_⟩;have n0_:=Aside0.mk (bB (g:=G221) (o:=.cells #[.int .i64 a0_0,.float .f64 a0_1,.float .f64 a0_2] 24 (0,0)) (by (with_reducible repeat first|apply bN|apply bD|apply bA);exact K221.1) hb);have n1_:=Aside0.mk (below_step (by repeat (first|(with_reducible first|exact HB.1|apply bwA|apply bwN|apply bw1|refine bS ?_ GE221.1)|exact HB.1)) hb);clear K221;clear HB;have K221:=n0_;have HB:=n1_;clear n0_ n1_;(try clear hb);(try clear hb2);(try clear hk);(try clear hi)))
  go_ret2
  exact ⟨by first|rfl|(simp [errW_none,errW_some] <;> rfl)|(simp [*,errW_none,errW_some] <;> rfl),by repeat (first|(with_reducible first|exact HB.1|apply bwA|apply bwN|apply bw1|refine bS ?_ GE221.1)|exact HB.1)⟩

end Go.Proofs.Ytajejidnidomgaa.XR
