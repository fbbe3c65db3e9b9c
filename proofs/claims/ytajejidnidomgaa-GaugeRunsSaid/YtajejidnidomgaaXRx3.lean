/- Go functions of this seat as Lean functions, with proofs that the calls come to them. (Written by xprint.py, a program of this session, over the kit's print.) -/
import Derived.Test.YtajejidnidomgaaXRx0
import Derived.Test.YtajejidnidomgaaXRx2
namespace Go.Proofs.Ytajejidnidomgaa.XR
open Go.RowKit Go.Proofs.YtajejidnidomgaaW.PrintWords Go.Proofs.YtajejidnidomgaaW.PrintLast Go.Proofs.YtajejidnidomgaaW.PrintMore
attribute [local go_sem] max2_int min2_int max_two min_two max_three min_three max_four min_four   -- for this text's walks alone
set_option linter.unusedVariables false
set_option linter.unusedSimpArgs false
open Go.Proofs.YtajejidnidomgaaW.PrintWords renaming blk_drewN → bN, blk_drew → bD, blk_alloc → bA, below_set → bS, blk_frozen → bF, blk_cell → bC, cell_far → cF, blk_far → bZ, blk_below → bB, pw_below_drewN → bwN, below_drew1 → bw1, below_alloc → bwA

/-! ### gauge_Hold: function 15 -/
def gauge_Hold.j0 : Nat → Nat → Nat → Bool → Option (Nat × Int)
 | 0, _, _, _ => none
 | k + 1, x0, x1, x13 => if x13 = true then (some (0, 1)) else (if (fsubOk x1 x0) = true then ((math_Abs.f (fsub x1 x0)).bind fun t136 => (if (fmulOk t136 4620693217682128896) = true then (if (fle (fmul t136 4620693217682128896) x0) = true then (some (x0, 0)) else (some (x1, 0))) else (none))) else (none))
def gauge_Hold.f (k : Nat) (a0 : Nat) (a1 : Nat) : Option (Nat × Int) := (metric_Weight.f a0).bind fun t134 => (if t134 = 0 then ((metric_Weight.f a1).bind fun t135 => (gauge_Hold.j0 k a0 a1 (t135 != 0))) else (gauge_Hold.j0 k a0 a1 true))
theorem gauge_Hold.mono_l : ∀ k, (∀ y0 y1 y2, LeO (gauge_Hold.j0 k y0 y1 y2) (gauge_Hold.j0 (k + 1) y0 y1 y2))
 | 0 => fun _ _ _ r h => by simp [gauge_Hold.j0] at h
 | k + 1 => by
  have ih0:=gauge_Hold.mono_l k
  ·intro y0 y1 y2
   unfold gauge_Hold.j0
   repeat' first
   | (with_reducible exact ih0 _ _ _)
   | (with_reducible exact LeO.refl _)
   | (with_reducible exact LeO.none _)
   | (with_reducible refine LeO.ite ?_ ?_)
   | (with_reducible refine LeO.bind ?_ (fun _ => ?_))
   | exact ih0 _ _ _
   | exact LeO.none _
   | refine LeO.ite ?_ ?_
   | refine LeO.bind ?_ (fun _ => ?_)
theorem gauge_Hold.mono : ∀ a0 a1 k, LeO (gauge_Hold.f k a0 a1) (gauge_Hold.f (k + 1) a0 a1) := by
 intro a0 a1 k
 have ih0:=gauge_Hold.mono_l k
 unfold gauge_Hold.f
 repeat' first
   | (with_reducible exact ih0 _ _ _)
   | (with_reducible exact LeO.refl _)
   | (with_reducible exact LeO.none _)
   | (with_reducible refine LeO.ite ?_ ?_)
   | (with_reducible refine LeO.bind ?_ (fun _ => ?_))
   | exact ih0 _ _ _
   | exact LeO.none _
   | refine LeO.ite ?_ ?_
   | refine LeO.bind ?_ (fun _ => ?_)
set_option maxHeartbeats 2500000 in
set_option maxRecDepth 100000 in
theorem gauge_Hold.calls (k : Nat) (a0 : Nat) (a1 : Nat) (r1 : Nat) (r2 : Int) (w : World) (h : gauge_Hold.f k a0 a1 = some (r1, r2)) :
  Calls Try.prog 15 #[.float .f64 a0,.float .f64 a1] w fun e w' => e = .returned (.tuple #[.float .f64 r1,.int .i64 r2]) ∧ Drawn0 w w':=by
 have H : ((metric_Weight.f a0).bind fun t134 => (if t134 = 0 then ((metric_Weight.f a1).bind fun t135 => (gauge_Hold.j0 k a0 a1 (t135 != 0))) else (gauge_Hold.j0 k a0 a1 true))) = some (r1,r2):=h
 clear h
 have HC3:=Aside0.mk H
 clear H
 go_enter Try.func15,Try.ntmps15
 go_upto_region 1 with (fail)
 go_cut [13] (fun v13 wc => ∃ (kq : Nat) (x13_2 : Bool),v13 = .bool x13_2 ∧ Aside0 (gauge_Hold.j0 kq a0 a1 x13_2 = some (r1,r2)) ∧ Aside0 (kq ≤ k) ∧ Drawn0 w wc)
 case first =>
  have H:=HC3.out
  clear HC3
  replace H:=Option.bind_eq_some_iff.mp H
  obtain ⟨t134,A40,H⟩:=H
  replace H : (if t134 = 0 then ((metric_Weight.f a1).bind fun t135 => (gauge_Hold.j0 k a0 a1 (t135 != 0))) else (gauge_Hold.j0 k a0 a1 true)) = some (r1,r2):=H
  have A4:=Aside0.mk A40
  clear A40
  by_cases c5 : t134 = 0
  ·rw [if_pos c5] at H
   have c5b0 : (t134 == 0) = true:=beq_iff_eq.mpr c5
   have c5b1 : (t134 != 0) = false:=bne_eq_false_iff_eq.mpr c5
   clear c5
   (first|rw [c5b0]|(simp only [i64_w,i32_w];rw [c5b0])|skip)
   replace H:=Option.bind_eq_some_iff.mp H
   obtain ⟨t135,A60,H⟩:=H
   replace H : (gauge_Hold.j0 k a0 a1 (t135 != 0)) = some (r1,r2):=H
   have A6:=Aside0.mk A60
   clear A60
   have H':=Aside0.mk H
   clear H
   go_wp2_with (first|((with_reducible refine gate_callee (f:=31) rfl ?_);refine goesL_ (some 7) rfl rfl Try.func31 (by kernel_rfl) rfl #[.float .f64 a0] rfl (by (try simp only [List.map_toArray,List.map_cons,List.map_nil]);first|done|rfl|(simp only [List.length_drop,List.length_take];rfl)) ?_;(with_reducible refine (metric_Weight.calls a0 t134 _ A4.out).mono ?_);rintro e w' ⟨rfl,⟨nd,rfl⟩⟩;refine ⟨_,rfl,?_⟩)|(go_at_call 31;(with_reducible refine (metric_Weight.calls a1 t135 _ A6.out).mono ?_);rintro e w' ⟨rfl,⟨nd,rfl⟩⟩))
   go_meet
   case rel => exact ⟨_,((t135 != 0)),(by first|rfl|(simp;done)|(simp [*];done)),H',⟨by first|omega|exact Nat.le_refl _⟩,by repeat (first|exact Drawn0.refl _|apply Drawn0.step)⟩
  ·rw [if_neg c5] at H
   have c5b0 : (t134 == 0) = false:=beq_eq_false_iff_ne.mpr c5
   have c5b1 : (t134 != 0) = true:=bne_iff_ne.mpr c5
   (first|rw [c5b0]|(simp only [i64_w,i32_w];rw [c5b0])|skip)
   have H':=Aside0.mk H
   clear H
   go_wp2_with (first|((with_reducible refine gate_callee (f:=31) rfl ?_);refine goesL_ (some 7) rfl rfl Try.func31 (by kernel_rfl) rfl #[.float .f64 a0] rfl (by (try simp only [List.map_toArray,List.map_cons,List.map_nil]);first|done|rfl|(simp only [List.length_drop,List.length_take];rfl)) ?_;(with_reducible refine (metric_Weight.calls a0 t134 _ A4.out).mono ?_);rintro e w' ⟨rfl,⟨nd,rfl⟩⟩;refine ⟨_,rfl,?_⟩))
   go_meet
   case rel => exact ⟨_,(true),(by first|rfl|(simp;done)|(simp [*];done)),H',⟨by first|omega|exact Nat.le_refl _⟩,by repeat (first|exact Drawn0.refl _|apply Drawn0.step)⟩
 case rest =>
  clear HC3
  try clear c1
  try clear p2
  try clear c3
  try clear c5
  try clear c5b0
  try clear c5b1
  obtain ⟨kq,x13_2,rfl,HA,HJ2,⟨mc2,rfl⟩⟩:=hcut
  cases kq with
  | zero => exact absurd HA.out (by simp [gauge_Hold.j0])
  | succ kj2 =>
   have H:=HA.out
   clear HA
   simp only [gauge_Hold.j0] at H
   by_cases c7 : x13_2 = true
   ·subst c7
    have H1 : (some (0,1)) = some (r1,r2):=by rw [if_pos rfl] at H;exact H
    clear H
    have H:=H1
    clear H1
    simp only [Option.some.injEq,Prod.mk.injEq] at H
    obtain ⟨rfl,rfl⟩:=H
    go_wp2
    go_ret2
    exact ⟨by first|rfl|(simp;done)|(simp [*];done),by repeat (first|exact Drawn0.refl _|apply Drawn0.step)⟩
   ·replace c7:=Bool.eq_false_iff.mpr c7
    subst c7
    have H1 : (if (fsubOk a1 a0) = true then ((math_Abs.f (fsub a1 a0)).bind fun t136 => (if (fmulOk t136 4620693217682128896) = true then (if (fle (fmul t136 4620693217682128896) a0) = true then (some (a0,0)) else (some (a1,0))) else (none))) else (none)) = some (r1,r2):=by rw [if_neg (show ¬ (false = true) by decide)] at H;exact H
    clear H
    have H:=H1
    clear H1
    by_cases c8 : (fsubOk a1 a0) = true
    ·rw [if_pos c8] at H
     have c8b0:=eq_true c8
     have c8b1 : decide ((fsubOk a1 a0) = true) = true:=decide_eq_true c8
     clear c8
     replace H:=Option.bind_eq_some_iff.mp H
     obtain ⟨t136,A90,H⟩:=H
     replace H : (if (fmulOk t136 4620693217682128896) = true then (if (fle (fmul t136 4620693217682128896) a0) = true then (some (a0,0)) else (some (a1,0))) else (none)) = some (r1,r2):=H
     have A9:=Aside0.mk A90
     clear A90
     by_cases c10 : (fmulOk t136 4620693217682128896) = true
     ·rw [if_pos c10] at H
      have c10b0:=eq_true c10
      have c10b1 : decide ((fmulOk t136 4620693217682128896) = true) = true:=decide_eq_true c10
      clear c10
      by_cases c11 : (fle (fmul t136 4620693217682128896) a0) = true
      ·rw [if_pos c11] at H
       have c11b0 : (fle (fmul t136 4620693217682128896) a0) = true:=c11
       clear c11
       simp only [Option.some.injEq,Prod.mk.injEq] at H
       obtain ⟨rfl,rfl⟩:=H
       go_wp2_with (first|((with_reducible refine gate_callee (f:=25) rfl ?_);refine goesL_ (some 17) rfl rfl Try.func25 (by kernel_rfl) rfl #[.float .f64 (fsub a1 a0)] rfl (by (try simp only [List.map_toArray,List.map_cons,List.map_nil]);first|done|rfl|(simp only [List.length_drop,List.length_take];rfl)) ?_;(with_reducible refine (math_Abs.calls (fsub a1 a0) t136 _ A9.out).mono ?_);rintro e w' ⟨rfl,⟨nd,rfl⟩⟩;refine ⟨_,rfl,?_⟩))
       go_ret2
       exact ⟨by first|rfl|(simp;done)|(simp [*];done),by repeat (first|exact Drawn0.refl _|apply Drawn0.step)⟩
      ·rw [if_neg c11] at H
       have c11b0 : (fle (fmul t136 4620693217682128896) a0) = false:=by simpa using c11
       clear c11
       simp only [Option.some.injEq,Prod.mk.injEq] at H
       obtain ⟨rfl,rfl⟩:=H
       go_wp2_with (first|((with_reducible refine gate_callee (f:=25) rfl ?_);refine goesL_ (some 17) rfl rfl Try.func25 (by kernel_rfl) rfl #[.float .f64 (fsub a1 a0)] rfl (by (try simp only [List.map_toArray,List.map_cons,List.map_nil]);first|done|rfl|(simp only [List.length_drop,List.length_take];rfl)) ?_;(with_reducible refine (math_Abs.calls (fsub a1 a0) t136 _ A9.out).mono ?_);rintro e w' ⟨rfl,⟨nd,rfl⟩⟩;refine ⟨_,rfl,?_⟩))
       go_ret2
       exact ⟨by first|rfl|(simp;done)|(simp [*];done),by repeat (first|exact Drawn0.refl _|apply Drawn0.step)⟩
     ·rw [if_neg c10] at H
      exact absurd H (by simp)
    ·rw [if_neg c8] at H
     exact absurd H (by simp)

/-! ### metric_Round: function 33 -/
def metric_Round.f (a0 : Nat) : Option (Nat × Int) := (math_IsNaN.f a0).bind fun t137 => (if t137 = true then (some (0, 10)) else (if (fle a0 4607182418800017408) = true then (some (4607182418800017408, 0)) else (if (fle 4697254411347427328 a0) = true then (some (4697254411347427328, 0)) else (if (fmulOk a0 4616189618054758400) = true then (if (froundOk (fmul a0 4616189618054758400)) = true then (if (fdivOk (fround .even (fmul a0 4616189618054758400)) 4616189618054758400) = true then (some (fdiv (fround .even (fmul a0 4616189618054758400)) 4616189618054758400, 0)) else (none)) else (none)) else (none)))))
set_option maxHeartbeats 2500000 in
set_option maxRecDepth 100000 in
theorem metric_Round.calls (a0 : Nat) (r1 : Nat) (r2 : Int) (w : World) (h : metric_Round.f a0 = some (r1, r2)) :
  Calls Try.prog 33 #[.float .f64 a0] w fun e w' => e = .returned (.tuple #[.float .f64 r1,.int .i64 r2]) ∧ Drawn0 w w':=by
 have H : ((math_IsNaN.f a0).bind fun t137 => (if t137 = true then (some (0,10)) else (if (fle a0 4607182418800017408) = true then (some (4607182418800017408,0)) else (if (fle 4697254411347427328 a0) = true then (some (4697254411347427328,0)) else (if (fmulOk a0 4616189618054758400) = true then (if (froundOk (fmul a0 4616189618054758400)) = true then (if (fdivOk (fround .even (fmul a0 4616189618054758400)) 4616189618054758400) = true then (some (fdiv (fround .even (fmul a0 4616189618054758400)) 4616189618054758400,0)) else (none)) else (none)) else (none)))))) = some (r1,r2):=h
 clear h
 replace H:=Option.bind_eq_some_iff.mp H
 obtain ⟨t137,A20,H⟩:=H
 replace H : (if t137 = true then (some (0,10)) else (if (fle a0 4607182418800017408) = true then (some (4607182418800017408,0)) else (if (fle 4697254411347427328 a0) = true then (some (4697254411347427328,0)) else (if (fmulOk a0 4616189618054758400) = true then (if (froundOk (fmul a0 4616189618054758400)) = true then (if (fdivOk (fround .even (fmul a0 4616189618054758400)) 4616189618054758400) = true then (some (fdiv (fround .even (fmul a0 4616189618054758400)) 4616189618054758400,0)) else (none)) else (none)) else (none))))) = some (r1,r2):=H
 have A2:=Aside0.mk A20
 clear A20
 by_cases c3 : t137 = true
 ·subst c3
  have H1 : (some (0,10)) = some (r1,r2):=by rw [if_pos rfl] at H;exact H
  clear H
  have H:=H1
  clear H1
  simp only [Option.some.injEq,Prod.mk.injEq] at H
  obtain ⟨rfl,rfl⟩:=H
  go_enter Try.func33,Try.ntmps33
  go_wp2_with (first|((with_reducible refine gate_callee (f:=37) rfl ?_);refine goesL_ (some 6) rfl rfl Try.func37 (by kernel_rfl) rfl #[.float .f64 a0] rfl (by (try simp only [List.map_toArray,List.map_cons,List.map_nil]);first|done|rfl|(simp only [List.length_drop,List.length_take];rfl)) ?_;(with_reducible refine (math_IsNaN.calls a0 true _ A2.out).mono ?_);rintro e w' ⟨rfl,⟨nd,rfl⟩⟩;refine ⟨_,rfl,?_⟩))
  go_ret2
  exact ⟨by first|rfl|(simp;done)|(simp [*];done),by repeat (first|exact Drawn0.refl _|apply Drawn0.step)⟩
 ·replace c3:=Bool.eq_false_iff.mpr c3
  subst c3
  have H1 : (if (fle a0 4607182418800017408) = true then (some (4607182418800017408,0)) else (if (fle 4697254411347427328 a0) = true then (some (4697254411347427328,0)) else (if (fmulOk a0 4616189618054758400) = true then (if (froundOk (fmul a0 4616189618054758400)) = true then (if (fdivOk (fround .even (fmul a0 4616189618054758400)) 4616189618054758400) = true then (some (fdiv (fround .even (fmul a0 4616189618054758400)) 4616189618054758400,0)) else (none)) else (none)) else (none)))) = some (r1,r2):=by rw [if_neg (show ¬ (false = true) by decide)] at H;exact H
  clear H
  have H:=H1
  clear H1
  by_cases c4 : (fle a0 4607182418800017408) = true
  ·rw [if_pos c4] at H
   have c4b0 : (fle a0 4607182418800017408) = true:=c4
   clear c4
   simp only [Option.some.injEq,Prod.mk.injEq] at H
   obtain ⟨rfl,rfl⟩:=H
   go_enter Try.func33,Try.ntmps33
   go_wp2_with (first|((with_reducible refine gate_callee (f:=37) rfl ?_);refine goesL_ (some 6) rfl rfl Try.func37 (by kernel_rfl) rfl #[.float .f64 a0] rfl (by (try simp only [List.map_toArray,List.map_cons,List.map_nil]);first|done|rfl|(simp only [List.length_drop,List.length_take];rfl)) ?_;(with_reducible refine (math_IsNaN.calls a0 false _ A2.out).mono ?_);rintro e w' ⟨rfl,⟨nd,rfl⟩⟩;refine ⟨_,rfl,?_⟩))
   go_ret2
   exact ⟨by first|rfl|(simp;done)|(simp [*];done),by repeat (first|exact Drawn0.refl _|apply Drawn0.step)⟩
  ·rw [if_neg c4] at H
   have c4b0 : (fle a0 4607182418800017408) = false:=by simpa using c4
   clear c4
   by_cases c5 : (fle 4697254411347427328 a0) = true
   ·rw [if_pos c5] at H
    have c5b0 : (fle 4697254411347427328 a0) = true:=c5
    clear c5
    simp only [Option.some.injEq,Prod.mk.injEq] at H
    obtain ⟨rfl,rfl⟩:=H
    go_enter Try.func33,Try.ntmps33
    go_wp2_with (first|((with_reducible refine gate_callee (f:=37) rfl ?_);refine goesL_ (some 6) rfl rfl Try.func37 (by kernel_rfl) rfl #[.float .f64 a0] rfl (by (try simp only [List.map_toArray,List.map_cons,List.map_nil]);first|done|rfl|(simp only [List.length_drop,List.length_take];rfl)) ?_;(with_reducible refine (math_IsNaN.calls a0 false _ A2.out).mono ?_);rintro e w' ⟨rfl,⟨nd,rfl⟩⟩;refine ⟨_,rfl,?_⟩))
    go_ret2
    exact ⟨by first|rfl|(simp;done)|(simp [*];done),by repeat (first|exact Drawn0.refl _|apply Drawn0.step)⟩
   ·rw [if_neg c5] at H
    have c5b0 : (fle 4697254411347427328 a0) = false:=by simpa using c5
    clear c5
    by_cases c6 : (fmulOk a0 4616189618054758400) = true
    ·rw [if_pos c6] at H
     have c6b0:=eq_true c6
     have c6b1 : decide ((fmulOk a0 4616189618054758400) = true) = true:=decide_eq_true c6
     clear c6
     by_cases c7 : (froundOk (fmul a0 4616189618054758400)) = true
     ·rw [if_pos c7] at H
      have c7b0:=eq_true c7
      have c7b1 : decide ((froundOk (fmul a0 4616189618054758400)) = true) = true:=decide_eq_true c7
      clear c7
      by_cases c8 : (fdivOk (fround .even (fmul a0 4616189618054758400)) 4616189618054758400) = true
      ·rw [if_pos c8] at H
       have c8b0:=eq_true c8
       have c8b1 : decide ((fdivOk (fround .even (fmul a0 4616189618054758400)) 4616189618054758400) = true) = true:=decide_eq_true c8
       clear c8
       simp only [Option.some.injEq,Prod.mk.injEq] at H
       obtain ⟨rfl,rfl⟩:=H
       go_enter Try.func33,Try.ntmps33
       go_wp2_with (first|((with_reducible refine gate_callee (f:=37) rfl ?_);refine goesL_ (some 6) rfl rfl Try.func37 (by kernel_rfl) rfl #[.float .f64 a0] rfl (by (try simp only [List.map_toArray,List.map_cons,List.map_nil]);first|done|rfl|(simp only [List.length_drop,List.length_take];rfl)) ?_;(with_reducible refine (math_IsNaN.calls a0 false _ A2.out).mono ?_);rintro e w' ⟨rfl,⟨nd,rfl⟩⟩;refine ⟨_,rfl,?_⟩))
       go_ret2
       exact ⟨by first|rfl|(simp;done)|(simp [*];done),by repeat (first|exact Drawn0.refl _|apply Drawn0.step)⟩
      ·rw [if_neg c8] at H
       exact absurd H (by simp)
     ·rw [if_neg c7] at H
      exact absurd H (by simp)
    ·rw [if_neg c6] at H
     exact absurd H (by simp)

/-! ### gauge_Cost: function 18 -/
def gauge_Cost.f (a0_0 : Int) (a0_1 : Nat) (a0_2 : Nat) : Option (Nat × Int) := (gauge_Check.f a0_0 a0_1 a0_2).bind fun t139 => (if t139 = 0 then (if a0_0 = 0 then (some (0, 4)) else (if (fmulOk a0_2 4616189618054758400) = true then (if (faddOk a0_1 (fmul a0_2 4616189618054758400)) = true then ((metric_Round.f (fadd a0_1 (fmul a0_2 4616189618054758400))).bind fun bt140 => (some (bt140.1, bt140.2))) else (none)) else (none))) else (some (0, t139)))
set_option maxHeartbeats 2500000 in
set_option maxRecDepth 100000 in
theorem gauge_Cost.calls (a0_0 : Int) (a0_1 : Nat) (a0_2 : Nat) (r1 : Nat) (r2 : Int) (w : World) (h : gauge_Cost.f a0_0 a0_1 a0_2 = some (r1, r2)) :
  Calls Try.prog 18 #[.agg #[.int .i64 a0_0,.float .f64 a0_1,.float .f64 a0_2]] w fun e w' => e = .returned (.tuple #[.float .f64 r1,.int .i64 r2]) ∧ Below w.heap.size w w':=by
 have hu24:=Try.underlying24
 have HB:=Aside0.mk (Below.refl w.heap.size w)
 have H : ((gauge_Check.f a0_0 a0_1 a0_2).bind fun t139 => (if t139 = 0 then (if a0_0 = 0 then (some (0,4)) else (if (fmulOk a0_2 4616189618054758400) = true then (if (faddOk a0_1 (fmul a0_2 4616189618054758400)) = true then ((metric_Round.f (fadd a0_1 (fmul a0_2 4616189618054758400))).bind fun bt140 => (some (bt140.1,bt140.2))) else (none)) else (none))) else (some (0,t139)))) = some (r1,r2):=h
 clear h
 replace H:=Option.bind_eq_some_iff.mp H
 obtain ⟨t139,A20,H⟩:=H
 replace H : (if t139 = 0 then (if a0_0 = 0 then (some (0,4)) else (if (fmulOk a0_2 4616189618054758400) = true then (if (faddOk a0_1 (fmul a0_2 4616189618054758400)) = true then ((metric_Round.f (fadd a0_1 (fmul a0_2 4616189618054758400))).bind fun bt140 => (some (bt140.1,bt140.2))) else (none)) else (none))) else (some (0,t139))) = some (r1,r2):=H
 have A2:=Aside0.mk A20
 clear A20
 by_cases c3 : t139 = 0
 ·rw [if_pos c3] at H
  have c3b0 : (t139 == 0) = true:=beq_iff_eq.mpr c3
  have c3b1 : (t139 != 0) = false:=bne_eq_false_iff_eq.mpr c3
  clear c3
  by_cases c4 : a0_0 = 0
  ·rw [if_pos c4] at H
   have c4b0 : (a0_0 == 0) = true:=beq_iff_eq.mpr c4
   have c4b1 : (a0_0 != 0) = false:=bne_eq_false_iff_eq.mpr c4
   clear c4
   simp only [Option.some.injEq,Prod.mk.injEq] at H
   obtain ⟨rfl,rfl⟩:=H
   go_enter Try.func18,Try.ntmps18
   go_wp2_with (first|((with_reducible refine gate_dst (N:=1) rfl ?_);refine box_event ?hg (N:=1) ?hd (cs:=#[.int .i64 a0_0,.float .f64 a0_1,.float .f64 a0_2]) (t:=24) ?hr ?_;(case hd => rfl);(case hg => rfl);(case hr => first|(go_simp;done)|(go_simp;rfl));intro G138 hg w5 hbox hb;have n0_:=Aside0.mk (below_step (by repeat (first|(with_reducible first|exact HB.1|apply bwA|apply bwN|apply bw1)|exact HB.1)) hb);have n1_:=Aside0.mk (hbox);have n2_:=Aside0.mk ((by rw [hg];exact (below_size (by repeat (first|(with_reducible first|exact HB.1|apply bwA|apply bwN|apply bw1)|exact HB.1))) : w.heap.size ≤ G138));have n3_:=Aside0.mk ((by rw [hg];exact (below_size (by repeat (first|(with_reducible first|exact HB.1|apply bwA|apply bwN|apply bw1)|exact HB.1))) : w.heap.size ≤ G138));clear HB;have HB:=n0_;have K138:=n1_;have GW138:=n2_;have GE138:=n3_;clear n0_ n1_ n2_ n3_;clear hb hbox hg;have hcz6_0 : w5.cell? ⟨G138,0,none⟩ = some (.int .i64 a0_0):=(bC K138.1 0).trans rfl;have hcz6_1 : w5.cell? ⟨G138,1,none⟩ = some (.float .f64 a0_1):=(bC K138.1 1).trans rfl;have hcz6_2 : w5.cell? ⟨G138,2,none⟩ = some (.float .f64 a0_2):=(bC K138.1 2).trans rfl;have hfz6_0:=bF K138.1 0;have hfz6_1:=bF K138.1 1;have hfz6_2:=bF K138.1 2)|((with_reducible refine gate_callee (f:=12) rfl ?_);refine goesL_ (some 6) rfl rfl Try.func12 (by kernel_rfl) rfl #[.agg #[.int .i64 a0_0,.float .f64 a0_1,.float .f64 a0_2]] rfl (by (try simp only [List.map_toArray,List.map_cons,List.map_nil]);first|done|rfl|(simp only [List.length_drop,List.length_take];rfl)) ?_;(with_reducible refine (gauge_Check.calls a0_0 a0_1 a0_2 t139 _ A2.out).mono ?_);rintro e w7 ⟨rfl,hb⟩;refine ⟨_,rfl,?_⟩;have n0_:=Aside0.mk (bB (g:=G138) (o:=.cells #[.int .i64 a0_0,.float .f64 a0_1,.float .f64 a0_2] 24 (0,0)) (by (with_reducible repeat first|apply bN|apply bD|apply bA);exact K138.1) hb);have n1_:=Aside0.mk (below_step (by repeat (first|(with_reducible first|exact HB.1|apply bwA|apply bwN|apply bw1|refine bS ?_ GE138.1)|exact HB.1)) hb);clear K138;clear HB;have K138:=n0_;have HB:=n1_;clear n0_ n1_;(try clear hb);(try clear hb2);(try clear hk);(try clear hi);have hcz8_0 : w7.cell? ⟨G138,0,none⟩ = some (.int .i64 a0_0):=(bC K138.1 0).trans rfl;have hcz8_1 : w7.cell? ⟨G138,1,none⟩ = some (.float .f64 a0_1):=(bC K138.1 1).trans rfl;have hcz8_2 : w7.cell? ⟨G138,2,none⟩ = some (.float .f64 a0_2):=(bC K138.1 2).trans rfl;have hfz8_0:=bF K138.1 0;have hfz8_1:=bF K138.1 1;have hfz8_2:=bF K138.1 2))
   go_ret2
   exact ⟨by first|rfl|(simp [errW_none,errW_some] <;> rfl)|(simp [*,errW_none,errW_some] <;> rfl),by repeat (first|(with_reducible first|exact HB.1|apply bwA|apply bwN|apply bw1|refine bS ?_ GE138.1)|exact HB.1)⟩
  ·rw [if_neg c4] at H
   have c4b0 : (a0_0 == 0) = false:=beq_eq_false_iff_ne.mpr c4
   have c4b1 : (a0_0 != 0) = true:=bne_iff_ne.mpr c4
   by_cases c9 : (fmulOk a0_2 4616189618054758400) = true
   ·rw [if_pos c9] at H
    have c9b0:=eq_true c9
    have c9b1 : decide ((fmulOk a0_2 4616189618054758400) = true) = true:=decide_eq_true c9
    clear c9
    by_cases c10 : (faddOk a0_1 (fmul a0_2 4616189618054758400)) = true
    ·rw [if_pos c10] at H
     have c10b0:=eq_true c10
     have c10b1 : decide ((faddOk a0_1 (fmul a0_2 4616189618054758400)) = true) = true:=decide_eq_true c10
     clear c10
     replace H:=Option.bind_eq_some_iff.mp H
     obtain ⟨⟨t140,t141⟩,A110,H⟩:=H
     replace H : (some (t140,t141)) = some (r1,r2):=H
     have A11:=Aside0.mk A110
     clear A110
     simp only [Option.some.injEq,Prod.mk.injEq] at H
     obtain ⟨rfl,rfl⟩:=H
     go_enter Try.func18,Try.ntmps18
     go_wp2_with (first|((with_reducible refine gate_dst (N:=1) rfl ?_);refine box_event ?hg (N:=1) ?hd (cs:=#[.int .i64 a0_0,.float .f64 a0_1,.float .f64 a0_2]) (t:=24) ?hr ?_;(case hd => rfl);(case hg => rfl);(case hr => first|(go_simp;done)|(go_simp;rfl));intro G138 hg w12 hbox hb;have n0_:=Aside0.mk (below_step (by repeat (first|(with_reducible first|exact HB.1|apply bwA|apply bwN|apply bw1)|exact HB.1)) hb);have n1_:=Aside0.mk (hbox);have n2_:=Aside0.mk ((by rw [hg];exact (below_size (by repeat (first|(with_reducible first|exact HB.1|apply bwA|apply bwN|apply bw1)|exact HB.1))) : w.heap.size ≤ G138));have n3_:=Aside0.mk ((by rw [hg];exact (below_size (by repeat (first|(with_reducible first|exact HB.1|apply bwA|apply bwN|apply bw1)|exact HB.1))) : w.heap.size ≤ G138));clear HB;have HB:=n0_;have K138:=n1_;have GW138:=n2_;have GE138:=n3_;clear n0_ n1_ n2_ n3_;clear hb hbox hg;have hcz13_0 : w12.cell? ⟨G138,0,none⟩ = some (.int .i64 a0_0):=(bC K138.1 0).trans rfl;have hcz13_1 : w12.cell? ⟨G138,1,none⟩ = some (.float .f64 a0_1):=(bC K138.1 1).trans rfl;have hcz13_2 : w12.cell? ⟨G138,2,none⟩ = some (.float .f64 a0_2):=(bC K138.1 2).trans rfl;have hfz13_0:=bF K138.1 0;have hfz13_1:=bF K138.1 1;have hfz13_2:=bF K138.1 2)|((with_reducible refine gate_callee (f:=12) rfl ?_);refine goesL_ (some 6) rfl rfl Try.func12 (by kernel_rfl) rfl #[.agg #[.int .i64 a0_0,.float .f64 a0_1,.float .f64 a0_2]] rfl (by (try simp only [List.map_toArray,List.map_cons,List.map_nil]);first|done|rfl|(simp only [List.length_drop,List.length_take];rfl)) ?_;(with_reducible refine (gauge_Check.calls a0_0 a0_1 a0_2 t139 _ A2.out).mono ?_);rintro e w14 ⟨rfl,hb⟩;refine ⟨_,rfl,?_⟩;have n0_:=Aside0.mk (bB (g:=G138) (o:=.cells #[.int .i64 a0_0,.float .f64 a0_1,.float .f64 a0_2] 24 (0,0)) (by (with_reducible repeat first|apply bN|apply bD|apply bA);exact K138.1) hb);have n1_:=Aside0.mk (below_step (by repeat (first|(with_reducible first|exact HB.1|apply bwA|apply bwN|apply bw1|refine bS ?_ GE138.1)|exact HB.1)) hb);clear K138;clear HB;have K138:=n0_;have HB:=n1_;clear n0_ n1_;(try clear hb);(try clear hb2);(try clear hk);(try clear hi);have hcz15_0 : w14.cell? ⟨G138,0,none⟩ = some (.int .i64 a0_0):=(bC K138.1 0).trans rfl;have hcz15_1 : w14.cell? ⟨G138,1,none⟩ = some (.float .f64 a0_1):=(bC K138.1 1).trans rfl;have hcz15_2 : w14.cell? ⟨G138,2,none⟩ = some (.float .f64 a0_2):=(bC K138.1 2).trans rfl;have hfz15_0:=bF K138.1 0;have hfz15_1:=bF K138.1 1;have hfz15_2:=bF K138.1 2)|((with_reducible refine gate_callee (f:=33) rfl ?_);refine goesL_ (some 19) rfl rfl Try.func33 (by kernel_rfl) rfl #[.float .f64 (fadd a0_1 (fmul a0_2 4616189618054758400))] rfl (by (try simp only [List.map_toArray,List.map_cons,List.map_nil]);first|done|rfl|(simp only [List.length_drop,List.length_take];rfl)) ?_;(with_reducible refine (metric_Round.calls (fadd a0_1 (fmul a0_2 4616189618054758400)) t140 t141 _ A11.out).mono ?_);rintro e w' ⟨rfl,⟨nd,rfl⟩⟩;refine ⟨_,rfl,?_⟩))
     go_ret2
     exact ⟨by first|rfl|(simp [errW_none,errW_some] <;> rfl)|(simp [*,errW_none,errW_some] <;> rfl),by repeat (first|(with_reducible first|exact HB.1|apply bwA|apply bwN|apply bw1|refine bS ?_ GE138.1)|exact HB.1)⟩
    ·rw [if_neg c10] at H
     exact absurd H (by simp)
   ·rw [if_neg c9] at H
    exact absurd H (by simp)
 ·rw [if_neg c3] at H
  have c3b0 : (t139 == 0) = false:=beq_eq_false_iff_ne.mpr c3
  have c3b1 : (t139 != 0) = true:=bne_iff_ne.mpr c3
  simp only [Option.some.injEq,Prod.mk.injEq] at H
  obtain ⟨rfl,rfl⟩:=H
  go_enter Try.func18,Try.ntmps18
  go_wp2_with (first|((with_reducible refine gate_dst (N:=1) rfl ?_);refine box_event ?hg (N:=1) ?hd (cs:=#[.int .i64 a0_0,.float .f64 a0_1,.float .f64 a0_2]) (t:=24) ?hr ?_;(case hd => rfl);(case hg => rfl);(case hr => first|(go_simp;done)|(go_simp;rfl));intro G138 hg w16 hbox hb;have n0_:=Aside0.mk (below_step (by repeat (first|(with_reducible first|exact HB.1|apply bwA|apply bwN|apply bw1)|exact HB.1)) hb);have n1_:=Aside0.mk (hbox);have n2_:=Aside0.mk ((by rw [hg];exact (below_size (by repeat (first|(with_reducible first|exact HB.1|apply bwA|apply bwN|apply bw1)|exact HB.1))) : w.heap.size ≤ G138));have n3_:=Aside0.mk ((by rw [hg];exact (below_size (by repeat (first|(with_reducible first|exact HB.1|apply bwA|apply bwN|apply bw1)|exact HB.1))) : w.heap.size ≤ G138));clear HB;have HB:=n0_;have K138:=n1_;have GW138:=n2_;have GE138:=n3_;clear n0_ n1_ n2_ n3_;clear hb hbox hg;have hcz17_0 : w16.cell? ⟨G138,0,none⟩ = some (.int .i64 a0_0):=(bC K138.1 0).trans rfl;have hcz17_1 : w16.cell? ⟨G138,1,none⟩ = some (.float .f64 a0_1):=(bC K138.1 1).trans rfl;have hcz17_2 : w16.cell? ⟨G138,2,none⟩ = some (.float .f64 a0_2):=(bC K138.1 2).trans rfl;have hfz17_0:=bF K138.1 0;have hfz17_1:=bF K138.1 1;have hfz17_2:=bF K138.1 2)|((with_reducible refine gate_callee (f:=12) rfl ?_);refine goesL_ (some 6) rfl rfl Try.func12 (by kernel_rfl) rfl #[.agg #[.int .i64 a0_0,.float .f64 a0_1,.float .f64 a0_2]] rfl (by (try simp only [List.map_toArray,List.map_cons,List.map_nil]);first|done|rfl|(simp only [List.length_drop,List.length_take];rfl)) ?_;(with_reducible refine (gauge_Check.calls a0_0 a0_1 a0_2 t139 _ A2.out).mono ?_);rintro e w18 ⟨rfl,hb⟩;refine ⟨_,rfl,?_⟩;have n0_:=Aside0.mk (bB (g:=G138) (o:=.cells #[.int .i64 a0_0,.float .f64 a0_1,.float .f64 a0_2] 24 (0,0)) (by (with_reducible repeat first|apply bN|apply bD|apply bA);exact K138.1) hb);have n1_:=Aside0.mk (below_step (by repeat (first|(with_reducible first|exact HB.1|apply bwA|apply bwN|apply bw1|refine bS ?_ GE138.1)|exact HB.1)) hb);clear K138;clear HB;have K138:=n0_;have HB:=n1_;clear n0_ n1_;(try clear hb);(try clear hb2);(try clear hk);(try clear hi)))
  go_ret2
  exact ⟨by first|rfl|(simp [errW_none,errW_some] <;> rfl)|(simp [*,errW_none,errW_some] <;> rfl),by repeat (first|(with_reducible first|exact HB.1|apply bwA|apply bwN|apply bw1|refine bS ?_ GE138.1)|exact HB.1)⟩

/-! ### gauge_Run: function 21 -/
def gauge_Run.l0 : Nat → List Nat → Int → List Nat → Int → Int → Int → Nat → Nat → Option (List Nat × Int × Nat × Nat × Int)
 | 0, _, _, _, _, _, _, _, _ => none
 | k + 1, x5, x7, x14, x15, x16, x144000, x144001, x144002 => if x16 < x15 then (if 0 ≤ x16 then (if x16 < (x14.length : Int) then ((gauge_Feed.f x144000 x144001 x144002 (rdOf (0 : Nat) x14 x16)).bind fun bt145 => (if bt145.2.2.2 = 0 then ((gauge_Cost.f bt145.1 bt145.2.1 bt145.2.2.1).bind fun bt150 => (if (x5.length : Int) > 0 then (if 0 ≤ (wrap64 ((x5.length : Int) - 1)) then (if (wrap64 ((x5.length : Int) - 1)) < (x5.length : Int) then ((gauge_Hold.f k (rdOf (0 : Nat) x5 (wrap64 ((x5.length : Int) - 1))) bt150.1).bind fun bt153 => (if x5.length < 17592186044416 then (gauge_Run.l0 k (x5 ++ [bt153.1]) x7 x14 x15 (wrap64 (x16 + 1)) bt145.1 bt145.2.1 bt145.2.2.1) else (none))) else (none)) else (none)) else (if x5.length < 17592186044416 then (gauge_Run.l0 k (x5 ++ [bt150.1]) x7 x14 x15 (wrap64 (x16 + 1)) bt145.1 bt145.2.1 bt145.2.2.1) else (none)))) else (gauge_Run.l0 k x5 (wrap64 (x7 + 1)) x14 x15 (wrap64 (x16 + 1)) x144000 x144001 x144002))) else (none)) else (none)) else (some (x5, x144000, x144001, x144002, x7))
def gauge_Run.f (k : Nat) (l0 : List Nat) : Option (List Nat × Int × Nat × Nat × Int) := gauge_Run.l0 k ([] : List Nat) 0 l0 (l0.length : Int) 0 0 0 0
theorem gauge_Run.mono_l : ∀ k, (∀ y0 y1 y2 y3 y4 y5 y6 y7, LeO (gauge_Run.l0 k y0 y1 y2 y3 y4 y5 y6 y7) (gauge_Run.l0 (k + 1) y0 y1 y2 y3 y4 y5 y6 y7))
 | 0 => fun _ _ _ _ _ _ _ _ r h => by simp [gauge_Run.l0] at h
 | k + 1 => by
  have ih0:=gauge_Run.mono_l k
  ·intro y0 y1 y2 y3 y4 y5 y6 y7
   unfold gauge_Run.l0
   repeat' first
   | (with_reducible exact ih0 _ _ _ _ _ _ _ _)
   | (with_reducible exact gauge_Hold.mono _ _ _)
   | (with_reducible exact LeO.refl _)
   | (with_reducible exact LeO.none _)
   | (with_reducible refine LeO.ite ?_ ?_)
   | (with_reducible refine LeO.bind ?_ (fun _ => ?_))
   | exact ih0 _ _ _ _ _ _ _ _
   | exact gauge_Hold.mono _ _ _
   | exact LeO.none _
   | refine LeO.ite ?_ ?_
   | refine LeO.bind ?_ (fun _ => ?_)
theorem gauge_Run.mono : ∀ a0 k, LeO (gauge_Run.f k a0) (gauge_Run.f (k + 1) a0) := by
 intro a0 k
 have ih0:=gauge_Run.mono_l k
 unfold gauge_Run.f
 repeat' first
   | (with_reducible exact ih0 _ _ _ _ _ _ _ _)
   | (with_reducible exact gauge_Hold.mono _ _ _)
   | (with_reducible exact LeO.refl _)
   | (with_reducible exact LeO.none _)
   | (with_reducible refine LeO.ite ?_ ?_)
   | (with_reducible refine LeO.bind ?_ (fun _ => ?_))
   | exact ih0 _ _ _ _ _ _ _ _
   | exact gauge_Hold.mono _ _ _
   | exact LeO.none _
   | refine LeO.ite ?_ ?_
   | refine LeO.bind ?_ (fun _ => ?_)
set_option maxHeartbeats 2500000 in
set_option maxRecDepth 100000 in
theorem gauge_Run.calls (k : Nat) (A0 : Option Addr) (c0 : Nat) (l0 : List Nat) (r1 : List Nat) (r2 : Int) (r3 : Nat) (r4 : Nat) (r5 : Int) (w : World) (hr0 : Kd.C Kd.float64 w A0 l0.length l0) (hc0 : l0.length ≤ c0) (h : gauge_Run.f k l0 = some (r1, r2, r3, r4, r5)) :
  Calls Try.prog 21 #[.slice A0 l0.length c0] w fun e w' => ∃ v0_ : Value,e = .returned (.tuple #[v0_,.agg #[.int .i64 r2,.float .f64 r3,.float .f64 r4],.int .i64 r5]) ∧ Kd.R Kd.float64 22 w' w.heap.size (fun _ => True) v0_ r1 ∧ Below w.heap.size w w':=by
 have hu24:=Try.underlying24
 have HR0:=Aside0.mk hr0
 have HC0:=Aside0.mk hc0
 clear hr0 hc0
 have HB:=Aside0.mk (Below.refl w.heap.size w)
 have H : (gauge_Run.l0 k ([] : List Nat) 0 l0 (l0.length : Int) 0 0 0 0) = some (r1,r2,r3,r4,r5):=h
 clear h
 have H':=Aside0.mk H
 clear H
 go_enter Try.func21,Try.ntmps21
 go_wp2_with (first|((with_reducible refine gate_dst (N:=3) rfl ?_);refine box_event ?hg (N:=3) ?hd (cs:=#[.int .i64 0,.float .f64 0,.float .f64 0]) (t:=24) ?hr ?_;(case hd => rfl);(case hg => rfl);(case hr => first|(go_simp;done)|(go_simp;rfl));intro G142 hg w2 hbox hb;have n0_:=Aside0.mk (below_step (by repeat (first|(with_reducible first|exact HB.1|apply bwA|apply bwN|apply bw1)|exact HB.1)) hb);have n1_:=Aside0.mk (hbox);have n2_:=Aside0.mk ((by rw [hg];exact (below_size (by repeat (first|(with_reducible first|exact HB.1|apply bwA|apply bwN|apply bw1)|exact HB.1))) : w.heap.size ≤ G142));have n3_:=Aside0.mk ((by rw [hg];exact (below_size (by repeat (first|(with_reducible first|exact HB.1|apply bwA|apply bwN|apply bw1)|exact HB.1))) : w.heap.size ≤ G142));clear HB;have HB:=n0_;have K142:=n1_;have GW142:=n2_;have GE142:=n3_;clear n0_ n1_ n2_ n3_;clear hb hbox hg)|((with_reducible refine gate_dst (N:=6) rfl ?_);refine box_event ?hg (N:=6) ?hd (cs:=#[.int .i64 0,.float .f64 0,.float .f64 0]) (t:=24) ?hr ?_;(case hd => rfl);(case hg => rfl);(case hr => first|(go_simp;done)|(go_simp;rfl));intro G143 hg w3 hbox hb;have n0_:=Aside0.mk (bB (g:=G142) (o:=.cells #[.int .i64 0,.float .f64 0,.float .f64 0] 24 (0,0)) (by (with_reducible repeat first|apply bN|apply bD|apply bA);exact K142.1) hb);have n1_:=Aside0.mk (below_step (by repeat (first|(with_reducible first|exact HB.1|apply bwA|apply bwN|apply bw1|refine bS ?_ GE142.1)|exact HB.1)) hb);have n2_:=Aside0.mk (hbox);have n3_:=Aside0.mk ((by rw [hg];exact (below_size (by repeat (first|(with_reducible first|exact HB.1|apply bwA|apply bwN|apply bw1|refine bS ?_ GE142.1)|exact HB.1))) : w.heap.size ≤ G143));have n4_:=Aside0.mk ((by rw [hg];exact (below_size (by repeat (first|(with_reducible first|exact HB.1|apply bwA|apply bwN|apply bw1|refine bS ?_ GE142.1)|exact HB.1))) : w.heap.size ≤ G143));have n5_:=Aside0.mk ((by rw [hg];exact Nat.ne_of_lt (blk_lt (g:=G142) (o:=.cells #[.int .i64 0,.float .f64 0,.float .f64 0] 24 (0,0)) (by (with_reducible repeat first|apply bN|apply bD|apply bA);exact K142.1)) : G142 ≠ G143));have n6_:=Aside0.mk ((by rw [hg];exact Nat.ne_of_gt (blk_lt (g:=G142) (o:=.cells #[.int .i64 0,.float .f64 0,.float .f64 0] 24 (0,0)) (by (with_reducible repeat first|apply bN|apply bD|apply bA);exact K142.1)) : G143 ≠ G142));clear K142;clear HB;have K142:=n0_;have HB:=n1_;have K143:=n2_;have GW143:=n3_;have GE143:=n4_;have NB142_143:=n5_;have NB143_142:=n6_;clear n0_ n1_ n2_ n3_ n4_ n5_ n6_;clear hb hbox hg))
 go_loopg [5,7,16] k (fun kq v5 v7 v16 w' => ∃ (x5_1 : List Nat) (x7_1 : Int) (x16_1 : Int) (x144000_1 : Int) (x144001_1 : Nat) (x144002_1 : Nat),v7 = .int .i64 x7_1 ∧ v16 = .int .i64 x16_1 ∧ Aside0 (gauge_Run.l0 kq x5_1 x7_1 l0 (l0.length : Int) x16_1 x144000_1 x144001_1 x144002_1 = some (r1,r2,r3,r4,r5)) ∧ Aside0 (kq ≤ k) ∧ Aside0 (Kd.R Kd.float64 22 w' w.heap.size (fun _ => True) v5 x5_1) ∧ Aside0 (w'.heap[G142]? = some (.cells #[.int .i64 0,.float .f64 0,.float .f64 0] 24 (0,0))) ∧ Aside0 (w'.heap[G143]? = some (.cells #[.int .i64 x144000_1,.float .f64 x144001_1,.float .f64 x144002_1] 24 (0,0))) ∧ Aside0 (Below w.heap.size w w'))
 case atStart => exact ⟨(([] : List Nat)),(0),(0),(0),(0),(0),(by first|rfl|(simp;done)|(simp [*];done)),(by first|rfl|(simp;done)|(simp [*];done)),H',⟨Nat.le_refl _⟩,⟨by first|exact Kd.R_nil _ _ _ _ _|exact Kd.N_nil _ _ _ _ _|exact Kd.V_nil _ _ _ _ _|exact Kd.Q_nil _ _ _ _ _|exact Kd.S_nil _ _ _ _ _⟩,⟨by (with_reducible repeat first|apply bN|apply bD|apply bA);exact K142.1⟩,⟨by (with_reducible repeat first|apply bN|apply bD|apply bA);exact K143.1⟩,⟨by repeat (first|(with_reducible first|exact HB.1|apply bwA|apply bwN|apply bw1|refine bS ?_ GE142.1|refine bS ?_ GE143.1)|exact HB.1)⟩⟩
 case round =>
  clear H'
  try clear c2
  try clear p2
  obtain ⟨x5_1,x7_1,x16_1,x144000_1,x144001_1,x144002_1,rfl,rfl,HA,HK1,HO_5,K142,K143,HB⟩:=hrel
  cases gk with
  | zero => exact absurd HA.out (by simp [gauge_Run.l0])
  | succ k1 =>
   have H:=HA.out
   clear HA
   simp only [gauge_Run.l0] at H
   by_cases c4 : x16_1 < (l0.length : Int)
   ·rw [if_pos c4] at H
    have c4b0 : decide (x16_1 < (l0.length : Int)) = true:=decide_eq_true c4
    clear c4
    by_cases c5 : 0 ≤ x16_1
    ·rw [if_pos c5] at H
     have c5b0 : decide (0 ≤ x16_1) = true:=decide_eq_true c5
     clear c5
     by_cases c6 : x16_1 < (l0.length : Int)
     ·rw [if_pos c6] at H
      have c6b0 : decide (x16_1 < (l0.length : Int)) = true:=decide_eq_true c6
      clear c6
      replace H:=Option.bind_eq_some_iff.mp H
      obtain ⟨⟨t145,t146,t147,t148⟩,A70,H⟩:=H
      replace H : (if t148 = 0 then ((gauge_Cost.f t145 t146 t147).bind fun bt150 => (if (x5_1.length : Int) > 0 then (if 0 ≤ (wrap64 ((x5_1.length : Int) - 1)) then (if (wrap64 ((x5_1.length : Int) - 1)) < (x5_1.length : Int) then ((gauge_Hold.f k1 (rdOf (0 : Nat) x5_1 (wrap64 ((x5_1.length : Int) - 1))) bt150.1).bind fun bt153 => (if x5_1.length < 17592186044416 then (gauge_Run.l0 k1 (x5_1 ++ [bt153.1]) x7_1 l0 (l0.length : Int) (wrap64 (x16_1 + 1)) t145 t146 t147) else (none))) else (none)) else (none)) else (if x5_1.length < 17592186044416 then (gauge_Run.l0 k1 (x5_1 ++ [bt150.1]) x7_1 l0 (l0.length : Int) (wrap64 (x16_1 + 1)) t145 t146 t147) else (none)))) else (gauge_Run.l0 k1 x5_1 (wrap64 (x7_1 + 1)) l0 (l0.length : Int) (wrap64 (x16_1 + 1)) x144000_1 x144001_1 x144002_1)) = some (r1,r2,r3,r4,r5):=H
      have A7:=Aside0.mk A70
      clear A70
      by_cases c8 : t148 = 0
      ·rw [if_pos c8] at H
       have c8b0 : (t148 == 0) = true:=beq_iff_eq.mpr c8
       have c8b1 : (t148 != 0) = false:=bne_eq_false_iff_eq.mpr c8
       clear c8
       replace H:=Option.bind_eq_some_iff.mp H
       obtain ⟨⟨t150,t151⟩,A90,H⟩:=H
       replace H : (if (x5_1.length : Int) > 0 then (if 0 ≤ (wrap64 ((x5_1.length : Int) - 1)) then (if (wrap64 ((x5_1.length : Int) - 1)) < (x5_1.length : Int) then ((gauge_Hold.f k1 (rdOf (0 : Nat) x5_1 (wrap64 ((x5_1.length : Int) - 1))) t150).bind fun bt153 => (if x5_1.length < 17592186044416 then (gauge_Run.l0 k1 (x5_1 ++ [bt153.1]) x7_1 l0 (l0.length : Int) (wrap64 (x16_1 + 1)) t145 t146 t147) else (none))) else (none)) else (none)) else (if x5_1.length < 17592186044416 then (gauge_Run.l0 k1 (x5_1 ++ [t150]) x7_1 l0 (l0.length : Int) (wrap64 (x16_1 + 1)) t145 t146 t147) else (none))) = some (r1,r2,r3,r4,r5):=H
       have A9:=Aside0.mk A90
       clear A90
       by_cases c10 : (x5_1.length : Int) > 0
       ·rw [if_pos c10] at H
        have c10b0 : decide (0 < (x5_1.length : Int)) = true:=decide_eq_true c10
        have c10b1 : decide (0 < x5_1.length) = true:=decide_eq_true (by omega)
        clear c10
        obtain ⟨ji11,hji11⟩ : ∃ j_ : Int,(wrap64 ((x5_1.length : Int) - 1)) = j_:=⟨_,rfl⟩
        replace H : (if 0 ≤ (ji11) then (if (ji11) < (x5_1.length : Int) then ((gauge_Hold.f k1 (rdOf (0 : Nat) x5_1 (ji11)) t150).bind fun bt153 => (if x5_1.length < 17592186044416 then (gauge_Run.l0 k1 (x5_1 ++ [bt153.1]) x7_1 l0 (l0.length : Int) (wrap64 (x16_1 + 1)) t145 t146 t147) else (none))) else (none)) else (none)) = some (r1,r2,r3,r4,r5):=by first|(rw [hji11] at H;exact H)|(simp only [hji11] at H ⊢;exact H)
        (try rw [hji11] at A7)
        (try rw [hji11] at A9)
        have hji11w : (IntKind.i64.wrap ((x5_1.length : Int) - 1)) = ji11:=(i64_w _).trans hji11
        by_cases c12 : 0 ≤ (ji11)
        ·rw [if_pos c12] at H
         have c12b0 : decide (0 ≤ (ji11)) = true:=decide_eq_true c12
         clear c12
         by_cases c13 : (ji11) < (x5_1.length : Int)
         ·rw [if_pos c13] at H
          have c13b0 : decide ((ji11) < (x5_1.length : Int)) = true:=decide_eq_true c13
          clear c13
          replace H:=Option.bind_eq_some_iff.mp H
          obtain ⟨⟨t153,t154⟩,A140,H⟩:=H
          replace H : (if x5_1.length < 17592186044416 then (gauge_Run.l0 k1 (x5_1 ++ [t153]) x7_1 l0 (l0.length : Int) (wrap64 (x16_1 + 1)) t145 t146 t147) else (none)) = some (r1,r2,r3,r4,r5):=H
          have A14:=Aside0.mk A140
          clear A140
          by_cases c15 : x5_1.length < 17592186044416
          ·rw [if_pos c15] at H
           have LMc15:=Aside0.mk c15
           clear c15
           obtain ⟨y155,hy155⟩ : ∃ y_ : List Nat,y_ = (x5_1 ++ [t153]):=⟨_,rfl⟩
           replace H : (gauge_Run.l0 k1 y155 x7_1 l0 (l0.length : Int) (wrap64 (x16_1 + 1)) t145 t146 t147) = some (r1,r2,r3,r4,r5):=by first|(rw [hy155];with_reducible exact H)|(have H2_:=(Option.bind_some _ _).symm.trans H;rw [hy155];with_reducible exact H2_)|(have H2_:=(Option.bind_some _ _).symm.trans H;with_reducible exact H2_)|with_reducible exact H|(rw [hy155];exact H)|exact H
           have Ny155:=Aside0.mk hy155
           clear hy155
           have H':=Aside0.mk H
           clear H
           have p144 : 0 ≤ (x16_1 : Int):=of_decide_eq_true (by first|(with_reducible assumption)|assumption)
           have q144 : x16_1 < (l0.length : Int):=of_decide_eq_true (by first|(with_reducible assumption)|assumption)
           obtain ⟨ad144,e144,hx144_0⟩:=Kd.at_float64 HR0.out x16_1 p144 q144
           cases e144
           replace hx144_0:=(HB.1.cell (World.block_lt_of_cell? w _ hx144_0)).trans hx144_0
           replace p144:=eq_true p144
           replace q144:=eq_true q144
           have hnb16:=NB143_142.1
           have hnc16:=NB142_143.1
           have hcz17_0 : wr.cell? ⟨G143,0,none⟩ = some (.int .i64 x144000_1):=(bC K143.1 0).trans rfl
           have hcz17_1 : wr.cell? ⟨G143,1,none⟩ = some (.float .f64 x144001_1):=(bC K143.1 1).trans rfl
           have hcz17_2 : wr.cell? ⟨G143,2,none⟩ = some (.float .f64 x144002_1):=(bC K143.1 2).trans rfl
           have hfz17_0:=bF K143.1 0
           have hfz17_1:=bF K143.1 1
           have hfz17_2:=bF K143.1 2
           go_wp2_with (first|((with_reducible refine gate_callee (f:=9) rfl ?_);refine goesL_ (some 23) rfl rfl Try.func9 (by kernel_rfl) rfl #[.agg #[.int .i64 x144000_1,.float .f64 x144001_1,.float .f64 x144002_1],.float .f64 (rdOf (0 : Nat) l0 x16_1)] rfl (by (try simp only [List.map_toArray,List.map_cons,List.map_nil]);first|done|rfl|(simp only [List.length_drop,List.length_take];rfl)) ?_;(with_reducible refine (gauge_Feed.calls x144000_1 x144001_1 x144002_1 (rdOf (0 : Nat) l0 x16_1) t145 t146 t147 t148 _ A7.out).mono ?_);rintro e w18 ⟨rfl,hb⟩;refine ⟨_,rfl,?_⟩;have n0_:=Aside0.mk (Kd.R_below (by (with_reducible repeat (first|apply Kd.R_alloc|apply Kd.R_drewN|apply Kd.R_drew));exact HO_5.out) hb);have n1_:=Aside0.mk (bB (g:=G142) (o:=.cells #[.int .i64 0,.float .f64 0,.float .f64 0] 24 (0,0)) (by (with_reducible repeat first|apply bN|apply bD|apply bA);exact K142.1) hb);have n2_:=Aside0.mk (bB (g:=G143) (o:=.cells #[.int .i64 x144000_1,.float .f64 x144001_1,.float .f64 x144002_1] 24 (0,0)) (by (with_reducible repeat first|apply bN|apply bD|apply bA);exact K143.1) hb);have n3_:=Aside0.mk (below_step (by repeat (first|(with_reducible first|exact HB.1|apply bwA|apply bwN|apply bw1|refine bS ?_ GE142.1|refine bS ?_ GE143.1)|exact HB.1)) hb);clear HO_5;clear K142;clear K143;clear HB;have HO_5:=n0_;have K142:=n1_;have K143:=n2_;have HB:=n3_;clear n0_ n1_ n2_ n3_;(try clear hb);(try clear hb2);(try clear hk);(try clear hi))|((with_reducible refine gate_dst (N:=10) rfl ?_);refine box_event ?hg (N:=10) ?hd (cs:=#[.int .i64 0,.float .f64 0,.float .f64 0]) (t:=24) ?hr ?_;(case hd => rfl);(case hg => rfl);(case hr => first|(go_simp;done)|(go_simp;rfl));intro G149 hg w19 hbox hb;have n0_:=Aside0.mk (Kd.R_below (by (with_reducible repeat (first|apply Kd.R_alloc|apply Kd.R_drewN|apply Kd.R_drew));exact HO_5.out) hb);have n1_:=Aside0.mk (bB (g:=G142) (o:=.cells #[.int .i64 0,.float .f64 0,.float .f64 0] 24 (0,0)) (by (with_reducible repeat first|apply bN|apply bD|apply bA);exact K142.1) hb);have n2_:=Aside0.mk (bB (g:=G143) (o:=.cells #[.int .i64 x144000_1,.float .f64 x144001_1,.float .f64 x144002_1] 24 (0,0)) (by (with_reducible repeat first|apply bN|apply bD|apply bA);exact K143.1) hb);have n3_:=Aside0.mk (below_step (by repeat (first|(with_reducible first|exact HB.1|apply bwA|apply bwN|apply bw1|refine bS ?_ GE142.1|refine bS ?_ GE143.1)|exact HB.1)) hb);have n4_:=Aside0.mk (hbox);have n5_:=Aside0.mk ((by rw [hg];exact (below_size (by repeat (first|(with_reducible first|exact HB.1|apply bwA|apply bwN|apply bw1|refine bS ?_ GE142.1|refine bS ?_ GE143.1)|exact HB.1))) : w.heap.size ≤ G149));have n6_:=Aside0.mk ((by rw [hg];exact (below_size (by repeat (first|(with_reducible first|exact HB.1|apply bwA|apply bwN|apply bw1|refine bS ?_ GE142.1|refine bS ?_ GE143.1)|exact HB.1))) : w.heap.size ≤ G149));have n7_:=Aside0.mk ((by rw [hg];exact Nat.ne_of_lt (blk_lt (g:=G142) (o:=.cells #[.int .i64 0,.float .f64 0,.float .f64 0] 24 (0,0)) (by (with_reducible repeat first|apply bN|apply bD|apply bA);exact K142.1)) : G142 ≠ G149));have n8_:=Aside0.mk ((by rw [hg];exact Nat.ne_of_gt (blk_lt (g:=G142) (o:=.cells #[.int .i64 0,.float .f64 0,.float .f64 0] 24 (0,0)) (by (with_reducible repeat first|apply bN|apply bD|apply bA);exact K142.1)) : G149 ≠ G142));have n9_:=Aside0.mk ((by rw [hg];exact Nat.ne_of_lt (blk_lt (g:=G143) (o:=.cells #[.int .i64 x144000_1,.float .f64 x144001_1,.float .f64 x144002_1] 24 (0,0)) (by (with_reducible repeat first|apply bN|apply bD|apply bA);exact K143.1)) : G143 ≠ G149));have n10_:=Aside0.mk ((by rw [hg];exact Nat.ne_of_gt (blk_lt (g:=G143) (o:=.cells #[.int .i64 x144000_1,.float .f64 x144001_1,.float .f64 x144002_1] 24 (0,0)) (by (with_reducible repeat first|apply bN|apply bD|apply bA);exact K143.1)) : G149 ≠ G143));clear HO_5;clear K142;clear K143;clear HB;have HO_5:=n0_;have K142:=n1_;have K143:=n2_;have HB:=n3_;have K149:=n4_;have GW149:=n5_;have GE149:=n6_;have NB142_149:=n7_;have NB149_142:=n8_;have NB143_149:=n9_;have NB149_143:=n10_;clear n0_ n1_ n2_ n3_ n4_ n5_ n6_ n7_ n8_ n9_ n10_;clear hb hbox hg;have hnb20:=NB149_142.1;have hnc20:=NB142_149.1;have hnb21:=NB149_143.1;have hnc21:=NB143_149.1;have hcz22_0 : w19.cell? ⟨G149,0,none⟩ = some (.int .i64 0):=(bC K149.1 0).trans rfl;have hcz22_1 : w19.cell? ⟨G149,1,none⟩ = some (.float .f64 0):=(bC K149.1 1).trans rfl;have hcz22_2 : w19.cell? ⟨G149,2,none⟩ = some (.float .f64 0):=(bC K149.1 2).trans rfl;have hfz22_0:=bF K149.1 0;have hfz22_1:=bF K149.1 1;have hfz22_2:=bF K149.1 2)|((with_reducible refine gate_store (t:=24) (p:=10) rfl ?_);refine store_event (t:=24) (p:=10) (v:=?vo_w23) (w1:=(((w19.setCell ⟨G149,0,none⟩ (.int .i64 t145)).setCell ⟨G149,1,none⟩ (.float .f64 t146)).setCell ⟨G149,2,none⟩ (.float .f64 t147))) ?hg ?ho ?hn ?hr ?_;(case ho => rfl);(case hg => rfl);(case hn => rfl);(case hr => first|(go_simp;done)|(go_simp;rfl));intro w23 hw;have n0_ : Aside0 (Kd.R Kd.float64 22 w23 w.heap.size (fun _ => True) u5 x5_1):=⟨(by rw [hw];exact (by (with_reducible repeat (first|apply Kd.R_alloc|apply Kd.R_drewN|apply Kd.R_drew));exact Kd.R_mono (Kd.R_far (p:=⟨G149,2,none⟩) (Kd.R_far (p:=⟨G149,1,none⟩) (Kd.R_far (p:=⟨G149,0,none⟩) (Kd.R_types HO_5.out K149.1 (by decide)) (fun _ hk => hk.2) (.int .i64 t145)) (fun _ hk => hk.2) (.float .f64 t146)) (fun _ hk => hk.2) (.float .f64 t147)) (fun _ hk => trivial)))⟩;have n1_ : Aside0 (w23.heap[G142]? = some (.cells #[.int .i64 0,.float .f64 0,.float .f64 0] 24 (0,0))):=⟨(by rw [hw];exact (by (with_reducible repeat first|apply bN|apply bD|apply bA);refine bZ ?_ NB142_149.1 _;(with_reducible repeat first|apply bN|apply bD|apply bA);refine bZ ?_ NB142_149.1 _;(with_reducible repeat first|apply bN|apply bD|apply bA);refine bZ ?_ NB142_149.1 _;(with_reducible repeat first|apply bN|apply bD|apply bA);exact K142.1))⟩;have n2_ : Aside0 (w23.heap[G143]? = some (.cells #[.int .i64 x144000_1,.float .f64 x144001_1,.float .f64 x144002_1] 24 (0,0))):=⟨(by rw [hw];exact (by (with_reducible repeat first|apply bN|apply bD|apply bA);refine bZ ?_ NB143_149.1 _;(with_reducible repeat first|apply bN|apply bD|apply bA);refine bZ ?_ NB143_149.1 _;(with_reducible repeat first|apply bN|apply bD|apply bA);refine bZ ?_ NB143_149.1 _;(with_reducible repeat first|apply bN|apply bD|apply bA);exact K143.1))⟩;have n3_ : Aside0 (w23.heap[G149]? = some (.cells #[.int .i64 t145,.float .f64 t146,.float .f64 t147] 24 (0,0))):=⟨(by rw [hw];exact (by (with_reducible repeat first|apply bN|apply bD|apply bA);refine blk_put (cs:=#[.int .i64 t145,.float .f64 t146,.float .f64 0]) ?_ 2 _ rfl;(with_reducible repeat first|apply bN|apply bD|apply bA);refine blk_put (cs:=#[.int .i64 t145,.float .f64 0,.float .f64 0]) ?_ 1 _ rfl;(with_reducible repeat first|apply bN|apply bD|apply bA);refine blk_put (cs:=#[.int .i64 0,.float .f64 0,.float .f64 0]) ?_ 0 _ rfl;(with_reducible repeat first|apply bN|apply bD|apply bA);exact K149.1))⟩;have n4_ : Aside0 (Below w.heap.size w w23):=⟨(by rw [hw];exact (by repeat (first|(with_reducible first|exact HB.1|apply bwA|apply bwN|apply bw1|refine bS ?_ GE142.1|refine bS ?_ GE143.1|refine bS ?_ GE149.1)|exact HB.1)))⟩;clear hw;clear HO_5;clear K142;clear K143;clear K149;clear HB;have HO_5:=n0_;have K142:=n1_;have K143:=n2_;have K149:=n3_;have HB:=n4_;clear n0_ n1_ n2_ n3_ n4_;have hcz24_0 : w23.cell? ⟨G149,0,none⟩ = some (.int .i64 t145):=(bC K149.1 0).trans rfl;have hcz24_1 : w23.cell? ⟨G149,1,none⟩ = some (.float .f64 t146):=(bC K149.1 1).trans rfl;have hcz24_2 : w23.cell? ⟨G149,2,none⟩ = some (.float .f64 t147):=(bC K149.1 2).trans rfl;have hfz24_0:=bF K149.1 0;have hfz24_1:=bF K149.1 1;have hfz24_2:=bF K149.1 2;have hcz25_0 : w23.cell? ⟨G143,0,none⟩ = some (.int .i64 x144000_1):=(bC K143.1 0).trans rfl;have hcz25_1 : w23.cell? ⟨G143,1,none⟩ = some (.float .f64 x144001_1):=(bC K143.1 1).trans rfl;have hcz25_2 : w23.cell? ⟨G143,2,none⟩ = some (.float .f64 x144002_1):=(bC K143.1 2).trans rfl;have hfz25_0:=bF K143.1 0;have hfz25_1:=bF K143.1 1;have hfz25_2:=bF K143.1 2)|((with_reducible refine gate_store (t:=24) (p:=6) rfl ?_);refine store_event (t:=24) (p:=6) (v:=?vo_w26) (w1:=(((w23.setCell ⟨G143,0,none⟩ (.int .i64 t145)).setCell ⟨G143,1,none⟩ (.float .f64 t146)).setCell ⟨G143,2,none⟩ (.float .f64 t147))) ?hg ?ho ?hn ?hr ?_;(case ho => rfl);(case hg => rfl);(case hn => rfl);(case hr => first|(go_simp;done)|(go_simp;rfl));intro w26 hw;have n0_ : Aside0 (Kd.R Kd.float64 22 w26 w.heap.size (fun _ => True) u5 x5_1):=⟨(by rw [hw];exact (by (with_reducible repeat (first|apply Kd.R_alloc|apply Kd.R_drewN|apply Kd.R_drew));exact Kd.R_mono (Kd.R_far (p:=⟨G143,2,none⟩) (Kd.R_far (p:=⟨G143,1,none⟩) (Kd.R_far (p:=⟨G143,0,none⟩) (Kd.R_types HO_5.out K143.1 (by decide)) (fun _ hk => hk.2) (.int .i64 t145)) (fun _ hk => hk.2) (.float .f64 t146)) (fun _ hk => hk.2) (.float .f64 t147)) (fun _ hk => trivial)))⟩;have n1_ : Aside0 (w26.heap[G142]? = some (.cells #[.int .i64 0,.float .f64 0,.float .f64 0] 24 (0,0))):=⟨(by rw [hw];exact (by (with_reducible repeat first|apply bN|apply bD|apply bA);refine bZ ?_ NB142_143.1 _;(with_reducible repeat first|apply bN|apply bD|apply bA);refine bZ ?_ NB142_143.1 _;(with_reducible repeat first|apply bN|apply bD|apply bA);refine bZ ?_ NB142_143.1 _;(with_reducible repeat first|apply bN|apply bD|apply bA);exact K142.1))⟩;have n2_ : Aside0 (w26.heap[G143]? = some (.cells #[.int .i64 t145,.float .f64 t146,.float .f64 t147] 24 (0,0))):=⟨(by rw [hw];exact (by (with_reducible repeat first|apply bN|apply bD|apply bA);refine blk_put (cs:=#[.int .i64 t145,.float .f64 t146,.float .f64 x144002_1]) ?_ 2 _ rfl;(with_reducible repeat first|apply bN|apply bD|apply bA);refine blk_put (cs:=#[.int .i64 t145,.float .f64 x144001_1,.float .f64 x144002_1]) ?_ 1 _ rfl;(with_reducible repeat first|apply bN|apply bD|apply bA);refine blk_put (cs:=#[.int .i64 x144000_1,.float .f64 x144001_1,.float .f64 x144002_1]) ?_ 0 _ rfl;(with_reducible repeat first|apply bN|apply bD|apply bA);exact K143.1))⟩;have n3_ : Aside0 (w26.heap[G149]? = some (.cells #[.int .i64 t145,.float .f64 t146,.float .f64 t147] 24 (0,0))):=⟨(by rw [hw];exact (by (with_reducible repeat first|apply bN|apply bD|apply bA);refine bZ ?_ NB149_143.1 _;(with_reducible repeat first|apply bN|apply bD|apply bA);refine bZ ?_ NB149_143.1 _;(with_reducible repeat first|apply bN|apply bD|apply bA);refine bZ ?_ NB149_143.1 _;(with_reducible repeat first|apply bN|apply bD|apply bA);exact K149.1))⟩;have n4_ : Aside0 (Below w.heap.size w w26):=⟨(by rw [hw];exact (by repeat (first|(with_reducible first|exact HB.1|apply bwA|apply bwN|apply bw1|refine bS ?_ GE142.1|refine bS ?_ GE143.1|refine bS ?_ GE149.1)|exact HB.1)))⟩;clear hw;clear HO_5;clear K142;clear K143;clear K149;clear HB;have HO_5:=n0_;have K142:=n1_;have K143:=n2_;have K149:=n3_;have HB:=n4_;clear n0_ n1_ n2_ n3_ n4_;have hcz27_0 : w26.cell? ⟨G143,0,none⟩ = some (.int .i64 t145):=(bC K143.1 0).trans rfl;have hcz27_1 : w26.cell? ⟨G143,1,none⟩ = some (.float .f64 t146):=(bC K143.1 1).trans rfl;have hcz27_2 : w26.cell? ⟨G143,2,none⟩ = some (.float .f64 t147):=(bC K143.1 2).trans rfl;have hfz27_0:=bF K143.1 0;have hfz27_1:=bF K143.1 1;have hfz27_2:=bF K143.1 2)|((with_reducible refine gate_callee (f:=18) rfl ?_);refine goesL_ (some 33) rfl rfl Try.func18 (by kernel_rfl) rfl #[.agg #[.int .i64 t145,.float .f64 t146,.float .f64 t147]] rfl (by (try simp only [List.map_toArray,List.map_cons,List.map_nil]);first|done|rfl|(simp only [List.length_drop,List.length_take];rfl)) ?_;(with_reducible refine (gauge_Cost.calls t145 t146 t147 t150 t151 _ A9.out).mono ?_);rintro e w28 ⟨rfl,hb⟩;refine ⟨_,rfl,?_⟩;have n0_:=Aside0.mk (Kd.R_below (by (with_reducible repeat (first|apply Kd.R_alloc|apply Kd.R_drewN|apply Kd.R_drew));exact HO_5.out) hb);have n1_:=Aside0.mk (bB (g:=G142) (o:=.cells #[.int .i64 0,.float .f64 0,.float .f64 0] 24 (0,0)) (by (with_reducible repeat first|apply bN|apply bD|apply bA);exact K142.1) hb);have n2_:=Aside0.mk (bB (g:=G143) (o:=.cells #[.int .i64 t145,.float .f64 t146,.float .f64 t147] 24 (0,0)) (by (with_reducible repeat first|apply bN|apply bD|apply bA);exact K143.1) hb);have n3_:=Aside0.mk (bB (g:=G149) (o:=.cells #[.int .i64 t145,.float .f64 t146,.float .f64 t147] 24 (0,0)) (by (with_reducible repeat first|apply bN|apply bD|apply bA);exact K149.1) hb);have n4_:=Aside0.mk (below_step (by repeat (first|(with_reducible first|exact HB.1|apply bwA|apply bwN|apply bw1|refine bS ?_ GE142.1|refine bS ?_ GE143.1|refine bS ?_ GE149.1)|exact HB.1)) hb);clear HO_5;clear K142;clear K143;clear K149;clear HB;have HO_5:=n0_;have K142:=n1_;have K143:=n2_;have K149:=n3_;have HB:=n4_;clear n0_ n1_ n2_ n3_ n4_;(try clear hb);(try clear hb2);(try clear hk);(try clear hi);obtain ⟨Ao29,co29,eo29⟩:=Kd.R_slice HO_5.out;subst eo29;have p152 : 0 ≤ ((ji11) : Int):=of_decide_eq_true (by first|(with_reducible assumption)|assumption);have q152 : (ji11) < (x5_1.length : Int):=of_decide_eq_true (by first|(with_reducible assumption)|assumption);obtain ⟨ad152,e152,hx152_0⟩:=Kd.at_float64 (Kd.R_reads' HO_5.out).2.2 (ji11) p152 q152;cases e152;replace p152:=eq_true p152;replace q152:=eq_true q152)|((with_reducible refine gate_callee (f:=15) rfl ?_);refine goesL_ (some 47) rfl rfl Try.func15 (by kernel_rfl) rfl #[.float .f64 (rdOf (0 : Nat) x5_1 (ji11)),.float .f64 t150] rfl (by (try simp only [List.map_toArray,List.map_cons,List.map_nil]);first|done|(simp only [hji11];rfl)|rfl|(simp only [List.length_drop,List.length_take];rfl)) ?_;(with_reducible refine (gauge_Hold.calls k1 (rdOf (0 : Nat) x5_1 (ji11)) t150 t153 t154 _ A14.out).mono ?_);rintro e w' ⟨rfl,⟨nd,rfl⟩⟩;refine ⟨_,rfl,?_⟩)|((with_reducible refine gate_builtin (b:=.append) (xs:=#[.tmp 50,.tmp 52]) rfl ?_);at_builtin;refine Kd.R_append Kd.float64 (w0:=w) w.heap.size rfl (.tmp 50) (.tmp 52) 38 22 (.float .f64 0) 8 rfl Try.underlying38 info22 rfl (by decide) (by omega) (.slice (some ad152) x5_1.length co29) x5_1 t153 [.float .f64 t153] (fun _ => True) (fun _ => False) rfl rfl ?aP (fun _ hk => hk.elim) ?aF ?aO ?aB ?aS ?aL ?_;(case aP => exact rfl);(case aB => exact (by repeat (first|(with_reducible first|exact HB.1|apply bwA|apply bwN|apply bw1|refine bS ?_ GE142.1|refine bS ?_ GE143.1|refine bS ?_ GE149.1)|exact HB.1)));(case aF => exact (fun _ _ => trivial));(case aO => exact (by (with_reducible repeat (first|apply Kd.R_alloc|apply Kd.R_drewN|apply Kd.R_drew));exact HO_5.out));(case aS => exact (below_size (by repeat (first|(with_reducible first|exact HB.1|apply bwA|apply bwN|apply bw1|refine bS ?_ GE142.1|refine bS ?_ GE143.1|refine bS ?_ GE149.1)|exact HB.1))));(case aL => have:=LMc15.out;omega);intro v156 w30 ho hb hg hat;rw [← Ny155.out] at ho;have n0_:=Aside0.mk (blk_grown (g:=G142) (o:=.cells #[.int .i64 0,.float .f64 0,.float .f64 0] 24 (0,0)) (by (with_reducible repeat first|apply bN|apply bD|apply bA);exact K142.1) hg (Kd.R_ne HO_5.out K142.1 (by decide)));have n1_:=Aside0.mk (blk_grown (g:=G143) (o:=.cells #[.int .i64 t145,.float .f64 t146,.float .f64 t147] 24 (0,0)) (by (with_reducible repeat first|apply bN|apply bD|apply bA);exact K143.1) hg (Kd.R_ne HO_5.out K143.1 (by decide)));have n2_:=Aside0.mk (blk_grown (g:=G149) (o:=.cells #[.int .i64 t145,.float .f64 t146,.float .f64 t147] 24 (0,0)) (by (with_reducible repeat first|apply bN|apply bD|apply bA);exact K149.1) hg (Kd.R_ne HO_5.out K149.1 (by decide)));have n3_:=Aside0.mk (hb);have n4_:=Aside0.mk (ho);clear K142;clear K143;clear K149;clear HB;clear HO_5;have K142:=n0_;have K143:=n1_;have K149:=n2_;have HB:=n3_;have HO157:=n4_;clear n0_ n1_ n2_ n3_ n4_;clear ho hb hg hat))
           go_roundg k1
           case measure => have:=HK1.out;omega
           case rel => exact ⟨(y155),(x7_1),(wrap64 (x16_1 + 1)),(t145),(t146),(t147),(by first|rfl|(simp;done)|(simp [*];done)),(by first|rfl|(simp;done)|(simp [*];done)),H',⟨by have:=HK1.out;omega⟩,⟨by (with_reducible repeat (first|apply Kd.R_alloc|apply Kd.R_drewN|apply Kd.R_drew));exact HO157.out⟩,⟨by (with_reducible repeat first|apply bN|apply bD|apply bA);exact K142.1⟩,⟨by (with_reducible repeat first|apply bN|apply bD|apply bA);exact K143.1⟩,⟨by repeat (first|(with_reducible first|exact HB.1|apply bwA|apply bwN|apply bw1|refine bS ?_ GE142.1|refine bS ?_ GE143.1|refine bS ?_ GE149.1)|exact HB.1)⟩⟩
          ·rw [if_neg c15] at H
           exact absurd H (by simp)
         ·rw [if_neg c13] at H
          exact absurd H (by simp)
        ·rw [if_neg c12] at H
         exact absurd H (by simp)
       ·rw [if_neg c10] at H
        have c10b0 : decide (0 < (x5_1.length : Int)) = false:=decide_eq_false c10
        have c10b1 : decide (0 < x5_1.length) = false:=decide_eq_false (by omega)
        clear c10
        by_cases c31 : x5_1.length < 17592186044416
        ·rw [if_pos c31] at H
         have LMc31:=Aside0.mk c31
         clear c31
         obtain ⟨y158,hy158⟩ : ∃ y_ : List Nat,y_ = (x5_1 ++ [t150]):=⟨_,rfl⟩
         replace H : (gauge_Run.l0 k1 y158 x7_1 l0 (l0.length : Int) (wrap64 (x16_1 + 1)) t145 t146 t147) = some (r1,r2,r3,r4,r5):=by first|(rw [hy158];with_reducible exact H)|(have H2_:=(Option.bind_some _ _).symm.trans H;rw [hy158];with_reducible exact H2_)|(have H2_:=(Option.bind_some _ _).symm.trans H;with_reducible exact H2_)|with_reducible exact H|(rw [hy158];exact H)|exact H
         have Ny158:=Aside0.mk hy158
         clear hy158
         have H':=Aside0.mk H
         clear H
         have p144 : 0 ≤ (x16_1 : Int):=of_decide_eq_true (by first|(with_reducible assumption)|assumption)
         have q144 : x16_1 < (l0.length : Int):=of_decide_eq_true (by first|(with_reducible assumption)|assumption)
         obtain ⟨ad144,e144,hx144_0⟩:=Kd.at_float64 HR0.out x16_1 p144 q144
         cases e144
         replace hx144_0:=(HB.1.cell (World.block_lt_of_cell? w _ hx144_0)).trans hx144_0
         replace p144:=eq_true p144
         replace q144:=eq_true q144
         have hnb32:=NB143_142.1
         have hnc32:=NB142_143.1
         have hcz33_0 : wr.cell? ⟨G143,0,none⟩ = some (.int .i64 x144000_1):=(bC K143.1 0).trans rfl
         have hcz33_1 : wr.cell? ⟨G143,1,none⟩ = some (.float .f64 x144001_1):=(bC K143.1 1).trans rfl
         have hcz33_2 : wr.cell? ⟨G143,2,none⟩ = some (.float .f64 x144002_1):=(bC K143.1 2).trans rfl
         have hfz33_0:=bF K143.1 0
         have hfz33_1:=bF K143.1 1
         have hfz33_2:=bF K143.1 2
         go_wp2_with (first|((with_reducible refine gate_callee (f:=9) rfl ?_);refine goesL_ (some 23) rfl rfl Try.func9 (by kernel_rfl) rfl #[.agg #[.int .i64 x144000_1,.float .f64 x144001_1,.float .f64 x144002_1],.float .f64 (rdOf (0 : Nat) l0 x16_1)] rfl (by (try simp only [List.map_toArray,List.map_cons,List.map_nil]);first|done|rfl|(simp only [List.length_drop,List.length_take];rfl)) ?_;(with_reducible refine (gauge_Feed.calls x144000_1 x144001_1 x144002_1 (rdOf (0 : Nat) l0 x16_1) t145 t146 t147 t148 _ A7.out).mono ?_);rintro e w34 ⟨rfl,hb⟩;refine ⟨_,rfl,?_⟩;have n0_:=Aside0.mk (Kd.R_below (by (with_reducible repeat (first|apply Kd.R_alloc|apply Kd.R_drewN|apply Kd.R_drew));exact HO_5.out) hb);have n1_:=Aside0.mk (bB (g:=G142) (o:=.cells #[.int .i64 0,.float .f64 0,.float .f64 0] 24 (0,0)) (by (with_reducible repeat first|apply bN|apply bD|apply bA);exact K142.1) hb);have n2_:=Aside0.mk (bB (g:=G143) (o:=.cells #[.int .i64 x144000_1,.float .f64 x144001_1,.float .f64 x144002_1] 24 (0,0)) (by (with_reducible repeat first|apply bN|apply bD|apply bA);exact K143.1) hb);have n3_:=Aside0.mk (below_step (by repeat (first|(with_reducible first|exact HB.1|apply bwA|apply bwN|apply bw1|refine bS ?_ GE142.1|refine bS ?_ GE143.1)|exact HB.1)) hb);clear HO_5;clear K142;clear K143;clear HB;have HO_5:=n0_;have K142:=n1_;have K143:=n2_;have HB:=n3_;clear n0_ n1_ n2_ n3_;(try clear hb);(try clear hb2);(try clear hk);(try clear hi))|((with_reducible refine gate_dst (N:=10) rfl ?_);refine box_event ?hg (N:=10) ?hd (cs:=#[.int .i64 0,.float .f64 0,.float .f64 0]) (t:=24) ?hr ?_;(case hd => rfl);(case hg => rfl);(case hr => first|(go_simp;done)|(go_simp;rfl));intro G149 hg w35 hbox hb;have n0_:=Aside0.mk (Kd.R_below (by (with_reducible repeat (first|apply Kd.R_alloc|apply Kd.R_drewN|apply Kd.R_drew));exact HO_5.out) hb);have n1_:=Aside0.mk (bB (g:=G142) (o:=.cells #[.int .i64 0,.float .f64 0,.float .f64 0] 24 (0,0)) (by (with_reducible repeat first|apply bN|apply bD|apply bA);exact K142.1) hb);have n2_:=Aside0.mk (bB (g:=G143) (o:=.cells #[.int .i64 x144000_1,.float .f64 x144001_1,.float .f64 x144002_1] 24 (0,0)) (by (with_reducible repeat first|apply bN|apply bD|apply bA);exact K143.1) hb);have n3_:=Aside0.mk (below_step (by repeat (first|(with_reducible first|exact HB.1|apply bwA|apply bwN|apply bw1|refine bS ?_ GE142.1|refine bS ?_ GE143.1)|exact HB.1)) hb);have n4_:=Aside0.mk (hbox);have n5_:=Aside0.mk ((by rw [hg];exact (below_size (by repeat (first|(with_reducible first|exact HB.1|apply bwA|apply bwN|apply bw1|refine bS ?_ GE142.1|refine bS ?_ GE143.1)|exact HB.1))) : w.heap.size ≤ G149));have n6_:=Aside0.mk ((by rw [hg];exact (below_size (by repeat (first|(with_reducible first|exact HB.1|apply bwA|apply bwN|apply bw1|refine bS ?_ GE142.1|refine bS ?_ GE143.1)|exact HB.1))) : w.heap.size ≤ G149));have n7_:=Aside0.mk ((by rw [hg];exact Nat.ne_of_lt (blk_lt (g:=G142) (o:=.cells #[.int .i64 0,.float .f64 0,.float .f64 0] 24 (0,0)) (by (with_reducible repeat first|apply bN|apply bD|apply bA);exact K142.1)) : G142 ≠ G149));have n8_:=Aside0.mk ((by rw [hg];exact Nat.ne_of_gt (blk_lt (g:=G142) (o:=.cells #[.int .i64 0,.float .f64 0,.float .f64 0] 24 (0,0)) (by (with_reducible repeat first|apply bN|apply bD|apply bA);exact K142.1)) : G149 ≠ G142));have n9_:=Aside0.mk ((by rw [hg];exact Nat.ne_of_lt (blk_lt (g:=G143) (o:=.cells #[.int .i64 x144000_1,.float .f64 x144001_1,.float .f64 x144002_1] 24 (0,0)) (by (with_reducible repeat first|apply bN|apply bD|apply bA);exact K143.1)) : G143 ≠ G149));have n10_:=Aside0.mk ((by rw [hg];exact Nat.ne_of_gt (blk_lt (g:=G143) (o:=.cells #[.int .i64 x144000_1,.float .f64 x144001_1,.float .f64 x144002_1] 24 (0,0)) (by (with_reducible repeat first|apply bN|apply bD|apply bA);exact K143.1)) : G149 ≠ G143));clear HO_5;clear K142;clear K143;clear HB;have HO_5:=n0_;have K142:=n1_;have K143:=n2_;have HB:=n3_;have K149:=n4_;have GW149:=n5_;have GE149:=n6_;have NB142_149:=n7_;have NB149_142:=n8_;have NB143_149:=n9_;have NB149_143:=n10_;clear n0_ n1_ n2_ n3_ n4_ n5_ n6_ n7_ n8_ n9_ n10_;clear hb hbox hg;have hnb36:=NB149_142.1;have hnc36:=NB142_149.1;have hnb37:=NB149_143.1;have hnc37:=NB143_149.1;have hcz38_0 : w35.cell? ⟨G149,0,none⟩ = some (.int .i64 0):=(bC K149.1 0).trans rfl;have hcz38_1 : w35.cell? ⟨G149,1,none⟩ = some (.float .f64 0):=(bC K149.1 1).trans rfl;have hcz38_2 : w35.cell? ⟨G149,2,none⟩ = some (.float .f64 0):=(bC K149.1 2).trans rfl;have hfz38_0:=bF K149.1 0;have hfz38_1:=bF K149.1 1;have hfz38_2:=bF K149.1 2)|((with_reducible refine gate_store (t:=24) (p:=10) rfl ?_);refine store_event (t:=24) (p:=10) (v:=?vo_w39) (w1:=(((w35.setCell ⟨G149,0,none⟩ (.int .i64 t145)).setCell ⟨G149,1,none⟩ (.float .f64 t146)).setCell ⟨G149,2,none⟩ (.float .f64 t147))) ?hg ?ho ?hn ?hr ?_;(case ho => rfl);(case hg => rfl);(case hn => rfl);(case hr => first|(go_simp;done)|(go_simp;rfl));intro w39 hw;have n0_ : Aside0 (Kd.R Kd.float64 22 w39 w.heap.size (fun _ => True) u5 x5_1):=⟨(by rw [hw];exact (by (with_reducible repeat (first|apply Kd.R_alloc|apply Kd.R_drewN|apply Kd.R_drew));exact Kd.R_mono (Kd.R_far (p:=⟨G149,2,none⟩) (Kd.R_far (p:=⟨G149,1,none⟩) (Kd.R_far (p:=⟨G149,0,none⟩) (Kd.R_types HO_5.out K149.1 (by decide)) (fun _ hk => hk.2) (.int .i64 t145)) (fun _ hk => hk.2) (.float .f64 t146)) (fun _ hk => hk.2) (.float .f64 t147)) (fun _ hk => trivial)))⟩;have n1_ : Aside0 (w39.heap[G142]? = some (.cells #[.int .i64 0,.float .f64 0,.float .f64 0] 24 (0,0))):=⟨(by rw [hw];exact (by (with_reducible repeat first|apply bN|apply bD|apply bA);refine bZ ?_ NB142_149.1 _;(with_reducible repeat first|apply bN|apply bD|apply bA);refine bZ ?_ NB142_149.1 _;(with_reducible repeat first|apply bN|apply bD|apply bA);refine bZ ?_ NB142_149.1 _;(with_reducible repeat first|apply bN|apply bD|apply bA);exact K142.1))⟩;have n2_ : Aside0 (w39.heap[G143]? = some (.cells #[.int .i64 x144000_1,.float .f64 x144001_1,.float .f64 x144002_1] 24 (0,0))):=⟨(by rw [hw];exact (by (with_reducible repeat first|apply bN|apply bD|apply bA);refine bZ ?_ NB143_149.1 _;(with_reducible repeat first|apply bN|apply bD|apply bA);refine bZ ?_ NB143_149.1 _;(with_reducible repeat first|apply bN|apply bD|apply bA);refine bZ ?_ NB143_149.1 _;(with_reducible repeat first|apply bN|apply bD|apply bA);exact K143.1))⟩;have n3_ : Aside0 (w39.heap[G149]? = some (.cells #[.int .i64 t145,.float .f64 t146,.float .f64 t147] 24 (0,0))):=⟨(by rw [hw];exact (by (with_reducible repeat first|apply bN|apply bD|apply bA);refine blk_put (cs:=#[.int .i64 t145,.float .f64 t146,.float .f64 0]) ?_ 2 _ rfl;(with_reducible repeat first|apply bN|apply bD|apply bA);refine blk_put (cs:=#[.int .i64 t145,.float .f64 0,.float .f64 0]) ?_ 1 _ rfl;(with_reducible repeat first|apply bN|apply bD|apply bA);refine blk_put (cs:=#[.int .i64 0,.float .f64 0,.float .f64 0]) ?_ 0 _ rfl;(with_reducible repeat first|apply bN|apply bD|apply bA);exact K149.1))⟩;have n4_ : Aside0 (Below w.heap.size w w39):=⟨(by rw [hw];exact (by repeat (first|(with_reducible first|exact HB.1|apply bwA|apply bwN|apply bw1|refine bS ?_ GE142.1|refine bS ?_ GE143.1|refine bS ?_ GE149.1)|exact HB.1)))⟩;clear hw;clear HO_5;clear K142;clear K143;clear K149;clear HB;have HO_5:=n0_;have K142:=n1_;have K143:=n2_;have K149:=n3_;have HB:=n4_;clear n0_ n1_ n2_ n3_ n4_;have hcz40_0 : w39.cell? ⟨G149,0,none⟩ = some (.int .i64 t145):=(bC K149.1 0).trans rfl;have hcz40_1 : w39.cell? ⟨G149,1,none⟩ = some (.float .f64 t146):=(bC K149.1 1).trans rfl;have hcz40_2 : w39.cell? ⟨G149,2,none⟩ = some (.float .f64 t147):=(bC K149.1 2).trans rfl;have hfz40_0:=bF K149.1 0;have hfz40_1:=bF K149.1 1;have hfz40_2:=bF K149.1 2;have hcz41_0 : w39.cell? ⟨G143,0,none⟩ = some (.int .i64 x144000_1):=(bC K143.1 0).trans rfl;have hcz41_1 : w39.cell? ⟨G143,1,none⟩ = some (.float .f64 x144001_1):=(bC K143.1 1).trans rfl;have hcz41_2 : w39.cell? ⟨G143,2,none⟩ = some (.float .f64 x144002_1):=(bC K143.1 2).trans rfl;have hfz41_0:=bF K143.1 0;have hfz41_1:=bF K143.1 1;have hfz41_2:=bF K143.1 2)|((with_reducible refine gate_store (t:=24) (p:=6) rfl ?_);refine store_event (t:=24) (p:=6) (v:=?vo_w42) (w1:=(((w39.setCell ⟨G143,0,none⟩ (.int .i64 t145)).setCell ⟨G143,1,none⟩ (.float .f64 t146)).setCell ⟨G143,2,none⟩ (.float .f64 t147))) ?hg ?ho ?hn ?hr ?_;(case ho => rfl);(case hg => rfl);(case hn => rfl);(case hr => first|(go_simp;done)|(go_simp;rfl));intro w42 hw;have n0_ : Aside0 (Kd.R Kd.float64 22 w42 w.heap.size (fun _ => True) u5 x5_1):=⟨(by rw [hw];exact (by (with_reducible repeat (first|apply Kd.R_alloc|apply Kd.R_drewN|apply Kd.R_drew));exact Kd.R_mono (Kd.R_far (p:=⟨G143,2,none⟩) (Kd.R_far (p:=⟨G143,1,none⟩) (Kd.R_far (p:=⟨G143,0,none⟩) (Kd.R_types HO_5.out K143.1 (by decide)) (fun _ hk => hk.2) (.int .i64 t145)) (fun _ hk => hk.2) (.float .f64 t146)) (fun _ hk => hk.2) (.float .f64 t147)) (fun _ hk => trivial)))⟩;have n1_ : Aside0 (w42.heap[G142]? = some (.cells #[.int .i64 0,.float .f64 0,.float .f64 0] 24 (0,0))):=⟨(by rw [hw];exact (by (with_reducible repeat first|apply bN|apply bD|apply bA);refine bZ ?_ NB142_143.1 _;(with_reducible repeat first|apply bN|apply bD|apply bA);refine bZ ?_ NB142_143.1 _;(with_reducible repeat first|apply bN|apply bD|apply bA);refine bZ ?_ NB142_143.1 _;(with_reducible repeat first|apply bN|apply bD|apply bA);exact K142.1))⟩;have n2_ : Aside0 (w42.heap[G143]? = some (.cells #[.int .i64 t145,.float .f64 t146,.float .f64 t147] 24 (0,0))):=⟨(by rw [hw];exact (by (with_reducible repeat first|apply bN|apply bD|apply bA);refine blk_put (cs:=#[.int .i64 t145,.float .f64 t146,.float .f64 x144002_1]) ?_ 2 _ rfl;(with_reducible repeat first|apply bN|apply bD|apply bA);refine blk_put (cs:=#[.int .i64 t145,.float .f64 x144001_1,.float .f64 x144002_1]) ?_ 1 _ rfl;(with_reducible repeat first|apply bN|apply bD|apply bA);refine blk_put (cs:=#[.int .i64 x144000_1,.float .f64 x144001_1,.float .f64 x144002_1]) ?_ 0 _ rfl;(with_reducible repeat first|apply bN|apply bD|apply bA);exact K143.1))⟩;have n3_ : Aside0 (w42.heap[G149]? = some (.cells #[.int .i64 t145,.float .f64 t146,.float .f64 t147] 24 (0,0))):=⟨(by rw [hw];exact (by (with_reducible repeat first|apply bN|apply bD|apply bA);refine bZ ?_ NB149_143.1 _;(with_reducible repeat first|apply bN|apply bD|apply bA);refine bZ ?_ NB149_143.1 _;(with_reducible repeat first|apply bN|apply bD|apply bA);refine bZ ?_ NB149_143.1 _;(with_reducible repeat first|apply bN|apply bD|apply bA);exact K149.1))⟩;have n4_ : Aside0 (Below w.heap.size w w42):=⟨(by rw [hw];exact (by repeat (first|(with_reducible first|exact HB.1|apply bwA|apply bwN|apply bw1|refine bS ?_ GE142.1|refine bS ?_ GE143.1|refine bS ?_ GE149.1)|exact HB.1)))⟩;clear hw;clear HO_5;clear K142;clear K143;clear K149;clear HB;have HO_5:=n0_;have K142:=n1_;have K143:=n2_;have K149:=n3_;have HB:=n4_;clear n0_ n1_ n2_ n3_ n4_;have hcz43_0 : w42.cell? ⟨G143,0,none⟩ = some (.int .i64 t145):=(bC K143.1 0).trans rfl;have hcz43_1 : w42.cell? ⟨G143,1,none⟩ = some (.float .f64 t146):=(bC K143.1 1).trans rfl;have hcz43_2 : w42.cell? ⟨G143,2,none⟩ = some (.float .f64 t147):=(bC K143.1 2).trans rfl;have hfz43_0:=bF K143.1 0;have hfz43_1:=bF K143.1 1;have hfz43_2:=bF K143.1 2)|((with_reducible refine gate_callee (f:=18) rfl ?_);refine goesL_ (some 33) rfl rfl Try.func18 (by kernel_rfl) rfl #[.agg #[.int .i64 t145,.float .f64 t146,.float .f64 t147]] rfl (by (try simp only [List.map_toArray,List.map_cons,List.map_nil]);first|done|rfl|(simp only [List.length_drop,List.length_take];rfl)) ?_;(with_reducible refine (gauge_Cost.calls t145 t146 t147 t150 t151 _ A9.out).mono ?_);rintro e w44 ⟨rfl,hb⟩;refine ⟨_,rfl,?_⟩;have n0_:=Aside0.mk (Kd.R_below (by (with_reducible repeat (first|apply Kd.R_alloc|apply Kd.R_drewN|apply Kd.R_drew));exact HO_5.out) hb);have n1_:=Aside0.mk (bB (g:=G142) (o:=.cells #[.int .i64 0,.float .f64 0,.float .f64 0] 24 (0,0)) (by (with_reducible repeat first|apply bN|apply bD|apply bA);exact K142.1) hb);have n2_:=Aside0.mk (bB (g:=G143) (o:=.cells #[.int .i64 t145,.float .f64 t146,.float .f64 t147] 24 (0,0)) (by (with_reducible repeat first|apply bN|apply bD|apply bA);exact K143.1) hb);have n3_:=Aside0.mk (bB (g:=G149) (o:=.cells #[.int .i64 t145,.float .f64 t146,.float .f64 t147] 24 (0,0)) (by (with_reducible repeat first|apply bN|apply bD|apply bA);exact K149.1) hb);have n4_:=Aside0.mk (below_step (by repeat (first|(with_reducible first|exact HB.1|apply bwA|apply bwN|apply bw1|refine bS ?_ GE142.1|refine bS ?_ GE143.1|refine bS ?_ GE149.1)|exact HB.1)) hb);clear HO_5;clear K142;clear K143;clear K149;clear HB;have HO_5:=n0_;have K142:=n1_;have K143:=n2_;have K149:=n3_;have HB:=n4_;clear n0_ n1_ n2_ n3_ n4_;(try clear hb);(try clear hb2);(try clear hk);(try clear hi);obtain ⟨Ao45,co45,eo45⟩:=Kd.R_slice HO_5.out;subst eo45)|((with_reducible refine gate_builtin (b:=.append) (xs:=#[.tmp 50,.tmp 52]) rfl ?_);at_builtin;refine Kd.R_append Kd.float64 (w0:=w) w.heap.size rfl (.tmp 50) (.tmp 52) 38 22 (.float .f64 0) 8 rfl Try.underlying38 info22 rfl (by decide) (by omega) (.slice Ao45 x5_1.length co45) x5_1 t150 [.float .f64 t150] (fun _ => True) (fun _ => False) rfl rfl ?aP (fun _ hk => hk.elim) ?aF ?aO ?aB ?aS ?aL ?_;(case aP => exact rfl);(case aB => exact (by repeat (first|(with_reducible first|exact HB.1|apply bwA|apply bwN|apply bw1|refine bS ?_ GE142.1|refine bS ?_ GE143.1|refine bS ?_ GE149.1)|exact HB.1)));(case aF => exact (fun _ _ => trivial));(case aO => exact (by (with_reducible repeat (first|apply Kd.R_alloc|apply Kd.R_drewN|apply Kd.R_drew));exact HO_5.out));(case aS => exact (below_size (by repeat (first|(with_reducible first|exact HB.1|apply bwA|apply bwN|apply bw1|refine bS ?_ GE142.1|refine bS ?_ GE143.1|refine bS ?_ GE149.1)|exact HB.1))));(case aL => have:=LMc31.out;omega);intro v159 w46 ho hb hg hat;rw [← Ny158.out] at ho;have n0_:=Aside0.mk (blk_grown (g:=G142) (o:=.cells #[.int .i64 0,.float .f64 0,.float .f64 0] 24 (0,0)) (by (with_reducible repeat first|apply bN|apply bD|apply bA);exact K142.1) hg (Kd.R_ne HO_5.out K142.1 (by decide)));have n1_:=Aside0.mk (blk_grown (g:=G143) (o:=.cells #[.int .i64 t145,.float .f64 t146,.float .f64 t147] 24 (0,0)) (by (with_reducible repeat first|apply bN|apply bD|apply bA);exact K143.1) hg (Kd.R_ne HO_5.out K143.1 (by decide)));have n2_:=Aside0.mk (blk_grown (g:=G149) (o:=.cells #[.int .i64 t145,.float .f64 t146,.float .f64 t147] 24 (0,0)) (by (with_reducible repeat first|apply bN|apply bD|apply bA);exact K149.1) hg (Kd.R_ne HO_5.out K149.1 (by decide)));have n3_:=Aside0.mk (hb);have n4_:=Aside0.mk (ho);clear K142;clear K143;clear K149;clear HB;clear HO_5;have K142:=n0_;have K143:=n1_;have K149:=n2_;have HB:=n3_;have HO160:=n4_;clear n0_ n1_ n2_ n3_ n4_;clear ho hb hg hat))
         go_roundg k1
         case measure => have:=HK1.out;omega
         case rel => exact ⟨(y158),(x7_1),(wrap64 (x16_1 + 1)),(t145),(t146),(t147),(by first|rfl|(simp;done)|(simp [*];done)),(by first|rfl|(simp;done)|(simp [*];done)),H',⟨by have:=HK1.out;omega⟩,⟨by (with_reducible repeat (first|apply Kd.R_alloc|apply Kd.R_drewN|apply Kd.R_drew));exact HO160.out⟩,⟨by (with_reducible repeat first|apply bN|apply bD|apply bA);exact K142.1⟩,⟨by (with_reducible repeat first|apply bN|apply bD|apply bA);exact K143.1⟩,⟨by repeat (first|(with_reducible first|exact HB.1|apply bwA|apply bwN|apply bw1|refine bS ?_ GE142.1|refine bS ?_ GE143.1|refine bS ?_ GE149.1)|exact HB.1)⟩⟩
        ·rw [if_neg c31] at H
         exact absurd H (by simp)
      ·rw [if_neg c8] at H
       have c8b0 : (t148 == 0) = false:=beq_eq_false_iff_ne.mpr c8
       have c8b1 : (t148 != 0) = true:=bne_iff_ne.mpr c8
       have H':=Aside0.mk H
       clear H
       have p144 : 0 ≤ (x16_1 : Int):=of_decide_eq_true (by first|(with_reducible assumption)|assumption)
       have q144 : x16_1 < (l0.length : Int):=of_decide_eq_true (by first|(with_reducible assumption)|assumption)
       obtain ⟨ad144,e144,hx144_0⟩:=Kd.at_float64 HR0.out x16_1 p144 q144
       cases e144
       replace hx144_0:=(HB.1.cell (World.block_lt_of_cell? w _ hx144_0)).trans hx144_0
       replace p144:=eq_true p144
       replace q144:=eq_true q144
       have hnb47:=NB143_142.1
       have hnc47:=NB142_143.1
       have hcz48_0 : wr.cell? ⟨G143,0,none⟩ = some (.int .i64 x144000_1):=(bC K143.1 0).trans rfl
       have hcz48_1 : wr.cell? ⟨G143,1,none⟩ = some (.float .f64 x144001_1):=(bC K143.1 1).trans rfl
       have hcz48_2 : wr.cell? ⟨G143,2,none⟩ = some (.float .f64 x144002_1):=(bC K143.1 2).trans rfl
       have hfz48_0:=bF K143.1 0
       have hfz48_1:=bF K143.1 1
       have hfz48_2:=bF K143.1 2
       go_wp2_with (first|((with_reducible refine gate_callee (f:=9) rfl ?_);refine goesL_ (some 23) rfl rfl Try.func9 (by kernel_rfl) rfl #[.agg #[.int .i64 x144000_1,.float .f64 x144001_1,.float .f64 x144002_1],.float .f64 (rdOf (0 : Nat) l0 x16_1)] rfl (by (try simp only [List.map_toArray,List.map_cons,List.map_nil]);first|done|rfl|(simp only [List.length_drop,List.length_take];rfl)) ?_;(with_reducible refine (gauge_Feed.calls x144000_1 x144001_1 x144002_1 (rdOf (0 : Nat) l0 x16_1) t145 t146 t147 t148 _ A7.out).mono ?_);rintro e w49 ⟨rfl,hb⟩;refine ⟨_,rfl,?_⟩;have n0_:=Aside0.mk (Kd.R_below (by (with_reducible repeat (first|apply Kd.R_alloc|apply Kd.R_drewN|apply Kd.R_drew));exact HO_5.out) hb);have n1_:=Aside0.mk (bB (g:=G142) (o:=.cells #[.int .i64 0,.float .f64 0,.float .f64 0] 24 (0,0)) (by (with_reducible repeat first|apply bN|apply bD|apply bA);exact K142.1) hb);have n2_:=Aside0.mk (bB (g:=G143) (o:=.cells #[.int .i64 x144000_1,.float .f64 x144001_1,.float .f64 x144002_1] 24 (0,0)) (by (with_reducible repeat first|apply bN|apply bD|apply bA);exact K143.1) hb);have n3_:=Aside0.mk (below_step (by repeat (first|(with_reducible first|exact HB.1|apply bwA|apply bwN|apply bw1|refine bS ?_ GE142.1|refine bS ?_ GE143.1)|exact HB.1)) hb);clear HO_5;clear K142;clear K143;clear HB;have HO_5:=n0_;have K142:=n1_;have K143:=n2_;have HB:=n3_;clear n0_ n1_ n2_ n3_;(try clear hb);(try clear hb2);(try clear hk);(try clear hi))|((with_reducible refine gate_dst (N:=10) rfl ?_);refine box_event ?hg (N:=10) ?hd (cs:=#[.int .i64 0,.float .f64 0,.float .f64 0]) (t:=24) ?hr ?_;(case hd => rfl);(case hg => rfl);(case hr => first|(go_simp;done)|(go_simp;rfl));intro G149 hg w50 hbox hb;have n0_:=Aside0.mk (Kd.R_below (by (with_reducible repeat (first|apply Kd.R_alloc|apply Kd.R_drewN|apply Kd.R_drew));exact HO_5.out) hb);have n1_:=Aside0.mk (bB (g:=G142) (o:=.cells #[.int .i64 0,.float .f64 0,.float .f64 0] 24 (0,0)) (by (with_reducible repeat first|apply bN|apply bD|apply bA);exact K142.1) hb);have n2_:=Aside0.mk (bB (g:=G143) (o:=.cells #[.int .i64 x144000_1,.float .f64 x144001_1,.float .f64 x144002_1] 24 (0,0)) (by (with_reducible repeat first|apply bN|apply bD|apply bA);exact K143.1) hb);have n3_:=Aside0.mk (below_step (by repeat (first|(with_reducible first|exact HB.1|apply bwA|apply bwN|apply bw1|refine bS ?_ GE142.1|refine bS ?_ GE143.1)|exact HB.1)) hb);have n4_:=Aside0.mk (hbox);have n5_:=Aside0.mk ((by rw [hg];exact (below_size (by repeat (first|(with_reducible first|exact HB.1|apply bwA|apply bwN|apply bw1|refine bS ?_ GE142.1|refine bS ?_ GE143.1)|exact HB.1))) : w.heap.size ≤ G149));have n6_:=Aside0.mk ((by rw [hg];exact (below_size (by repeat (first|(with_reducible first|exact HB.1|apply bwA|apply bwN|apply bw1|refine bS ?_ GE142.1|refine bS ?_ GE143.1)|exact HB.1))) : w.heap.size ≤ G149));have n7_:=Aside0.mk ((by rw [hg];exact Nat.ne_of_lt (blk_lt (g:=G142) (o:=.cells #[.int .i64 0,.float .f64 0,.float .f64 0] 24 (0,0)) (by (with_reducible repeat first|apply bN|apply bD|apply bA);exact K142.1)) : G142 ≠ G149));have n8_:=Aside0.mk ((by rw [hg];exact Nat.ne_of_gt (blk_lt (g:=G142) (o:=.cells #[.int .i64 0,.float .f64 0,.float .f64 0] 24 (0,0)) (by (with_reducible repeat first|apply bN|apply bD|apply bA);exact K142.1)) : G149 ≠ G142));have n9_:=Aside0.mk ((by rw [hg];exact Nat.ne_of_lt (blk_lt (g:=G143) (o:=.cells #[.int .i64 x144000_1,.float .f64 x144001_1,.float .f64 x144002_1] 24 (0,0)) (by (with_reducible repeat first|apply bN|apply bD|apply bA);exact K143.1)) : G143 ≠ G149));have n10_:=Aside0.mk ((by rw [hg];exact Nat.ne_of_gt (blk_lt (g:=G143) (o:=.cells #[.int .i64 x144000_1,.float .f64 x144001_1,.float .f64 x144002_1] 24 (0,0)) (by (with_reducible repeat first|apply bN|apply bD|apply bA);exact K143.1)) : G149 ≠ G143));clear HO_5;clear K142;clear K143;clear HB;have HO_5:=n0_;have K142:=n1_;have K143:=n2_;have HB:=n3_;have K149:=n4_;have GW149:=n5_;have GE149:=n6_;have NB142_149:=n7_;have NB149_142:=n8_;have NB143_149:=n9_;have NB149_143:=n10_;clear n0_ n1_ n2_ n3_ n4_ n5_ n6_ n7_ n8_ n9_ n10_;clear hb hbox hg;have hnb51:=NB149_142.1;have hnc51:=NB142_149.1;have hnb52:=NB149_143.1;have hnc52:=NB143_149.1;have hcz53_0 : w50.cell? ⟨G149,0,none⟩ = some (.int .i64 0):=(bC K149.1 0).trans rfl;have hcz53_1 : w50.cell? ⟨G149,1,none⟩ = some (.float .f64 0):=(bC K149.1 1).trans rfl;have hcz53_2 : w50.cell? ⟨G149,2,none⟩ = some (.float .f64 0):=(bC K149.1 2).trans rfl;have hfz53_0:=bF K149.1 0;have hfz53_1:=bF K149.1 1;have hfz53_2:=bF K149.1 2)|((with_reducible refine gate_store (t:=24) (p:=10) rfl ?_);refine store_event (t:=24) (p:=10) (v:=?vo_w54) (w1:=(((w50.setCell ⟨G149,0,none⟩ (.int .i64 t145)).setCell ⟨G149,1,none⟩ (.float .f64 t146)).setCell ⟨G149,2,none⟩ (.float .f64 t147))) ?hg ?ho ?hn ?hr ?_;(case ho => rfl);(case hg => rfl);(case hn => rfl);(case hr => first|(go_simp;done)|(go_simp;rfl));intro w54 hw;have n0_ : Aside0 (Kd.R Kd.float64 22 w54 w.heap.size (fun _ => True) u5 x5_1):=⟨(by rw [hw];exact (by (with_reducible repeat (first|apply Kd.R_alloc|apply Kd.R_drewN|apply Kd.R_drew));exact Kd.R_mono (Kd.R_far (p:=⟨G149,2,none⟩) (Kd.R_far (p:=⟨G149,1,none⟩) (Kd.R_far (p:=⟨G149,0,none⟩) (Kd.R_types HO_5.out K149.1 (by decide)) (fun _ hk => hk.2) (.int .i64 t145)) (fun _ hk => hk.2) (.float .f64 t146)) (fun _ hk => hk.2) (.float .f64 t147)) (fun _ hk => trivial)))⟩;have n1_ : Aside0 (w54.heap[G142]? = some (.cells #[.int .i64 0,.float .f64 0,.float .f64 0] 24 (0,0))):=⟨(by rw [hw];exact (by (with_reducible repeat first|apply bN|apply bD|apply bA);refine bZ ?_ NB142_149.1 _;(with_reducible repeat first|apply bN|apply bD|apply bA);refine bZ ?_ NB142_149.1 _;(with_reducible repeat first|apply bN|apply bD|apply bA);refine bZ ?_ NB142_149.1 _;(with_reducible repeat first|apply bN|apply bD|apply bA);exact K142.1))⟩;have n2_ : Aside0 (w54.heap[G143]? = some (.cells #[.int .i64 x144000_1,.float .f64 x144001_1,.float .f64 x144002_1] 24 (0,0))):=⟨(by rw [hw];exact (by (with_reducible repeat first|apply bN|apply bD|apply bA);refine bZ ?_ NB143_149.1 _;(with_reducible repeat first|apply bN|apply bD|apply bA);refine bZ ?_ NB143_149.1 _;(with_reducible repeat first|apply bN|apply bD|apply bA);refine bZ ?_ NB143_149.1 _;(with_reducible repeat first|apply bN|apply bD|apply bA);exact K143.1))⟩;have n3_ : Aside0 (w54.heap[G149]? = some (.cells #[.int .i64 t145,.float .f64 t146,.float .f64 t147] 24 (0,0))):=⟨(by rw [hw];exact (by (with_reducible repeat first|apply bN|apply bD|apply bA);refine blk_put (cs:=#[.int .i64 t145,.float .f64 t146,.float .f64 0]) ?_ 2 _ rfl;(with_reducible repeat first|apply bN|apply bD|apply bA);refine blk_put (cs:=#[.int .i64 t145,.float .f64 0,.float .f64 0]) ?_ 1 _ rfl;(with_reducible repeat first|apply bN|apply bD|apply bA);refine blk_put (cs:=#[.int .i64 0,.float .f64 0,.float .f64 0]) ?_ 0 _ rfl;(with_reducible repeat first|apply bN|apply bD|apply bA);exact K149.1))⟩;have n4_ : Aside0 (Below w.heap.size w w54):=⟨(by rw [hw];exact (by repeat (first|(with_reducible first|exact HB.1|apply bwA|apply bwN|apply bw1|refine bS ?_ GE142.1|refine bS ?_ GE143.1|refine bS ?_ GE149.1)|exact HB.1)))⟩;clear hw;clear HO_5;clear K142;clear K143;clear K149;clear HB;have HO_5:=n0_;have K142:=n1_;have K143:=n2_;have K149:=n3_;have HB:=n4_;clear n0_ n1_ n2_ n3_ n4_))
       go_roundg k1
       case measure => have:=HK1.out;omega
       case rel => exact ⟨(x5_1),(wrap64 (x7_1 + 1)),(wrap64 (x16_1 + 1)),(x144000_1),(x144001_1),(x144002_1),(by first|rfl|(simp;done)|(simp [*];done)),(by first|rfl|(simp;done)|(simp [*];done)),H',⟨by have:=HK1.out;omega⟩,⟨by (with_reducible repeat (first|apply Kd.R_alloc|apply Kd.R_drewN|apply Kd.R_drew));exact HO_5.out⟩,⟨by (with_reducible repeat first|apply bN|apply bD|apply bA);exact K142.1⟩,⟨by (with_reducible repeat first|apply bN|apply bD|apply bA);exact K143.1⟩,⟨by repeat (first|(with_reducible first|exact HB.1|apply bwA|apply bwN|apply bw1|refine bS ?_ GE142.1|refine bS ?_ GE143.1|refine bS ?_ GE149.1)|exact HB.1)⟩⟩
     ·rw [if_neg c6] at H
      exact absurd H (by simp)
    ·rw [if_neg c5] at H
     exact absurd H (by simp)
   ·rw [if_neg c4] at H
    have c4b0 : decide (x16_1 < (l0.length : Int)) = false:=decide_eq_false c4
    clear c4
    simp only [Option.some.injEq,Prod.mk.injEq] at H
    obtain ⟨rfl,rfl,rfl,rfl,rfl⟩:=H
    try go_wp2
    have n0_:=Aside0.mk (Kd.R_drew HO_5.out)
    have n1_:=Aside0.mk (bD K142.1)
    have n2_:=Aside0.mk (bD K143.1)
    have n3_:=Aside0.mk (bw1 HB.1)
    clear HO_5
    clear K142
    clear K143
    clear HB
    have HO_5:=n0_
    have K142:=n1_
    have K143:=n2_
    have HB:=n3_
    clear n0_ n1_ n2_ n3_
    refine start_ (n:=6) (S:=fun w' => w'.cell? ⟨G143,0,none⟩ = some (.int .i64 x144000_1) ∧ w'.cell? ⟨G143,1,none⟩ = some (.float .f64 x144001_1) ∧ w'.cell? ⟨G143,2,none⟩ = some (.float .f64 x144002_1)) (ds:=[]) #[false,false,false,false,false,false] (by kernel_rfl) rfl rfl ⟨(bC K143.1 0).trans rfl,(bC K143.1 1).trans rfl,(bC K143.1 2).trans rfl⟩ (fun hHeld => ?_)
    generalize wr.drew = w55 at HO_5 K142 K143 HB hHeld ⊢
    refine pure_ (i:=0) (N:=some 55) (v:=?_) (a':=?_) #[true,false,false,false,false,false] rfl rfl (by kernel_rfl) (fun _ _ _ h => h) (Or.inl ⟨by rfl,?_⟩) ?_ ?_
    rotate_left
    ·intro w'
     go_simp
     with_reducible rfl
    rotate_left
    ·simp only [Act.put,List.setIfInBounds_toArray,List.set_cons_zero,List.set_cons_succ,i64_w,i32_w]
     rfl
    refine pure_ (i:=2) (N:=some 57) (v:=?_) (a':=?_) #[true,false,true,false,false,false] rfl rfl (by kernel_rfl) (fun _ _ _ h => h) (Or.inl ⟨by rfl,?_⟩) ?_ ?_
    rotate_left
    ·intro w'
     go_simp
     with_reducible rfl
    rotate_left
    ·simp only [Act.put,List.setIfInBounds_toArray,List.set_cons_zero,List.set_cons_succ,i64_w,i32_w]
     rfl
    refine pure_ (i:=3) (N:=some 2) (v:=?_) (a':=?_) #[true,false,true,true,false,false] rfl rfl (by kernel_rfl) (fun _ _ _ h => h) (Or.inl ⟨by rfl,?_⟩) ?_ ?_
    rotate_left
    ·intro w'
     go_simp
     with_reducible rfl
    rotate_left
    ·simp only [Act.put,List.setIfInBounds_toArray,List.set_cons_zero,List.set_cons_succ,i64_w,i32_w]
     rfl
    refine take_ (i:=1) (N:=some 56) (v:=?_) (a':=?_) #[true,true,true,true,false,false] rfl rfl (by kernel_rfl) (fun _ _ _ h => h) (Or.inl ⟨by rfl,?_⟩) hHeld ?_ ?_
    rotate_left
    ·rintro w' ⟨s0,s1,s2⟩
     go_simp
     with_reducible rfl
    rotate_left
    ·simp only [Act.put,List.setIfInBounds_toArray,List.set_cons_zero,List.set_cons_succ,i64_w,i32_w]
     rfl
    refine one_ (i:=4) (N:=none) #[true,true,true,true,true,false] rfl rfl (by kernel_rfl) (by decide) (fun K hK => ?_)
    have hs56 : w55.cell? ⟨G142,0,none⟩ = some (.int .i64 0):=(bC K142.1 0).trans rfl
    have hfs56:=bF K142.1 0
    have hns56_1:=NB143_142.1
    have hms56_1:=NB142_143.1
    have hs57 : w55.cell? ⟨G142,1,none⟩ = some (.float .f64 0):=(bC K142.1 1).trans rfl
    have hfs57:=bF K142.1 1
    have hns57_1:=NB143_142.1
    have hms57_1:=NB142_143.1
    have hs58 : w55.cell? ⟨G142,2,none⟩ = some (.float .f64 0):=(bC K142.1 2).trans rfl
    have hfs58:=bF K142.1 2
    have hns58_1:=NB143_142.1
    have hms58_1:=NB142_143.1
    refine skip_ (w1:=?_) (by rfl) rfl ?_ ?_
    rotate_left
    ·go_simp
     rfl
    refine hK.out _ _ ⟨((cF (p:=⟨G142,_,none⟩) NB143_142.1 _).trans (((cF (p:=⟨G142,_,none⟩) NB143_142.1 _).trans (((cF (p:=⟨G142,_,none⟩) NB143_142.1 _).trans (hHeld.1)))))),((cF (p:=⟨G142,_,none⟩) NB143_142.1 _).trans (((cF (p:=⟨G142,_,none⟩) NB143_142.1 _).trans (((cF (p:=⟨G142,_,none⟩) NB143_142.1 _).trans (hHeld.2.1)))))),((cF (p:=⟨G142,_,none⟩) NB143_142.1 _).trans (((cF (p:=⟨G142,_,none⟩) NB143_142.1 _).trans (((cF (p:=⟨G142,_,none⟩) NB143_142.1 _).trans (hHeld.2.2))))))⟩ (fun hHeld => ?_)
    clear hK K
    refine pure_ (i:=5) (N:=some 4) (v:=?_) (a':=?_) #[true,true,true,true,true,true] rfl rfl (by kernel_rfl) (fun _ _ _ h => h) (Or.inl ⟨by rfl,?_⟩) ?_ ?_
    rotate_left
    ·intro w'
     go_simp
     with_reducible rfl
    rotate_left
    ·simp only [Act.put,List.setIfInBounds_toArray,List.set_cons_zero,List.set_cons_succ,i64_w,i32_w]
     rfl
    refine done_ (by kernel_rfl) ?_
    try go_wp2
    refine bodyPost_ret (results_list (rs:=[.tmp 2,.cell 3 24,.tmp 4]) rfl (by simp) (.tmp (.cell G142 24 #[.int .i64 x144000_1,.float .f64 x144001_1,.float .f64 x144002_1] (0,0) _ rfl (by (with_reducible repeat first|apply bN|apply bD|apply bA);refine blk_put (cs:=#[.int .i64 x144000_1,.float .f64 x144001_1,.float .f64 0]) ?_ 2 _ rfl;(with_reducible repeat first|apply bN|apply bD|apply bA);refine blk_put (cs:=#[.int .i64 x144000_1,.float .f64 0,.float .f64 0]) ?_ 1 _ rfl;(with_reducible repeat first|apply bN|apply bD|apply bA);refine blk_put (cs:=#[.int .i64 0,.float .f64 0,.float .f64 0]) ?_ 0 _ rfl;(with_reducible repeat first|apply bN|apply bD|apply bA);exact K142.1) Try.underlying24 rfl (by kernel_rfl) (.tmp .nil)))) rfl ?_
    exact ⟨_,by first|rfl|(simp [errW_none,errW_some] <;> rfl)|(simp [*,errW_none,errW_some] <;> rfl),by (with_reducible repeat (first|apply Kd.R_alloc|apply Kd.R_drewN|apply Kd.R_drew));exact Kd.R_mono (Kd.R_far (p:=⟨G142,2,none⟩) (Kd.R_far (p:=⟨G142,1,none⟩) (Kd.R_far (p:=⟨G142,0,none⟩) (Kd.R_types HO_5.out K142.1 (by decide)) (fun _ hk => hk.2) (.int .i64 x144000_1)) (fun _ hk => hk.2) (.float .f64 x144001_1)) (fun _ hk => hk.2) (.float .f64 x144002_1)) (fun _ hk => trivial),by repeat (first|(with_reducible first|exact HB.1|apply bwA|apply bwN|apply bw1|refine bS ?_ GE142.1|refine bS ?_ GE143.1)|exact HB.1)⟩

/-! ### beaconref05_finite: function 29 -/
def beaconref05_finite.f (a0 : Nat) : Option (Bool) := if (fle a0 9218868437227405311) = true then (some (fle 18442240474082181119 a0)) else (some false)
set_option maxHeartbeats 2500000 in
set_option maxRecDepth 100000 in
theorem beaconref05_finite.calls (a0 : Nat) (r : Bool) (w : World) (h : beaconref05_finite.f a0 = some r) :
  Calls Try.prog 29 #[.float .f64 a0] w fun e w' => e = .returned (.bool r) ∧ Drawn0 w w':=by
 have H : (if (fle a0 9218868437227405311) = true then (some (fle 18442240474082181119 a0)) else (some false)) = some r:=h
 clear h
 by_cases c2 : (fle a0 9218868437227405311) = true
 ·rw [if_pos c2] at H
  have c2b0 : (fle a0 9218868437227405311) = true:=c2
  clear c2
  obtain rfl:=Option.some.inj H
  go_enter Try.func29,Try.ntmps29
  go_wp2
  go_ret
  exact ⟨by first|rfl|(simp;done)|(simp [*];done),by repeat (first|exact Drawn0.refl _|apply Drawn0.step)⟩
 ·rw [if_neg c2] at H
  have c2b0 : (fle a0 9218868437227405311) = false:=by simpa using c2
  clear c2
  obtain rfl:=Option.some.inj H
  go_enter Try.func29,Try.ntmps29
  go_wp2
  go_ret
  exact ⟨by first|rfl|(simp;done)|(simp [*];done),by repeat (first|exact Drawn0.refl _|apply Drawn0.step)⟩

/-! ### beaconref05_sign: function 30 -/
def beaconref05_sign.f (a0 : Nat) : Option (Bool) := some (((fbits a0) / 9223372036854775808) == 1)
set_option maxHeartbeats 2500000 in
set_option maxRecDepth 100000 in
theorem beaconref05_sign.calls (a0 : Nat) (r : Bool) (w : World) (h : beaconref05_sign.f a0 = some r) :
  Calls Try.prog 30 #[.float .f64 a0] w fun e w' => e = .returned (.bool r) ∧ Drawn0 w w':=by
 have H : (some (((fbits a0) / 9223372036854775808) == 1)) = some r:=h
 clear h
 obtain rfl:=Option.some.inj H
 go_enter Try.func30,Try.ntmps30
 go_wp2
 go_ret
 exact ⟨by first|rfl|(simp;done)|(simp [*];done),by repeat (first|exact Drawn0.refl _|apply Drawn0.step)⟩

end Go.Proofs.Ytajejidnidomgaa.XR
