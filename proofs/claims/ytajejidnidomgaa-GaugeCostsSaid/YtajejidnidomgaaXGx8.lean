/- Go functions of this seat as Lean functions, with proofs that the calls come to them. (Written by xprint.py, a program of this session, over the kit's print.) -/
import Derived.Test.YtajejidnidomgaaXGx0
import Derived.Test.YtajejidnidomgaaXGx2
import Derived.Test.YtajejidnidomgaaXGx5
namespace Go.Proofs.Ytajejidnidomgaa.XG
open Go.RowKit Go.Proofs.YtajejidnidomgaaW.PrintWords Go.Proofs.YtajejidnidomgaaW.PrintLast Go.Proofs.YtajejidnidomgaaW.PrintMore
attribute [local go_sem] max2_int min2_int max_two min_two max_three min_three max_four min_four   -- for this text's walks alone
set_option linter.unusedVariables false
set_option linter.unusedSimpArgs false

/-! ### math_Modf: function 55 -/
def math_Modf.f (a0 : Nat) : Option (Nat × Nat) := (math_Trunc.f a0).bind fun t223 => (if (fsubOk a0 t223) = true then ((math_Copysign.f (fsub a0 t223) a0).bind fun t224 => (some (t223, t224))) else (none))
set_option maxHeartbeats 2500000 in
set_option maxRecDepth 100000 in
theorem math_Modf.calls (a0 : Nat) (r1 : Nat) (r2 : Nat) (w : World) (h : math_Modf.f a0 = some (r1, r2)) :
    Calls Try.prog 55 #[.float .f64 a0] w fun e w' => e = .returned (.tuple #[.float .f64 r1, .float .f64 r2]) ∧ Drawn0 w w' := by
  have H : ((math_Trunc.f a0).bind fun t223 => (if (fsubOk a0 t223) = true then ((math_Copysign.f (fsub a0 t223) a0).bind fun t224 => (some (t223, t224))) else (none))) = some (r1, r2) := h
  clear h
  replace H := Option.bind_eq_some_iff.mp H
  obtain ⟨t223, A20, H⟩ := H
  replace H : (if (fsubOk a0 t223) = true then ((math_Copysign.f (fsub a0 t223) a0).bind fun t224 => (some (t223, t224))) else (none)) = some (r1, r2) := H
  have A2 := Aside0.mk A20
  clear A20
  by_cases c3 : (fsubOk a0 t223) = true
  · rw [if_pos c3] at H
    have c3b0 := eq_true c3
    have c3b1 : decide ((fsubOk a0 t223) = true) = true := decide_eq_true c3
    clear c3
    replace H := Option.bind_eq_some_iff.mp H
    obtain ⟨t224, A40, H⟩ := H
    replace H : (some (t223, t224)) = some (r1, r2) := H
    have A4 := Aside0.mk A40
    clear A40
    simp only [Option.some.injEq, Prod.mk.injEq] at H
    obtain ⟨rfl, rfl⟩ := H
    go_enter Try.func55, Try.ntmps55
    go_wp2_with (first | ((with_reducible refine gate_callee (f := 48) rfl ?_); refine goesL_ (some 5) rfl rfl Try.func48 (by kernel_rfl) rfl #[.float .f64 a0] rfl (by (try simp only [List.map_toArray, List.map_cons, List.map_nil]); first | done | rfl | (simp only [List.length_drop, List.length_take]; rfl)) ?_; (with_reducible refine (math_Trunc.calls a0 t223 _ A2.out).mono ?_); rintro e w' ⟨rfl, ⟨nd, rfl⟩⟩; refine ⟨_, rfl, ?_⟩) | ((with_reducible refine gate_callee (f := 59) rfl ?_); refine goesL_ (some 10) rfl rfl Try.func59 (by kernel_rfl) rfl #[.float .f64 (fsub a0 t223), .float .f64 a0] rfl (by (try simp only [List.map_toArray, List.map_cons, List.map_nil]); first | done | rfl | (simp only [List.length_drop, List.length_take]; rfl)) ?_; (with_reducible refine (math_Copysign.calls (fsub a0 t223) a0 t224 _ A4.out).mono ?_); rintro e w' ⟨rfl, ⟨nd, rfl⟩⟩; refine ⟨_, rfl, ?_⟩))
    go_ret2
    exact ⟨by first | rfl | (simp; done) | (simp [*]; done), by repeat (first | exact Drawn0.refl _ | apply Drawn0.step)⟩
  · rw [if_neg c3] at H
    exact absurd H (by simp)

/-! ### math_floor: function 50 -/
def math_floor.j0 : Nat → Nat → Bool → Option (Nat)
  | 0, _, _ => none
  | k + 1, x0, x16 => if x16 = true then (some x0) else (if (flt x0 0) = true then ((math_Modf.f (fneg x0)).bind fun bt227 => (if (feq bt227.2 0) = true then (some (fneg bt227.1)) else (if (faddOk bt227.1 4607182418800017408) = true then (some (fneg (fadd bt227.1 4607182418800017408))) else (none)))) else ((math_Modf.f x0).bind fun bt229 => (some bt229.1)))
def math_floor.f (k : Nat) (a0 : Nat) : Option (Nat) := if (feq a0 0) = true then (math_floor.j0 k a0 true) else ((math_IsNaN.f a0).bind fun t225 => (if t225 = true then (math_floor.j0 k a0 true) else ((math_IsInf.f a0 0).bind fun t226 => (math_floor.j0 k a0 t226))))
theorem math_floor.mono_l : ∀ k, (∀ y0 y1, LeO (math_floor.j0 k y0 y1) (math_floor.j0 (k + 1) y0 y1))
  | 0 => fun _ _ r h => by simp [math_floor.j0] at h
  | k + 1 => by
    have ih0 := math_floor.mono_l k
    · intro y0 y1
      unfold math_floor.j0
      repeat' first
      | (with_reducible exact ih0 _ _)
      | (with_reducible exact LeO.refl _)
      | (with_reducible exact LeO.none _)
      | (with_reducible refine LeO.ite ?_ ?_)
      | (with_reducible refine LeO.bind ?_ (fun _ => ?_))
      | exact ih0 _ _
      | exact LeO.none _
      | refine LeO.ite ?_ ?_
      | refine LeO.bind ?_ (fun _ => ?_)
theorem math_floor.mono : ∀ a0 k, LeO (math_floor.f k a0) (math_floor.f (k + 1) a0) := by
  intro a0 k
  have ih0 := math_floor.mono_l k
  unfold math_floor.f
  repeat' first
      | (with_reducible exact ih0 _ _)
      | (with_reducible exact LeO.refl _)
      | (with_reducible exact LeO.none _)
      | (with_reducible refine LeO.ite ?_ ?_)
      | (with_reducible refine LeO.bind ?_ (fun _ => ?_))
      | exact ih0 _ _
      | exact LeO.none _
      | refine LeO.ite ?_ ?_
      | refine LeO.bind ?_ (fun _ => ?_)
set_option maxHeartbeats 2500000 in
set_option maxRecDepth 100000 in
theorem math_floor.calls (k : Nat) (a0 : Nat) (r : Nat) (w : World) (h : math_floor.f k a0 = some r) :
    Calls Try.prog 50 #[.float .f64 a0] w fun e w' => e = .returned (.float .f64 r) ∧ Drawn0 w w' := by
  have H : (if (feq a0 0) = true then (math_floor.j0 k a0 true) else ((math_IsNaN.f a0).bind fun t225 => (if t225 = true then (math_floor.j0 k a0 true) else ((math_IsInf.f a0 0).bind fun t226 => (math_floor.j0 k a0 t226))))) = some r := h
  clear h
  have HC2 := Aside0.mk H
  clear H
  go_enter Try.func50, Try.ntmps50
  go_upto_region 1 with (fail)
  go_cut [16] (fun v16 wc => ∃ (kq : Nat) (x16_1 : Bool), v16 = .bool x16_1 ∧ Aside0 (math_floor.j0 kq a0 x16_1 = some r) ∧ Aside0 (kq ≤ k) ∧ Drawn0 w wc)
  case first =>
    have H := HC2.out
    clear HC2
    by_cases c3 : (feq a0 0) = true
    · rw [if_pos c3] at H
      have c3b0 : (feq a0 0) = true := c3
      clear c3
      (first | rw [c3b0] | (simp only [i64_w, i32_w]; rw [c3b0]) | skip)
      have H' := Aside0.mk H
      clear H
      go_wp2
      go_meet
      case rel => exact ⟨_, (true), (by first | rfl | (simp; done) | (simp [*]; done)), H', ⟨by first | omega | exact Nat.le_refl _⟩, by repeat (first | exact Drawn0.refl _ | apply Drawn0.step)⟩
    · rw [if_neg c3] at H
      have c3b0 : (feq a0 0) = false := by simpa using c3
      clear c3
      (first | rw [c3b0] | (simp only [i64_w, i32_w]; rw [c3b0]) | skip)
      replace H := Option.bind_eq_some_iff.mp H
      obtain ⟨t225, A40, H⟩ := H
      replace H : (if t225 = true then (math_floor.j0 k a0 true) else ((math_IsInf.f a0 0).bind fun t226 => (math_floor.j0 k a0 t226))) = some r := H
      have A4 := Aside0.mk A40
      clear A40
      by_cases c5 : t225 = true
      · subst c5
        have H1 : (math_floor.j0 k a0 true) = some r := by rw [if_pos rfl] at H; exact H
        clear H
        have H := H1
        clear H1
        have H' := Aside0.mk H
        clear H
        go_wp2_with (first | (go_at_call 37; (with_reducible refine (math_IsNaN.calls a0 true _ A4.out).mono ?_); rintro e w' ⟨rfl, ⟨nd, rfl⟩⟩))
        go_meet
        case rel => exact ⟨_, (true), (by first | rfl | (simp; done) | (simp [*]; done)), H', ⟨by first | omega | exact Nat.le_refl _⟩, by repeat (first | exact Drawn0.refl _ | apply Drawn0.step)⟩
      · replace c5 := Bool.eq_false_iff.mpr c5
        subst c5
        have H1 : ((math_IsInf.f a0 0).bind fun t226 => (math_floor.j0 k a0 t226)) = some r := by rw [if_neg (show ¬ (false = true) by decide)] at H; exact H
        clear H
        have H := H1
        clear H1
        replace H := Option.bind_eq_some_iff.mp H
        obtain ⟨t226, A60, H⟩ := H
        replace H : (math_floor.j0 k a0 t226) = some r := H
        have A6 := Aside0.mk A60
        clear A60
        have H' := Aside0.mk H
        clear H
        go_wp2_with (first | (go_at_call 37; (with_reducible refine (math_IsNaN.calls a0 false _ A4.out).mono ?_); rintro e w' ⟨rfl, ⟨nd, rfl⟩⟩) | (go_at_call 38; (with_reducible refine (math_IsInf.calls a0 0 t226 _ A6.out).mono ?_); rintro e w' ⟨rfl, ⟨nd, rfl⟩⟩))
        go_meet
        case rel => exact ⟨_, (t226), (by first | rfl | (simp; done) | (simp [*]; done)), H', ⟨by first | omega | exact Nat.le_refl _⟩, by repeat (first | exact Drawn0.refl _ | apply Drawn0.step)⟩
  case rest =>
    clear HC2
    try clear p2
    try clear c3
    try clear c3b0
    try clear c5
    obtain ⟨kq, x16_1, rfl, HA, HJ1, ⟨mc1, rfl⟩⟩ := hcut
    cases kq with
    | zero => exact absurd HA.out (by simp [math_floor.j0])
    | succ kj1 =>
      have H := HA.out
      clear HA
      simp only [math_floor.j0] at H
      by_cases c7 : x16_1 = true
      · subst c7
        have H1 : (some a0) = some r := by rw [if_pos rfl] at H; exact H
        clear H
        have H := H1
        clear H1
        obtain rfl := Option.some.inj H
        go_wp2
        go_ret
        exact ⟨by first | rfl | (simp; done) | (simp [*]; done), by repeat (first | exact Drawn0.refl _ | apply Drawn0.step)⟩
      · replace c7 := Bool.eq_false_iff.mpr c7
        subst c7
        have H1 : (if (flt a0 0) = true then ((math_Modf.f (fneg a0)).bind fun bt227 => (if (feq bt227.2 0) = true then (some (fneg bt227.1)) else (if (faddOk bt227.1 4607182418800017408) = true then (some (fneg (fadd bt227.1 4607182418800017408))) else (none)))) else ((math_Modf.f a0).bind fun bt229 => (some bt229.1))) = some r := by rw [if_neg (show ¬ (false = true) by decide)] at H; exact H
        clear H
        have H := H1
        clear H1
        by_cases c8 : (flt a0 0) = true
        · rw [if_pos c8] at H
          have c8b0 : (flt a0 0) = true := c8
          clear c8
          replace H := Option.bind_eq_some_iff.mp H
          obtain ⟨⟨t227, t228⟩, A90, H⟩ := H
          replace H : (if (feq t228 0) = true then (some (fneg t227)) else (if (faddOk t227 4607182418800017408) = true then (some (fneg (fadd t227 4607182418800017408))) else (none))) = some r := H
          have A9 := Aside0.mk A90
          clear A90
          by_cases c10 : (feq t228 0) = true
          · rw [if_pos c10] at H
            have c10b0 : (feq t228 0) = true := c10
            clear c10
            obtain rfl := Option.some.inj H
            go_wp2_with (first | ((with_reducible refine gate_callee (f := 55) rfl ?_); refine goesL_ (some 23) rfl rfl Try.func55 (by kernel_rfl) rfl #[.float .f64 (fneg a0)] rfl (by (try simp only [List.map_toArray, List.map_cons, List.map_nil]); first | done | rfl | (simp only [List.length_drop, List.length_take]; rfl)) ?_; (with_reducible refine (math_Modf.calls (fneg a0) t227 t228 _ A9.out).mono ?_); rintro e w' ⟨rfl, ⟨nd, rfl⟩⟩; refine ⟨_, rfl, ?_⟩))
            go_ret
            exact ⟨by first | rfl | (simp; done) | (simp [*]; done), by repeat (first | exact Drawn0.refl _ | apply Drawn0.step)⟩
          · rw [if_neg c10] at H
            have c10b0 : (feq t228 0) = false := by simpa using c10
            clear c10
            by_cases c11 : (faddOk t227 4607182418800017408) = true
            · rw [if_pos c11] at H
              have c11b0 := eq_true c11
              have c11b1 : decide ((faddOk t227 4607182418800017408) = true) = true := decide_eq_true c11
              clear c11
              obtain rfl := Option.some.inj H
              go_wp2_with (first | ((with_reducible refine gate_callee (f := 55) rfl ?_); refine goesL_ (some 23) rfl rfl Try.func55 (by kernel_rfl) rfl #[.float .f64 (fneg a0)] rfl (by (try simp only [List.map_toArray, List.map_cons, List.map_nil]); first | done | rfl | (simp only [List.length_drop, List.length_take]; rfl)) ?_; (with_reducible refine (math_Modf.calls (fneg a0) t227 t228 _ A9.out).mono ?_); rintro e w' ⟨rfl, ⟨nd, rfl⟩⟩; refine ⟨_, rfl, ?_⟩))
              go_ret
              exact ⟨by first | rfl | (simp; done) | (simp [*]; done), by repeat (first | exact Drawn0.refl _ | apply Drawn0.step)⟩
            · rw [if_neg c11] at H
              exact absurd H (by simp)
        · rw [if_neg c8] at H
          have c8b0 : (flt a0 0) = false := by simpa using c8
          clear c8
          replace H := Option.bind_eq_some_iff.mp H
          obtain ⟨⟨t229, t230⟩, A120, H⟩ := H
          replace H : (some t229) = some r := H
          have A12 := Aside0.mk A120
          clear A120
          obtain rfl := Option.some.inj H
          go_wp2_with (first | ((with_reducible refine gate_callee (f := 55) rfl ?_); refine goesL_ (some 34) rfl rfl Try.func55 (by kernel_rfl) rfl #[.float .f64 a0] rfl (by (try simp only [List.map_toArray, List.map_cons, List.map_nil]); first | done | rfl | (simp only [List.length_drop, List.length_take]; rfl)) ?_; (with_reducible refine (math_Modf.calls a0 t229 t230 _ A12.out).mono ?_); rintro e w' ⟨rfl, ⟨nd, rfl⟩⟩; refine ⟨_, rfl, ?_⟩))
          go_ret
          exact ⟨by first | rfl | (simp; done) | (simp [*]; done), by repeat (first | exact Drawn0.refl _ | apply Drawn0.step)⟩

/-! ### math_Floor: function 45 -/
def math_Floor.f (a0 : Nat) : Option (Nat) := if (froundOk a0) = true then (some (fround .down a0)) else (none)
set_option maxHeartbeats 2500000 in
set_option maxRecDepth 100000 in
theorem math_Floor.calls (a0 : Nat) (r : Nat) (w : World) (h : math_Floor.f a0 = some r) :
    Calls Try.prog 45 #[.float .f64 a0] w fun e w' => e = .returned (.float .f64 r) ∧ Drawn0 w w' := by
  have H : (if (froundOk a0) = true then (some (fround .down a0)) else (none)) = some r := h
  clear h
  by_cases c2 : (froundOk a0) = true
  · rw [if_pos c2] at H
    have c2b0 := eq_true c2
    have c2b1 : decide ((froundOk a0) = true) = true := decide_eq_true c2
    clear c2
    obtain rfl := Option.some.inj H
    go_enter Try.func45, Try.ntmps45
    go_wp2
    go_ret
    exact ⟨by first | rfl | (simp; done) | (simp [*]; done), by repeat (first | exact Drawn0.refl _ | apply Drawn0.step)⟩
  · rw [if_neg c2] at H
    exact absurd H (by simp)

-- NOT PRINTED: function 51 (math_archMod)

/-! ### math_NaN: function 56 -/
def math_NaN.f  : Option (Nat) := some (ffrom 9221120237041090561)
set_option maxHeartbeats 2500000 in
set_option maxRecDepth 100000 in
theorem math_NaN.calls  (r : Nat) (w : World) (h : math_NaN.f  = some r) :
    Calls Try.prog 56 #[] w fun e w' => e = .returned (.float .f64 r) ∧ Drawn0 w w' := by
  have H : (some (ffrom 9221120237041090561)) = some r := h
  clear h
  obtain rfl := Option.some.inj H
  go_enter Try.func56, Try.ntmps56
  go_wp2
  go_ret
  exact ⟨by first | rfl | (simp; done) | (simp [*]; done), by repeat (first | exact Drawn0.refl _ | apply Drawn0.step)⟩

-- NOT PRINTED: function 60 (math_archFrexp)

/-! ### math_normalize: function 64 -/
def math_normalize.f (a0 : Nat) : Option (Nat × Int) := (math_Abs.f a0).bind fun t231 => (if (flt t231 4503599627370496) = true then (if (fmulOk a0 4841369599423283200) = true then (some (fmul a0 4841369599423283200, (-52))) else (none)) else (some (a0, 0)))
set_option maxHeartbeats 2500000 in
set_option maxRecDepth 100000 in
theorem math_normalize.calls (a0 : Nat) (r1 : Nat) (r2 : Int) (w : World) (h : math_normalize.f a0 = some (r1, r2)) :
    Calls Try.prog 64 #[.float .f64 a0] w fun e w' => e = .returned (.tuple #[.float .f64 r1, .int .i64 r2]) ∧ Drawn0 w w' := by
  have H : ((math_Abs.f a0).bind fun t231 => (if (flt t231 4503599627370496) = true then (if (fmulOk a0 4841369599423283200) = true then (some (fmul a0 4841369599423283200, (-52))) else (none)) else (some (a0, 0)))) = some (r1, r2) := h
  clear h
  replace H := Option.bind_eq_some_iff.mp H
  obtain ⟨t231, A20, H⟩ := H
  replace H : (if (flt t231 4503599627370496) = true then (if (fmulOk a0 4841369599423283200) = true then (some (fmul a0 4841369599423283200, (-52))) else (none)) else (some (a0, 0))) = some (r1, r2) := H
  have A2 := Aside0.mk A20
  clear A20
  by_cases c3 : (flt t231 4503599627370496) = true
  · rw [if_pos c3] at H
    have c3b0 : (flt t231 4503599627370496) = true := c3
    clear c3
    by_cases c4 : (fmulOk a0 4841369599423283200) = true
    · rw [if_pos c4] at H
      have c4b0 := eq_true c4
      have c4b1 : decide ((fmulOk a0 4841369599423283200) = true) = true := decide_eq_true c4
      clear c4
      simp only [Option.some.injEq, Prod.mk.injEq] at H
      obtain ⟨rfl, rfl⟩ := H
      go_enter Try.func64, Try.ntmps64
      go_wp2_with (first | ((with_reducible refine gate_callee (f := 25) rfl ?_); refine goesL_ (some 5) rfl rfl Try.func25 (by kernel_rfl) rfl #[.float .f64 a0] rfl (by (try simp only [List.map_toArray, List.map_cons, List.map_nil]); first | done | rfl | (simp only [List.length_drop, List.length_take]; rfl)) ?_; (with_reducible refine (math_Abs.calls a0 t231 _ A2.out).mono ?_); rintro e w' ⟨rfl, ⟨nd, rfl⟩⟩; refine ⟨_, rfl, ?_⟩))
      go_ret2
      exact ⟨by first | rfl | (simp; done) | (simp [*]; done), by repeat (first | exact Drawn0.refl _ | apply Drawn0.step)⟩
    · rw [if_neg c4] at H
      exact absurd H (by simp)
  · rw [if_neg c3] at H
    have c3b0 : (flt t231 4503599627370496) = false := by simpa using c3
    clear c3
    simp only [Option.some.injEq, Prod.mk.injEq] at H
    obtain ⟨rfl, rfl⟩ := H
    go_enter Try.func64, Try.ntmps64
    go_wp2_with (first | ((with_reducible refine gate_callee (f := 25) rfl ?_); refine goesL_ (some 5) rfl rfl Try.func25 (by kernel_rfl) rfl #[.float .f64 a0] rfl (by (try simp only [List.map_toArray, List.map_cons, List.map_nil]); first | done | rfl | (simp only [List.length_drop, List.length_take]; rfl)) ?_; (with_reducible refine (math_Abs.calls a0 t231 _ A2.out).mono ?_); rintro e w' ⟨rfl, ⟨nd, rfl⟩⟩; refine ⟨_, rfl, ?_⟩))
    go_ret2
    exact ⟨by first | rfl | (simp; done) | (simp [*]; done), by repeat (first | exact Drawn0.refl _ | apply Drawn0.step)⟩

/-! ### math_frexp: function 61 -/
def math_frexp.j0 : Nat → Nat → Bool → Option (Nat × Int)
  | 0, _, _ => none
  | k + 1, x0, x9 => if x9 = true then (some (x0, 0)) else ((math_normalize.f x0).bind fun bt234 => (some (ffrom (Go.bits .or .u64 (Go.bits .andNot .u64 (fbits bt234.1) 9218868437227405312) 4602678819172646912), wrap64 (bt234.2 + (wrap64 ((wrap64 ((wrap64 (Go.bits .and .u64 ((fbits bt234.1) / 4503599627370496) 2047)) - 1023)) + 1))))))
def math_frexp.f (k : Nat) (a0 : Nat) : Option (Nat × Int) := if (feq a0 0) = true then (some (a0, 0)) else ((math_IsInf.f a0 0).bind fun t232 => (if t232 = true then (math_frexp.j0 k a0 true) else ((math_IsNaN.f a0).bind fun t233 => (math_frexp.j0 k a0 t233))))
theorem math_frexp.mono_l : ∀ k, (∀ y0 y1, LeO (math_frexp.j0 k y0 y1) (math_frexp.j0 (k + 1) y0 y1))
  | 0 => fun _ _ r h => by simp [math_frexp.j0] at h
  | k + 1 => by
    have ih0 := math_frexp.mono_l k
    · intro y0 y1
      unfold math_frexp.j0
      repeat' first
      | (with_reducible exact ih0 _ _)
      | (with_reducible exact LeO.refl _)
      | (with_reducible exact LeO.none _)
      | (with_reducible refine LeO.ite ?_ ?_)
      | (with_reducible refine LeO.bind ?_ (fun _ => ?_))
      | exact ih0 _ _
      | exact LeO.none _
      | refine LeO.ite ?_ ?_
      | refine LeO.bind ?_ (fun _ => ?_)
theorem math_frexp.mono : ∀ a0 k, LeO (math_frexp.f k a0) (math_frexp.f (k + 1) a0) := by
  intro a0 k
  have ih0 := math_frexp.mono_l k
  unfold math_frexp.f
  repeat' first
      | (with_reducible exact ih0 _ _)
      | (with_reducible exact LeO.refl _)
      | (with_reducible exact LeO.none _)
      | (with_reducible refine LeO.ite ?_ ?_)
      | (with_reducible refine LeO.bind ?_ (fun _ => ?_))
      | exact ih0 _ _
      | exact LeO.none _
      | refine LeO.ite ?_ ?_
      | refine LeO.bind ?_ (fun _ => ?_)
set_option maxHeartbeats 2500000 in
set_option maxRecDepth 100000 in
theorem math_frexp.calls (k : Nat) (a0 : Nat) (r1 : Nat) (r2 : Int) (w : World) (h : math_frexp.f k a0 = some (r1, r2)) :
    Calls Try.prog 61 #[.float .f64 a0] w fun e w' => e = .returned (.tuple #[.float .f64 r1, .int .i64 r2]) ∧ Drawn0 w w' := by
  have H : (if (feq a0 0) = true then (some (a0, 0)) else ((math_IsInf.f a0 0).bind fun t232 => (if t232 = true then (math_frexp.j0 k a0 true) else ((math_IsNaN.f a0).bind fun t233 => (math_frexp.j0 k a0 t233))))) = some (r1, r2) := h
  clear h
  by_cases c2 : (feq a0 0) = true
  · rw [if_pos c2] at H
    have c2b0 : (feq a0 0) = true := c2
    clear c2
    simp only [Option.some.injEq, Prod.mk.injEq] at H
    obtain ⟨rfl, rfl⟩ := H
    go_enter Try.func61, Try.ntmps61
    go_wp2
    go_ret2
    exact ⟨by first | rfl | (simp; done) | (simp [*]; done), by repeat (first | exact Drawn0.refl _ | apply Drawn0.step)⟩
  · rw [if_neg c2] at H
    have c2b0 : (feq a0 0) = false := by simpa using c2
    clear c2
    have HC3 := Aside0.mk H
    clear H
    go_enter Try.func61, Try.ntmps61
    go_upto_region 3 with (fail)
    go_cut [9] (fun v9 wc => ∃ (kq : Nat) (x9_2 : Bool), v9 = .bool x9_2 ∧ Aside0 (math_frexp.j0 kq a0 x9_2 = some (r1, r2)) ∧ Aside0 (kq ≤ k) ∧ Drawn0 w wc)
    case first =>
      have H := HC3.out
      clear HC3
      replace H := Option.bind_eq_some_iff.mp H
      obtain ⟨t232, A40, H⟩ := H
      replace H : (if t232 = true then (math_frexp.j0 k a0 true) else ((math_IsNaN.f a0).bind fun t233 => (math_frexp.j0 k a0 t233))) = some (r1, r2) := H
      have A4 := Aside0.mk A40
      clear A40
      by_cases c5 : t232 = true
      · subst c5
        have H1 : (math_frexp.j0 k a0 true) = some (r1, r2) := by rw [if_pos rfl] at H; exact H
        clear H
        have H := H1
        clear H1
        have H' := Aside0.mk H
        clear H
        go_wp2_with (first | ((with_reducible refine gate_callee (f := 38) rfl ?_); refine goesL_ (some 11) rfl rfl Try.func38 (by kernel_rfl) rfl #[.float .f64 a0, .int .i64 0] rfl (by (try simp only [List.map_toArray, List.map_cons, List.map_nil]); first | done | rfl | (simp only [List.length_drop, List.length_take]; rfl)) ?_; (with_reducible refine (math_IsInf.calls a0 0 true _ A4.out).mono ?_); rintro e w' ⟨rfl, ⟨nd, rfl⟩⟩; refine ⟨_, rfl, ?_⟩))
        go_meet
        case rel => exact ⟨_, (true), (by first | rfl | (simp; done) | (simp [*]; done)), H', ⟨by first | omega | exact Nat.le_refl _⟩, by repeat (first | exact Drawn0.refl _ | apply Drawn0.step)⟩
      · replace c5 := Bool.eq_false_iff.mpr c5
        subst c5
        have H1 : ((math_IsNaN.f a0).bind fun t233 => (math_frexp.j0 k a0 t233)) = some (r1, r2) := by rw [if_neg (show ¬ (false = true) by decide)] at H; exact H
        clear H
        have H := H1
        clear H1
        replace H := Option.bind_eq_some_iff.mp H
        obtain ⟨t233, A60, H⟩ := H
        replace H : (math_frexp.j0 k a0 t233) = some (r1, r2) := H
        have A6 := Aside0.mk A60
        clear A60
        have H' := Aside0.mk H
        clear H
        go_wp2_with (first | ((with_reducible refine gate_callee (f := 38) rfl ?_); refine goesL_ (some 11) rfl rfl Try.func38 (by kernel_rfl) rfl #[.float .f64 a0, .int .i64 0] rfl (by (try simp only [List.map_toArray, List.map_cons, List.map_nil]); first | done | rfl | (simp only [List.length_drop, List.length_take]; rfl)) ?_; (with_reducible refine (math_IsInf.calls a0 0 false _ A4.out).mono ?_); rintro e w' ⟨rfl, ⟨nd, rfl⟩⟩; refine ⟨_, rfl, ?_⟩) | (go_at_call 37; (with_reducible refine (math_IsNaN.calls a0 t233 _ A6.out).mono ?_); rintro e w' ⟨rfl, ⟨nd, rfl⟩⟩))
        go_meet
        case rel => exact ⟨_, (t233), (by first | rfl | (simp; done) | (simp [*]; done)), H', ⟨by first | omega | exact Nat.le_refl _⟩, by repeat (first | exact Drawn0.refl _ | apply Drawn0.step)⟩
    case rest =>
      clear HC3
      try clear c2
      try clear c2b0
      try clear p2
      try clear c3
      try clear c5
      try clear c6
      obtain ⟨kq, x9_2, rfl, HA, HJ2, ⟨mc2, rfl⟩⟩ := hcut
      cases kq with
      | zero => exact absurd HA.out (by simp [math_frexp.j0])
      | succ kj2 =>
        have H := HA.out
        clear HA
        simp only [math_frexp.j0] at H
        by_cases c7 : x9_2 = true
        · subst c7
          have H1 : (some (a0, 0)) = some (r1, r2) := by rw [if_pos rfl] at H; exact H
          clear H
          have H := H1
          clear H1
          simp only [Option.some.injEq, Prod.mk.injEq] at H
          obtain ⟨rfl, rfl⟩ := H
          go_wp2
          go_ret2
          exact ⟨by first | rfl | (simp; done) | (simp [*]; done), by repeat (first | exact Drawn0.refl _ | apply Drawn0.step)⟩
        · replace c7 := Bool.eq_false_iff.mpr c7
          subst c7
          have H1 : ((math_normalize.f a0).bind fun bt234 => (some (ffrom (Go.bits .or .u64 (Go.bits .andNot .u64 (fbits bt234.1) 9218868437227405312) 4602678819172646912), wrap64 (bt234.2 + (wrap64 ((wrap64 ((wrap64 (Go.bits .and .u64 ((fbits bt234.1) / 4503599627370496) 2047)) - 1023)) + 1)))))) = some (r1, r2) := by rw [if_neg (show ¬ (false = true) by decide)] at H; exact H
          clear H
          have H := H1
          clear H1
          replace H := Option.bind_eq_some_iff.mp H
          obtain ⟨⟨t234, t235⟩, A80, H⟩ := H
          replace H : (some (ffrom (Go.bits .or .u64 (Go.bits .andNot .u64 (fbits t234) 9218868437227405312) 4602678819172646912), wrap64 (t235 + (wrap64 ((wrap64 ((wrap64 (Go.bits .and .u64 ((fbits t234) / 4503599627370496) 2047)) - 1023)) + 1))))) = some (r1, r2) := H
          have A8 := Aside0.mk A80
          clear A80
          simp only [Option.some.injEq, Prod.mk.injEq] at H
          obtain ⟨rfl, rfl⟩ := H
          go_wp2_with (first | ((with_reducible refine gate_callee (f := 64) rfl ?_); refine goesL_ (some 19) rfl rfl Try.func64 (by kernel_rfl) rfl #[.float .f64 a0] rfl (by (try simp only [List.map_toArray, List.map_cons, List.map_nil]); first | done | rfl | (simp only [List.length_drop, List.length_take]; rfl)) ?_; (with_reducible refine (math_normalize.calls a0 t234 t235 _ A8.out).mono ?_); rintro e w' ⟨rfl, ⟨nd, rfl⟩⟩; refine ⟨_, rfl, ?_⟩))
          go_ret2
          exact ⟨by first | rfl | (simp; done) | (simp [*]; done), by repeat (first | exact Drawn0.refl _ | apply Drawn0.step)⟩

/-! ### math_Frexp: function 57 -/
def math_Frexp.f (k : Nat) (a0 : Nat) : Option (Nat × Int) := (math_frexp.f k a0).bind fun bt236 => (some (bt236.1, bt236.2))
theorem math_Frexp.mono : ∀ a0 k, LeO (math_Frexp.f k a0) (math_Frexp.f (k + 1) a0) := by
  intro a0 k
  unfold math_Frexp.f
  repeat' first
      | (with_reducible exact math_frexp.mono _ _)
      | (with_reducible exact LeO.refl _)
      | (with_reducible exact LeO.none _)
      | (with_reducible refine LeO.ite ?_ ?_)
      | (with_reducible refine LeO.bind ?_ (fun _ => ?_))
      | exact math_frexp.mono _ _
      | exact LeO.none _
      | refine LeO.ite ?_ ?_
      | refine LeO.bind ?_ (fun _ => ?_)
set_option maxHeartbeats 2500000 in
set_option maxRecDepth 100000 in
theorem math_Frexp.calls (k : Nat) (a0 : Nat) (r1 : Nat) (r2 : Int) (w : World) (h : math_Frexp.f k a0 = some (r1, r2)) :
    Calls Try.prog 57 #[.float .f64 a0] w fun e w' => e = .returned (.tuple #[.float .f64 r1, .int .i64 r2]) ∧ Drawn0 w w' := by
  have H : ((math_frexp.f k a0).bind fun bt236 => (some (bt236.1, bt236.2))) = some (r1, r2) := h
  clear h
  replace H := Option.bind_eq_some_iff.mp H
  obtain ⟨⟨t236, t237⟩, A20, H⟩ := H
  replace H : (some (t236, t237)) = some (r1, r2) := H
  have A2 := Aside0.mk A20
  clear A20
  simp only [Option.some.injEq, Prod.mk.injEq] at H
  obtain ⟨rfl, rfl⟩ := H
  go_enter Try.func57, Try.ntmps57
  go_wp2_with (first | ((with_reducible refine gate_callee (f := 61) rfl ?_); refine goesL_ (some 9) rfl rfl Try.func61 (by kernel_rfl) rfl #[.float .f64 a0] rfl (by (try simp only [List.map_toArray, List.map_cons, List.map_nil]); first | done | rfl | (simp only [List.length_drop, List.length_take]; rfl)) ?_; (with_reducible refine (math_frexp.calls k a0 t236 t237 _ A2.out).mono ?_); rintro e w' ⟨rfl, ⟨nd, rfl⟩⟩; refine ⟨_, rfl, ?_⟩))
  go_ret2
  exact ⟨by first | rfl | (simp; done) | (simp [*]; done), by repeat (first | exact Drawn0.refl _ | apply Drawn0.step)⟩

-- NOT PRINTED: function 62 (math_archLdexp)

/-! ### math_Inf: function 65 -/
def math_Inf.f (a0 : Int) : Option (Nat) := if a0 ≥ 0 then (some (ffrom 9218868437227405312)) else (some (ffrom 18442240474082181120))
set_option maxHeartbeats 2500000 in
set_option maxRecDepth 100000 in
theorem math_Inf.calls (a0 : Int) (r : Nat) (w : World) (h : math_Inf.f a0 = some r) :
    Calls Try.prog 65 #[.int .i64 a0] w fun e w' => e = .returned (.float .f64 r) ∧ Drawn0 w w' := by
  have H : (if a0 ≥ 0 then (some (ffrom 9218868437227405312)) else (some (ffrom 18442240474082181120))) = some r := h
  clear h
  by_cases c2 : a0 ≥ 0
  · rw [if_pos c2] at H
    have c2b0 : decide (0 ≤ a0) = true := decide_eq_true c2
    clear c2
    obtain rfl := Option.some.inj H
    go_enter Try.func65, Try.ntmps65
    go_wp2
    go_ret
    exact ⟨by first | rfl | (simp; done) | (simp [*]; done), by repeat (first | exact Drawn0.refl _ | apply Drawn0.step)⟩
  · rw [if_neg c2] at H
    have c2b0 : decide (0 ≤ a0) = false := decide_eq_false c2
    clear c2
    obtain rfl := Option.some.inj H
    go_enter Try.func65, Try.ntmps65
    go_wp2
    go_ret
    exact ⟨by first | rfl | (simp; done) | (simp [*]; done), by repeat (first | exact Drawn0.refl _ | apply Drawn0.step)⟩

/-! ### math_ldexp: function 63 -/
def math_ldexp.f (a0 : Nat) (a1 : Int) : Option (Nat) := if (feq a0 0) = true then (some a0) else ((math_IsInf.f a0 0).bind fun t238 => (if t238 = true then (some a0) else ((math_IsNaN.f a0).bind fun t239 => (if t239 = true then (some a0) else ((math_normalize.f a0).bind fun bt240 => (if (wrap64 ((wrap64 (a1 + bt240.2)) + (wrap64 ((Go.bits .and .i64 (wrap64 ((fbits bt240.1) / 4503599627370496)) 2047) - 1023)))) < (-1075) then ((math_Copysign.f 0 bt240.1).bind fun t242 => (some t242)) else (if (wrap64 ((wrap64 (a1 + bt240.2)) + (wrap64 ((Go.bits .and .i64 (wrap64 ((fbits bt240.1) / 4503599627370496)) 2047) - 1023)))) > 1023 then (if (flt bt240.1 0) = true then ((math_Inf.f (-1)).bind fun t243 => (some t243)) else ((math_Inf.f 1).bind fun t244 => (some t244))) else (if (wrap64 ((wrap64 (a1 + bt240.2)) + (wrap64 ((Go.bits .and .i64 (wrap64 ((fbits bt240.1) / 4503599627370496)) 2047) - 1023)))) < (-1022) then (if (fmulOk 4368491638549381120 (ffrom (Go.bits .or .u64 (Go.bits .andNot .u64 (fbits bt240.1) 9218868437227405312) (IntKind.u64.wrap ((IntKind.u64.wrap (wrap64 ((wrap64 ((wrap64 ((wrap64 (a1 + bt240.2)) + (wrap64 ((Go.bits .and .i64 (wrap64 ((fbits bt240.1) / 4503599627370496)) 2047) - 1023)))) + 53)) + 1023))) * 4503599627370496))))) = true then (some (fmul 4368491638549381120 (ffrom (Go.bits .or .u64 (Go.bits .andNot .u64 (fbits bt240.1) 9218868437227405312) (IntKind.u64.wrap ((IntKind.u64.wrap (wrap64 ((wrap64 ((wrap64 ((wrap64 (a1 + bt240.2)) + (wrap64 ((Go.bits .and .i64 (wrap64 ((fbits bt240.1) / 4503599627370496)) 2047) - 1023)))) + 53)) + 1023))) * 4503599627370496)))))) else (none)) else (if (fmulOk 4607182418800017408 (ffrom (Go.bits .or .u64 (Go.bits .andNot .u64 (fbits bt240.1) 9218868437227405312) (IntKind.u64.wrap ((IntKind.u64.wrap (wrap64 ((wrap64 ((wrap64 (a1 + bt240.2)) + (wrap64 ((Go.bits .and .i64 (wrap64 ((fbits bt240.1) / 4503599627370496)) 2047) - 1023)))) + 1023))) * 4503599627370496))))) = true then (some (fmul 4607182418800017408 (ffrom (Go.bits .or .u64 (Go.bits .andNot .u64 (fbits bt240.1) 9218868437227405312) (IntKind.u64.wrap ((IntKind.u64.wrap (wrap64 ((wrap64 ((wrap64 (a1 + bt240.2)) + (wrap64 ((Go.bits .and .i64 (wrap64 ((fbits bt240.1) / 4503599627370496)) 2047) - 1023)))) + 1023))) * 4503599627370496)))))) else (none))))))))))
set_option maxHeartbeats 2500000 in
set_option maxRecDepth 100000 in
theorem math_ldexp.calls (a0 : Nat) (a1 : Int) (r : Nat) (w : World) (h : math_ldexp.f a0 a1 = some r) :
    Calls Try.prog 63 #[.float .f64 a0, .int .i64 a1] w fun e w' => e = .returned (.float .f64 r) ∧ Drawn0 w w' := by
  have H : (if (feq a0 0) = true then (some a0) else ((math_IsInf.f a0 0).bind fun t238 => (if t238 = true then (some a0) else ((math_IsNaN.f a0).bind fun t239 => (if t239 = true then (some a0) else ((math_normalize.f a0).bind fun bt240 => (if (wrap64 ((wrap64 (a1 + bt240.2)) + (wrap64 ((Go.bits .and .i64 (wrap64 ((fbits bt240.1) / 4503599627370496)) 2047) - 1023)))) < (-1075) then ((math_Copysign.f 0 bt240.1).bind fun t242 => (some t242)) else (if (wrap64 ((wrap64 (a1 + bt240.2)) + (wrap64 ((Go.bits .and .i64 (wrap64 ((fbits bt240.1) / 4503599627370496)) 2047) - 1023)))) > 1023 then (if (flt bt240.1 0) = true then ((math_Inf.f (-1)).bind fun t243 => (some t243)) else ((math_Inf.f 1).bind fun t244 => (some t244))) else (if (wrap64 ((wrap64 (a1 + bt240.2)) + (wrap64 ((Go.bits .and .i64 (wrap64 ((fbits bt240.1) / 4503599627370496)) 2047) - 1023)))) < (-1022) then (if (fmulOk 4368491638549381120 (ffrom (Go.bits .or .u64 (Go.bits .andNot .u64 (fbits bt240.1) 9218868437227405312) (IntKind.u64.wrap ((IntKind.u64.wrap (wrap64 ((wrap64 ((wrap64 ((wrap64 (a1 + bt240.2)) + (wrap64 ((Go.bits .and .i64 (wrap64 ((fbits bt240.1) / 4503599627370496)) 2047) - 1023)))) + 53)) + 1023))) * 4503599627370496))))) = true then (some (fmul 4368491638549381120 (ffrom (Go.bits .or .u64 (Go.bits .andNot .u64 (fbits bt240.1) 9218868437227405312) (IntKind.u64.wrap ((IntKind.u64.wrap (wrap64 ((wrap64 ((wrap64 ((wrap64 (a1 + bt240.2)) + (wrap64 ((Go.bits .and .i64 (wrap64 ((fbits bt240.1) / 4503599627370496)) 2047) - 1023)))) + 53)) + 1023))) * 4503599627370496)))))) else (none)) else (if (fmulOk 4607182418800017408 (ffrom (Go.bits .or .u64 (Go.bits .andNot .u64 (fbits bt240.1) 9218868437227405312) (IntKind.u64.wrap ((IntKind.u64.wrap (wrap64 ((wrap64 ((wrap64 (a1 + bt240.2)) + (wrap64 ((Go.bits .and .i64 (wrap64 ((fbits bt240.1) / 4503599627370496)) 2047) - 1023)))) + 1023))) * 4503599627370496))))) = true then (some (fmul 4607182418800017408 (ffrom (Go.bits .or .u64 (Go.bits .andNot .u64 (fbits bt240.1) 9218868437227405312) (IntKind.u64.wrap ((IntKind.u64.wrap (wrap64 ((wrap64 ((wrap64 (a1 + bt240.2)) + (wrap64 ((Go.bits .and .i64 (wrap64 ((fbits bt240.1) / 4503599627370496)) 2047) - 1023)))) + 1023))) * 4503599627370496)))))) else (none))))))))))) = some r := h
  clear h
  by_cases c3 : (feq a0 0) = true
  · rw [if_pos c3] at H
    have c3b0 : (feq a0 0) = true := c3
    clear c3
    obtain rfl := Option.some.inj H
    go_enter Try.func63, Try.ntmps63
    go_wp2
    go_ret
    exact ⟨by first | rfl | (simp; done) | (simp [*]; done), by repeat (first | exact Drawn0.refl _ | apply Drawn0.step)⟩
  · rw [if_neg c3] at H
    have c3b0 : (feq a0 0) = false := by simpa using c3
    clear c3
    replace H := Option.bind_eq_some_iff.mp H
    obtain ⟨t238, A40, H⟩ := H
    replace H : (if t238 = true then (some a0) else ((math_IsNaN.f a0).bind fun t239 => (if t239 = true then (some a0) else ((math_normalize.f a0).bind fun bt240 => (if (wrap64 ((wrap64 (a1 + bt240.2)) + (wrap64 ((Go.bits .and .i64 (wrap64 ((fbits bt240.1) / 4503599627370496)) 2047) - 1023)))) < (-1075) then ((math_Copysign.f 0 bt240.1).bind fun t242 => (some t242)) else (if (wrap64 ((wrap64 (a1 + bt240.2)) + (wrap64 ((Go.bits .and .i64 (wrap64 ((fbits bt240.1) / 4503599627370496)) 2047) - 1023)))) > 1023 then (if (flt bt240.1 0) = true then ((math_Inf.f (-1)).bind fun t243 => (some t243)) else ((math_Inf.f 1).bind fun t244 => (some t244))) else (if (wrap64 ((wrap64 (a1 + bt240.2)) + (wrap64 ((Go.bits .and .i64 (wrap64 ((fbits bt240.1) / 4503599627370496)) 2047) - 1023)))) < (-1022) then (if (fmulOk 4368491638549381120 (ffrom (Go.bits .or .u64 (Go.bits .andNot .u64 (fbits bt240.1) 9218868437227405312) (IntKind.u64.wrap ((IntKind.u64.wrap (wrap64 ((wrap64 ((wrap64 ((wrap64 (a1 + bt240.2)) + (wrap64 ((Go.bits .and .i64 (wrap64 ((fbits bt240.1) / 4503599627370496)) 2047) - 1023)))) + 53)) + 1023))) * 4503599627370496))))) = true then (some (fmul 4368491638549381120 (ffrom (Go.bits .or .u64 (Go.bits .andNot .u64 (fbits bt240.1) 9218868437227405312) (IntKind.u64.wrap ((IntKind.u64.wrap (wrap64 ((wrap64 ((wrap64 ((wrap64 (a1 + bt240.2)) + (wrap64 ((Go.bits .and .i64 (wrap64 ((fbits bt240.1) / 4503599627370496)) 2047) - 1023)))) + 53)) + 1023))) * 4503599627370496)))))) else (none)) else (if (fmulOk 4607182418800017408 (ffrom (Go.bits .or .u64 (Go.bits .andNot .u64 (fbits bt240.1) 9218868437227405312) (IntKind.u64.wrap ((IntKind.u64.wrap (wrap64 ((wrap64 ((wrap64 (a1 + bt240.2)) + (wrap64 ((Go.bits .and .i64 (wrap64 ((fbits bt240.1) / 4503599627370496)) 2047) - 1023)))) + 1023))) * 4503599627370496))))) = true then (some (fmul 4607182418800017408 (ffrom (Go.bits .or .u64 (Go.bits .andNot .u64 (fbits bt240.1) 9218868437227405312) (IntKind.u64.wrap ((IntKind.u64.wrap (wrap64 ((wrap64 ((wrap64 (a1 + bt240.2)) + (wrap64 ((Go.bits .and .i64 (wrap64 ((fbits bt240.1) / 4503599627370496)) 2047) - 1023)))) + 1023))) * 4503599627370496)))))) else (none))))))))) = some r := H
    have A4 := Aside0.mk A40
    clear A40
    by_cases c5 : t238 = true
    · subst c5
      have H1 : (some a0) = some r := by rw [if_pos rfl] at H; exact H
      clear H
      have H := H1
      clear H1
      obtain rfl := Option.some.inj H
      go_enter Try.func63, Try.ntmps63
      go_wp2_with (first | ((with_reducible refine gate_callee (f := 38) rfl ?_); refine goesL_ (some 14) rfl rfl Try.func38 (by kernel_rfl) rfl #[.float .f64 a0, .int .i64 0] rfl (by (try simp only [List.map_toArray, List.map_cons, List.map_nil]); first | done | rfl | (simp only [List.length_drop, List.length_take]; rfl)) ?_; (with_reducible refine (math_IsInf.calls a0 0 true _ A4.out).mono ?_); rintro e w' ⟨rfl, ⟨nd, rfl⟩⟩; refine ⟨_, rfl, ?_⟩))
      go_ret
      exact ⟨by first | rfl | (simp; done) | (simp [*]; done), by repeat (first | exact Drawn0.refl _ | apply Drawn0.step)⟩
    · replace c5 := Bool.eq_false_iff.mpr c5
      subst c5
      have H1 : ((math_IsNaN.f a0).bind fun t239 => (if t239 = true then (some a0) else ((math_normalize.f a0).bind fun bt240 => (if (wrap64 ((wrap64 (a1 + bt240.2)) + (wrap64 ((Go.bits .and .i64 (wrap64 ((fbits bt240.1) / 4503599627370496)) 2047) - 1023)))) < (-1075) then ((math_Copysign.f 0 bt240.1).bind fun t242 => (some t242)) else (if (wrap64 ((wrap64 (a1 + bt240.2)) + (wrap64 ((Go.bits .and .i64 (wrap64 ((fbits bt240.1) / 4503599627370496)) 2047) - 1023)))) > 1023 then (if (flt bt240.1 0) = true then ((math_Inf.f (-1)).bind fun t243 => (some t243)) else ((math_Inf.f 1).bind fun t244 => (some t244))) else (if (wrap64 ((wrap64 (a1 + bt240.2)) + (wrap64 ((Go.bits .and .i64 (wrap64 ((fbits bt240.1) / 4503599627370496)) 2047) - 1023)))) < (-1022) then (if (fmulOk 4368491638549381120 (ffrom (Go.bits .or .u64 (Go.bits .andNot .u64 (fbits bt240.1) 9218868437227405312) (IntKind.u64.wrap ((IntKind.u64.wrap (wrap64 ((wrap64 ((wrap64 ((wrap64 (a1 + bt240.2)) + (wrap64 ((Go.bits .and .i64 (wrap64 ((fbits bt240.1) / 4503599627370496)) 2047) - 1023)))) + 53)) + 1023))) * 4503599627370496))))) = true then (some (fmul 4368491638549381120 (ffrom (Go.bits .or .u64 (Go.bits .andNot .u64 (fbits bt240.1) 9218868437227405312) (IntKind.u64.wrap ((IntKind.u64.wrap (wrap64 ((wrap64 ((wrap64 ((wrap64 (a1 + bt240.2)) + (wrap64 ((Go.bits .and .i64 (wrap64 ((fbits bt240.1) / 4503599627370496)) 2047) - 1023)))) + 53)) + 1023))) * 4503599627370496)))))) else (none)) else (if (fmulOk 4607182418800017408 (ffrom (Go.bits .or .u64 (Go.bits .andNot .u64 (fbits bt240.1) 9218868437227405312) (IntKind.u64.wrap ((IntKind.u64.wrap (wrap64 ((wrap64 ((wrap64 (a1 + bt240.2)) + (wrap64 ((Go.bits .and .i64 (wrap64 ((fbits bt240.1) / 4503599627370496)) 2047) - 1023)))) + 1023))) * 4503599627370496))))) = true then (some (fmul 4607182418800017408 (ffrom (Go.bits .or .u64 (Go.bits .andNot .u64 (fbits bt240.1) 9218868437227405312) (IntKind.u64.wrap ((IntKind.u64.wrap (wrap64 ((wrap64 ((wrap64 (a1 + bt240.2)) + (wrap64 ((Go.bits .and .i64 (wrap64 ((fbits bt240.1) / 4503599627370496)) 2047) - 1023)))) + 1023))) * 4503599627370496)))))) else (none)))))))) = some r := by rw [if_neg (show ¬ (false = true) by decide)] at H; exact H
      clear H
      have H := H1
      clear H1
      replace H := Option.bind_eq_some_iff.mp H
      obtain ⟨t239, A60, H⟩ := H
      replace H : (if t239 = true then (some a0) else ((math_normalize.f a0).bind fun bt240 => (if (wrap64 ((wrap64 (a1 + bt240.2)) + (wrap64 ((Go.bits .and .i64 (wrap64 ((fbits bt240.1) / 4503599627370496)) 2047) - 1023)))) < (-1075) then ((math_Copysign.f 0 bt240.1).bind fun t242 => (some t242)) else (if (wrap64 ((wrap64 (a1 + bt240.2)) + (wrap64 ((Go.bits .and .i64 (wrap64 ((fbits bt240.1) / 4503599627370496)) 2047) - 1023)))) > 1023 then (if (flt bt240.1 0) = true then ((math_Inf.f (-1)).bind fun t243 => (some t243)) else ((math_Inf.f 1).bind fun t244 => (some t244))) else (if (wrap64 ((wrap64 (a1 + bt240.2)) + (wrap64 ((Go.bits .and .i64 (wrap64 ((fbits bt240.1) / 4503599627370496)) 2047) - 1023)))) < (-1022) then (if (fmulOk 4368491638549381120 (ffrom (Go.bits .or .u64 (Go.bits .andNot .u64 (fbits bt240.1) 9218868437227405312) (IntKind.u64.wrap ((IntKind.u64.wrap (wrap64 ((wrap64 ((wrap64 ((wrap64 (a1 + bt240.2)) + (wrap64 ((Go.bits .and .i64 (wrap64 ((fbits bt240.1) / 4503599627370496)) 2047) - 1023)))) + 53)) + 1023))) * 4503599627370496))))) = true then (some (fmul 4368491638549381120 (ffrom (Go.bits .or .u64 (Go.bits .andNot .u64 (fbits bt240.1) 9218868437227405312) (IntKind.u64.wrap ((IntKind.u64.wrap (wrap64 ((wrap64 ((wrap64 ((wrap64 (a1 + bt240.2)) + (wrap64 ((Go.bits .and .i64 (wrap64 ((fbits bt240.1) / 4503599627370496)) 2047) - 1023)))) + 53)) + 1023))) * 4503599627370496)))))) else (none)) else (if (fmulOk 4607182418800017408 (ffrom (Go.bits .or .u64 (Go.bits .andNot .u64 (fbits bt240.1) 9218868437227405312) (IntKind.u64.wrap ((IntKind.u64.wrap (wrap64 ((wrap64 ((wrap64 (a1 + bt240.2)) + (wrap64 ((Go.bits .and .i64 (wrap64 ((fbits bt240.1) / 4503599627370496)) 2047) - 1023)))) + 1023))) * 4503599627370496))))) = true then (some (fmul 4607182418800017408 (ffrom (Go.bits .or .u64 (Go.bits .andNot .u64 (fbits bt240.1) 9218868437227405312) (IntKind.u64.wrap ((IntKind.u64.wrap (wrap64 ((wrap64 ((wrap64 (a1 + bt240.2)) + (wrap64 ((Go.bits .and .i64 (wrap64 ((fbits bt240.1) / 4503599627370496)) 2047) - 1023)))) + 1023))) * 4503599627370496)))))) else (none))))))) = some r := H
      have A6 := Aside0.mk A60
      clear A60
      by_cases c7 : t239 = true
      · subst c7
        have H1 : (some a0) = some r := by rw [if_pos rfl] at H; exact H
        clear H
        have H := H1
        clear H1
        obtain rfl := Option.some.inj H
        go_enter Try.func63, Try.ntmps63
        go_wp2_with (first | ((with_reducible refine gate_callee (f := 38) rfl ?_); refine goesL_ (some 14) rfl rfl Try.func38 (by kernel_rfl) rfl #[.float .f64 a0, .int .i64 0] rfl (by (try simp only [List.map_toArray, List.map_cons, List.map_nil]); first | done | rfl | (simp only [List.length_drop, List.length_take]; rfl)) ?_; (with_reducible refine (math_IsInf.calls a0 0 false _ A4.out).mono ?_); rintro e w' ⟨rfl, ⟨nd, rfl⟩⟩; refine ⟨_, rfl, ?_⟩) | (go_at_call 37; (with_reducible refine (math_IsNaN.calls a0 true _ A6.out).mono ?_); rintro e w' ⟨rfl, ⟨nd, rfl⟩⟩))
        go_ret
        exact ⟨by first | rfl | (simp; done) | (simp [*]; done), by repeat (first | exact Drawn0.refl _ | apply Drawn0.step)⟩
      · replace c7 := Bool.eq_false_iff.mpr c7
        subst c7
        have H1 : ((math_normalize.f a0).bind fun bt240 => (if (wrap64 ((wrap64 (a1 + bt240.2)) + (wrap64 ((Go.bits .and .i64 (wrap64 ((fbits bt240.1) / 4503599627370496)) 2047) - 1023)))) < (-1075) then ((math_Copysign.f 0 bt240.1).bind fun t242 => (some t242)) else (if (wrap64 ((wrap64 (a1 + bt240.2)) + (wrap64 ((Go.bits .and .i64 (wrap64 ((fbits bt240.1) / 4503599627370496)) 2047) - 1023)))) > 1023 then (if (flt bt240.1 0) = true then ((math_Inf.f (-1)).bind fun t243 => (some t243)) else ((math_Inf.f 1).bind fun t244 => (some t244))) else (if (wrap64 ((wrap64 (a1 + bt240.2)) + (wrap64 ((Go.bits .and .i64 (wrap64 ((fbits bt240.1) / 4503599627370496)) 2047) - 1023)))) < (-1022) then (if (fmulOk 4368491638549381120 (ffrom (Go.bits .or .u64 (Go.bits .andNot .u64 (fbits bt240.1) 9218868437227405312) (IntKind.u64.wrap ((IntKind.u64.wrap (wrap64 ((wrap64 ((wrap64 ((wrap64 (a1 + bt240.2)) + (wrap64 ((Go.bits .and .i64 (wrap64 ((fbits bt240.1) / 4503599627370496)) 2047) - 1023)))) + 53)) + 1023))) * 4503599627370496))))) = true then (some (fmul 4368491638549381120 (ffrom (Go.bits .or .u64 (Go.bits .andNot .u64 (fbits bt240.1) 9218868437227405312) (IntKind.u64.wrap ((IntKind.u64.wrap (wrap64 ((wrap64 ((wrap64 ((wrap64 (a1 + bt240.2)) + (wrap64 ((Go.bits .and .i64 (wrap64 ((fbits bt240.1) / 4503599627370496)) 2047) - 1023)))) + 53)) + 1023))) * 4503599627370496)))))) else (none)) else (if (fmulOk 4607182418800017408 (ffrom (Go.bits .or .u64 (Go.bits .andNot .u64 (fbits bt240.1) 9218868437227405312) (IntKind.u64.wrap ((IntKind.u64.wrap (wrap64 ((wrap64 ((wrap64 (a1 + bt240.2)) + (wrap64 ((Go.bits .and .i64 (wrap64 ((fbits bt240.1) / 4503599627370496)) 2047) - 1023)))) + 1023))) * 4503599627370496))))) = true then (some (fmul 4607182418800017408 (ffrom (Go.bits .or .u64 (Go.bits .andNot .u64 (fbits bt240.1) 9218868437227405312) (IntKind.u64.wrap ((IntKind.u64.wrap (wrap64 ((wrap64 ((wrap64 (a1 + bt240.2)) + (wrap64 ((Go.bits .and .i64 (wrap64 ((fbits bt240.1) / 4503599627370496)) 2047) - 1023)))) + 1023))) * 4503599627370496)))))) else (none)))))) = some r := by rw [if_neg (show ¬ (false = true) by decide)] at H; exact H
        clear H
        have H := H1
        clear H1
        replace H := Option.bind_eq_some_iff.mp H
        obtain ⟨⟨t240, t241⟩, A80, H⟩ := H
        replace H : (if (wrap64 ((wrap64 (a1 + t241)) + (wrap64 ((Go.bits .and .i64 (wrap64 ((fbits t240) / 4503599627370496)) 2047) - 1023)))) < (-1075) then ((math_Copysign.f 0 t240).bind fun t242 => (some t242)) else (if (wrap64 ((wrap64 (a1 + t241)) + (wrap64 ((Go.bits .and .i64 (wrap64 ((fbits t240) / 4503599627370496)) 2047) - 1023)))) > 1023 then (if (flt t240 0) = true then ((math_Inf.f (-1)).bind fun t243 => (some t243)) else ((math_Inf.f 1).bind fun t244 => (some t244))) else (if (wrap64 ((wrap64 (a1 + t241)) + (wrap64 ((Go.bits .and .i64 (wrap64 ((fbits t240) / 4503599627370496)) 2047) - 1023)))) < (-1022) then (if (fmulOk 4368491638549381120 (ffrom (Go.bits .or .u64 (Go.bits .andNot .u64 (fbits t240) 9218868437227405312) (IntKind.u64.wrap ((IntKind.u64.wrap (wrap64 ((wrap64 ((wrap64 ((wrap64 (a1 + t241)) + (wrap64 ((Go.bits .and .i64 (wrap64 ((fbits t240) / 4503599627370496)) 2047) - 1023)))) + 53)) + 1023))) * 4503599627370496))))) = true then (some (fmul 4368491638549381120 (ffrom (Go.bits .or .u64 (Go.bits .andNot .u64 (fbits t240) 9218868437227405312) (IntKind.u64.wrap ((IntKind.u64.wrap (wrap64 ((wrap64 ((wrap64 ((wrap64 (a1 + t241)) + (wrap64 ((Go.bits .and .i64 (wrap64 ((fbits t240) / 4503599627370496)) 2047) - 1023)))) + 53)) + 1023))) * 4503599627370496)))))) else (none)) else (if (fmulOk 4607182418800017408 (ffrom (Go.bits .or .u64 (Go.bits .andNot .u64 (fbits t240) 9218868437227405312) (IntKind.u64.wrap ((IntKind.u64.wrap (wrap64 ((wrap64 ((wrap64 (a1 + t241)) + (wrap64 ((Go.bits .and .i64 (wrap64 ((fbits t240) / 4503599627370496)) 2047) - 1023)))) + 1023))) * 4503599627370496))))) = true then (some (fmul 4607182418800017408 (ffrom (Go.bits .or .u64 (Go.bits .andNot .u64 (fbits t240) 9218868437227405312) (IntKind.u64.wrap ((IntKind.u64.wrap (wrap64 ((wrap64 ((wrap64 (a1 + t241)) + (wrap64 ((Go.bits .and .i64 (wrap64 ((fbits t240) / 4503599627370496)) 2047) - 1023)))) + 1023))) * 4503599627370496)))))) else (none))))) = some r := H
        have A8 := Aside0.mk A80
        clear A80
        by_cases c9 : (wrap64 ((wrap64 (a1 + t241)) + (wrap64 ((Go.bits .and .i64 (wrap64 ((fbits t240) / 4503599627370496)) 2047) - 1023)))) < (-1075)
        · rw [if_pos c9] at H
          have c9b0 : decide ((wrap64 ((wrap64 (a1 + t241)) + (wrap64 ((Go.bits .and .i64 (wrap64 ((fbits t240) / 4503599627370496)) 2047) - 1023)))) < (-1075)) = true := decide_eq_true c9
          clear c9
          replace H := Option.bind_eq_some_iff.mp H
          obtain ⟨t242, A100, H⟩ := H
          replace H : (some t242) = some r := H
          have A10 := Aside0.mk A100
          clear A100
          obtain rfl := Option.some.inj H
          go_enter Try.func63, Try.ntmps63
          go_wp2_with (first | ((with_reducible refine gate_callee (f := 38) rfl ?_); refine goesL_ (some 14) rfl rfl Try.func38 (by kernel_rfl) rfl #[.float .f64 a0, .int .i64 0] rfl (by (try simp only [List.map_toArray, List.map_cons, List.map_nil]); first | done | rfl | (simp only [List.length_drop, List.length_take]; rfl)) ?_; (with_reducible refine (math_IsInf.calls a0 0 false _ A4.out).mono ?_); rintro e w' ⟨rfl, ⟨nd, rfl⟩⟩; refine ⟨_, rfl, ?_⟩) | (go_at_call 37; (with_reducible refine (math_IsNaN.calls a0 false _ A6.out).mono ?_); rintro e w' ⟨rfl, ⟨nd, rfl⟩⟩) | ((with_reducible refine gate_callee (f := 64) rfl ?_); refine goesL_ (some 22) rfl rfl Try.func64 (by kernel_rfl) rfl #[.float .f64 a0] rfl (by (try simp only [List.map_toArray, List.map_cons, List.map_nil]); first | done | rfl | (simp only [List.length_drop, List.length_take]; rfl)) ?_; (with_reducible refine (math_normalize.calls a0 t240 t241 _ A8.out).mono ?_); rintro e w' ⟨rfl, ⟨nd, rfl⟩⟩; refine ⟨_, rfl, ?_⟩) | ((with_reducible refine gate_callee (f := 59) rfl ?_); refine goesL_ (some 40) rfl rfl Try.func59 (by kernel_rfl) rfl #[.float .f64 0, .float .f64 t240] rfl (by (try simp only [List.map_toArray, List.map_cons, List.map_nil]); first | done | rfl | (simp only [List.length_drop, List.length_take]; rfl)) ?_; (with_reducible refine (math_Copysign.calls 0 t240 t242 _ A10.out).mono ?_); rintro e w' ⟨rfl, ⟨nd, rfl⟩⟩; refine ⟨_, rfl, ?_⟩))
          go_ret
          exact ⟨by first | rfl | (simp; done) | (simp [*]; done), by repeat (first | exact Drawn0.refl _ | apply Drawn0.step)⟩
        · rw [if_neg c9] at H
          have c9b0 : decide ((wrap64 ((wrap64 (a1 + t241)) + (wrap64 ((Go.bits .and .i64 (wrap64 ((fbits t240) / 4503599627370496)) 2047) - 1023)))) < (-1075)) = false := decide_eq_false c9
          clear c9
          by_cases c11 : (wrap64 ((wrap64 (a1 + t241)) + (wrap64 ((Go.bits .and .i64 (wrap64 ((fbits t240) / 4503599627370496)) 2047) - 1023)))) > 1023
          · rw [if_pos c11] at H
            have c11b0 : decide (1023 < (wrap64 ((wrap64 (a1 + t241)) + (wrap64 ((Go.bits .and .i64 (wrap64 ((fbits t240) / 4503599627370496)) 2047) - 1023))))) = true := decide_eq_true c11
            clear c11
            by_cases c12 : (flt t240 0) = true
            · rw [if_pos c12] at H
              have c12b0 : (flt t240 0) = true := c12
              clear c12
              replace H := Option.bind_eq_some_iff.mp H
              obtain ⟨t243, A130, H⟩ := H
              replace H : (some t243) = some r := H
              have A13 := Aside0.mk A130
              clear A130
              obtain rfl := Option.some.inj H
              go_enter Try.func63, Try.ntmps63
              go_wp2_with (first | ((with_reducible refine gate_callee (f := 38) rfl ?_); refine goesL_ (some 14) rfl rfl Try.func38 (by kernel_rfl) rfl #[.float .f64 a0, .int .i64 0] rfl (by (try simp only [List.map_toArray, List.map_cons, List.map_nil]); first | done | rfl | (simp only [List.length_drop, List.length_take]; rfl)) ?_; (with_reducible refine (math_IsInf.calls a0 0 false _ A4.out).mono ?_); rintro e w' ⟨rfl, ⟨nd, rfl⟩⟩; refine ⟨_, rfl, ?_⟩) | (go_at_call 37; (with_reducible refine (math_IsNaN.calls a0 false _ A6.out).mono ?_); rintro e w' ⟨rfl, ⟨nd, rfl⟩⟩) | ((with_reducible refine gate_callee (f := 64) rfl ?_); refine goesL_ (some 22) rfl rfl Try.func64 (by kernel_rfl) rfl #[.float .f64 a0] rfl (by (try simp only [List.map_toArray, List.map_cons, List.map_nil]); first | done | rfl | (simp only [List.length_drop, List.length_take]; rfl)) ?_; (with_reducible refine (math_normalize.calls a0 t240 t241 _ A8.out).mono ?_); rintro e w' ⟨rfl, ⟨nd, rfl⟩⟩; refine ⟨_, rfl, ?_⟩) | ((with_reducible refine gate_callee (f := 65) rfl ?_); refine goesL_ (some 45) rfl rfl Try.func65 (by kernel_rfl) rfl #[.int .i64 (-1)] rfl (by (try simp only [List.map_toArray, List.map_cons, List.map_nil]); first | done | rfl | (simp only [List.length_drop, List.length_take]; rfl)) ?_; (with_reducible refine (math_Inf.calls (-1) t243 _ A13.out).mono ?_); rintro e w' ⟨rfl, ⟨nd, rfl⟩⟩; refine ⟨_, rfl, ?_⟩))
              go_ret
              exact ⟨by first | rfl | (simp; done) | (simp [*]; done), by repeat (first | exact Drawn0.refl _ | apply Drawn0.step)⟩
            · rw [if_neg c12] at H
              have c12b0 : (flt t240 0) = false := by simpa using c12
              clear c12
              replace H := Option.bind_eq_some_iff.mp H
              obtain ⟨t244, A140, H⟩ := H
              replace H : (some t244) = some r := H
              have A14 := Aside0.mk A140
              clear A140
              obtain rfl := Option.some.inj H
              go_enter Try.func63, Try.ntmps63
              go_wp2_with (first | ((with_reducible refine gate_callee (f := 38) rfl ?_); refine goesL_ (some 14) rfl rfl Try.func38 (by kernel_rfl) rfl #[.float .f64 a0, .int .i64 0] rfl (by (try simp only [List.map_toArray, List.map_cons, List.map_nil]); first | done | rfl | (simp only [List.length_drop, List.length_take]; rfl)) ?_; (with_reducible refine (math_IsInf.calls a0 0 false _ A4.out).mono ?_); rintro e w' ⟨rfl, ⟨nd, rfl⟩⟩; refine ⟨_, rfl, ?_⟩) | (go_at_call 37; (with_reducible refine (math_IsNaN.calls a0 false _ A6.out).mono ?_); rintro e w' ⟨rfl, ⟨nd, rfl⟩⟩) | ((with_reducible refine gate_callee (f := 64) rfl ?_); refine goesL_ (some 22) rfl rfl Try.func64 (by kernel_rfl) rfl #[.float .f64 a0] rfl (by (try simp only [List.map_toArray, List.map_cons, List.map_nil]); first | done | rfl | (simp only [List.length_drop, List.length_take]; rfl)) ?_; (with_reducible refine (math_normalize.calls a0 t240 t241 _ A8.out).mono ?_); rintro e w' ⟨rfl, ⟨nd, rfl⟩⟩; refine ⟨_, rfl, ?_⟩) | ((with_reducible refine gate_callee (f := 65) rfl ?_); refine goesL_ (some 46) rfl rfl Try.func65 (by kernel_rfl) rfl #[.int .i64 1] rfl (by (try simp only [List.map_toArray, List.map_cons, List.map_nil]); first | done | rfl | (simp only [List.length_drop, List.length_take]; rfl)) ?_; (with_reducible refine (math_Inf.calls 1 t244 _ A14.out).mono ?_); rintro e w' ⟨rfl, ⟨nd, rfl⟩⟩; refine ⟨_, rfl, ?_⟩))
              go_ret
              exact ⟨by first | rfl | (simp; done) | (simp [*]; done), by repeat (first | exact Drawn0.refl _ | apply Drawn0.step)⟩
          · rw [if_neg c11] at H
            have c11b0 : decide (1023 < (wrap64 ((wrap64 (a1 + t241)) + (wrap64 ((Go.bits .and .i64 (wrap64 ((fbits t240) / 4503599627370496)) 2047) - 1023))))) = false := decide_eq_false c11
            clear c11
            by_cases c15 : (wrap64 ((wrap64 (a1 + t241)) + (wrap64 ((Go.bits .and .i64 (wrap64 ((fbits t240) / 4503599627370496)) 2047) - 1023)))) < (-1022)
            · rw [if_pos c15] at H
              have c15b0 : decide ((wrap64 ((wrap64 (a1 + t241)) + (wrap64 ((Go.bits .and .i64 (wrap64 ((fbits t240) / 4503599627370496)) 2047) - 1023)))) < (-1022)) = true := decide_eq_true c15
              clear c15
              by_cases c16 : (fmulOk 4368491638549381120 (ffrom (Go.bits .or .u64 (Go.bits .andNot .u64 (fbits t240) 9218868437227405312) (IntKind.u64.wrap ((IntKind.u64.wrap (wrap64 ((wrap64 ((wrap64 ((wrap64 (a1 + t241)) + (wrap64 ((Go.bits .and .i64 (wrap64 ((fbits t240) / 4503599627370496)) 2047) - 1023)))) + 53)) + 1023))) * 4503599627370496))))) = true
              · rw [if_pos c16] at H
                have c16b0 := eq_true c16
                have c16b1 : decide ((fmulOk 4368491638549381120 (ffrom (Go.bits .or .u64 (Go.bits .andNot .u64 (fbits t240) 9218868437227405312) (IntKind.u64.wrap ((IntKind.u64.wrap (wrap64 ((wrap64 ((wrap64 ((wrap64 (a1 + t241)) + (wrap64 ((Go.bits .and .i64 (wrap64 ((fbits t240) / 4503599627370496)) 2047) - 1023)))) + 53)) + 1023))) * 4503599627370496))))) = true) = true := decide_eq_true c16
                obtain rfl := Option.some.inj H
                go_enter Try.func63, Try.ntmps63
                go_wp2_with (first | ((with_reducible refine gate_callee (f := 38) rfl ?_); refine goesL_ (some 14) rfl rfl Try.func38 (by kernel_rfl) rfl #[.float .f64 a0, .int .i64 0] rfl (by (try simp only [List.map_toArray, List.map_cons, List.map_nil]); first | done | rfl | (simp only [List.length_drop, List.length_take]; rfl)) ?_; (with_reducible refine (math_IsInf.calls a0 0 false _ A4.out).mono ?_); rintro e w' ⟨rfl, ⟨nd, rfl⟩⟩; refine ⟨_, rfl, ?_⟩) | (go_at_call 37; (with_reducible refine (math_IsNaN.calls a0 false _ A6.out).mono ?_); rintro e w' ⟨rfl, ⟨nd, rfl⟩⟩) | ((with_reducible refine gate_callee (f := 64) rfl ?_); refine goesL_ (some 22) rfl rfl Try.func64 (by kernel_rfl) rfl #[.float .f64 a0] rfl (by (try simp only [List.map_toArray, List.map_cons, List.map_nil]); first | done | rfl | (simp only [List.length_drop, List.length_take]; rfl)) ?_; (with_reducible refine (math_normalize.calls a0 t240 t241 _ A8.out).mono ?_); rintro e w' ⟨rfl, ⟨nd, rfl⟩⟩; refine ⟨_, rfl, ?_⟩))
                go_ret
                exact ⟨by first | rfl | (simp; done) | (simp [*]; done), by repeat (first | exact Drawn0.refl _ | apply Drawn0.step)⟩
              · rw [if_neg c16] at H
                exact absurd H (by simp)
            · rw [if_neg c15] at H
              have c15b0 : decide ((wrap64 ((wrap64 (a1 + t241)) + (wrap64 ((Go.bits .and .i64 (wrap64 ((fbits t240) / 4503599627370496)) 2047) - 1023)))) < (-1022)) = false := decide_eq_false c15
              clear c15
              by_cases c17 : (fmulOk 4607182418800017408 (ffrom (Go.bits .or .u64 (Go.bits .andNot .u64 (fbits t240) 9218868437227405312) (IntKind.u64.wrap ((IntKind.u64.wrap (wrap64 ((wrap64 ((wrap64 (a1 + t241)) + (wrap64 ((Go.bits .and .i64 (wrap64 ((fbits t240) / 4503599627370496)) 2047) - 1023)))) + 1023))) * 4503599627370496))))) = true
              · rw [if_pos c17] at H
                have c17b0 := eq_true c17
                have c17b1 : decide ((fmulOk 4607182418800017408 (ffrom (Go.bits .or .u64 (Go.bits .andNot .u64 (fbits t240) 9218868437227405312) (IntKind.u64.wrap ((IntKind.u64.wrap (wrap64 ((wrap64 ((wrap64 (a1 + t241)) + (wrap64 ((Go.bits .and .i64 (wrap64 ((fbits t240) / 4503599627370496)) 2047) - 1023)))) + 1023))) * 4503599627370496))))) = true) = true := decide_eq_true c17
                obtain rfl := Option.some.inj H
                go_enter Try.func63, Try.ntmps63
                go_wp2_with (first | ((with_reducible refine gate_callee (f := 38) rfl ?_); refine goesL_ (some 14) rfl rfl Try.func38 (by kernel_rfl) rfl #[.float .f64 a0, .int .i64 0] rfl (by (try simp only [List.map_toArray, List.map_cons, List.map_nil]); first | done | rfl | (simp only [List.length_drop, List.length_take]; rfl)) ?_; (with_reducible refine (math_IsInf.calls a0 0 false _ A4.out).mono ?_); rintro e w' ⟨rfl, ⟨nd, rfl⟩⟩; refine ⟨_, rfl, ?_⟩) | (go_at_call 37; (with_reducible refine (math_IsNaN.calls a0 false _ A6.out).mono ?_); rintro e w' ⟨rfl, ⟨nd, rfl⟩⟩) | ((with_reducible refine gate_callee (f := 64) rfl ?_); refine goesL_ (some 22) rfl rfl Try.func64 (by kernel_rfl) rfl #[.float .f64 a0] rfl (by (try simp only [List.map_toArray, List.map_cons, List.map_nil]); first | done | rfl | (simp only [List.length_drop, List.length_take]; rfl)) ?_; (with_reducible refine (math_normalize.calls a0 t240 t241 _ A8.out).mono ?_); rintro e w' ⟨rfl, ⟨nd, rfl⟩⟩; refine ⟨_, rfl, ?_⟩))
                go_ret
                exact ⟨by first | rfl | (simp; done) | (simp [*]; done), by repeat (first | exact Drawn0.refl _ | apply Drawn0.step)⟩
              · rw [if_neg c17] at H
                exact absurd H (by simp)

/-! ### math_Ldexp: function 58 -/
def math_Ldexp.f (a0 : Nat) (a1 : Int) : Option (Nat) := (math_ldexp.f a0 a1).bind fun t245 => (some t245)
set_option maxHeartbeats 2500000 in
set_option maxRecDepth 100000 in
theorem math_Ldexp.calls (a0 : Nat) (a1 : Int) (r : Nat) (w : World) (h : math_Ldexp.f a0 a1 = some r) :
    Calls Try.prog 58 #[.float .f64 a0, .int .i64 a1] w fun e w' => e = .returned (.float .f64 r) ∧ Drawn0 w w' := by
  have H : ((math_ldexp.f a0 a1).bind fun t245 => (some t245)) = some r := h
  clear h
  replace H := Option.bind_eq_some_iff.mp H
  obtain ⟨t245, A30, H⟩ := H
  replace H : (some t245) = some r := H
  have A3 := Aside0.mk A30
  clear A30
  obtain rfl := Option.some.inj H
  go_enter Try.func58, Try.ntmps58
  go_wp2_with (first | ((with_reducible refine gate_callee (f := 63) rfl ?_); refine goesL_ (some 10) rfl rfl Try.func63 (by kernel_rfl) rfl #[.float .f64 a0, .int .i64 a1] rfl (by (try simp only [List.map_toArray, List.map_cons, List.map_nil]); first | done | rfl | (simp only [List.length_drop, List.length_take]; rfl)) ?_; (with_reducible refine (math_ldexp.calls a0 a1 t245 _ A3.out).mono ?_); rintro e w' ⟨rfl, ⟨nd, rfl⟩⟩; refine ⟨_, rfl, ?_⟩))
  go_ret
  exact ⟨by first | rfl | (simp; done) | (simp [*]; done), by repeat (first | exact Drawn0.refl _ | apply Drawn0.step)⟩

end Go.Proofs.Ytajejidnidomgaa.XG
