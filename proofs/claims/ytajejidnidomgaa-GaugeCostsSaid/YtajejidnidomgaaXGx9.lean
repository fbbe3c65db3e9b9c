/- Go functions of this seat as Lean functions, with proofs that the calls come to them. (Written by xprint.py, a program of this session, over the kit's print.) -/
import Derived.Test.YtajejidnidomgaaXGx0
import Derived.Test.YtajejidnidomgaaXGx2
import Derived.Test.YtajejidnidomgaaXGx3
import Derived.Test.YtajejidnidomgaaXGx5
import Derived.Test.YtajejidnidomgaaXGx6
import Derived.Test.YtajejidnidomgaaXGx8
namespace Go.Proofs.Ytajejidnidomgaa.XG
open Go.RowKit Go.Proofs.YtajejidnidomgaaW.PrintWords Go.Proofs.YtajejidnidomgaaW.PrintLast Go.Proofs.YtajejidnidomgaaW.PrintMore
attribute [local go_sem] max2_int min2_int max_two min_two max_three min_three max_four min_four   -- for this text's walks alone
set_option linter.unusedVariables false
set_option linter.unusedSimpArgs false

/-! ### math_mod: function 52 -/
mutual
def math_mod.j0 : Nat → Nat → Nat → Bool → Option (Nat)
  | 0, _, _, _ => none
  | k + 1, x0, x1, x23 => if x23 = true then ((math_NaN.f).bind fun t249 => (some t249)) else ((math_Abs.f x1).bind fun t250 => ((math_Frexp.f k t250).bind fun bt251 => (if (flt x0 0) = true then (math_mod.j1 k x0 t250 bt251.1 bt251.2 (fneg x0)) else (math_mod.j1 k x0 t250 bt251.1 bt251.2 x0))))
def math_mod.j1 : Nat → Nat → Nat → Nat → Int → Nat → Option (Nat)
  | 0, _, _, _, _, _ => none
  | k + 1, x0, x1, x5, x6, x7 => math_mod.l0 k x0 x1 x5 x6 x7
def math_mod.l0 : Nat → Nat → Nat → Nat → Int → Nat → Option (Nat)
  | 0, _, _, _, _, _ => none
  | k + 1, x0, x1, x5, x6, x7 => if (fle x1 x7) = true then ((math_Frexp.f k x7).bind fun bt253 => (if (flt bt253.1 x5) = true then ((math_Ldexp.f x1 (wrap64 ((wrap64 (bt253.2 - 1)) - x6))).bind fun t255 => (if (fsubOk x7 t255) = true then (math_mod.l0 k x0 x1 x5 x6 (fsub x7 t255)) else (none))) else ((math_Ldexp.f x1 (wrap64 (bt253.2 - x6))).bind fun t256 => (if (fsubOk x7 t256) = true then (math_mod.l0 k x0 x1 x5 x6 (fsub x7 t256)) else (none))))) else (if (flt x0 0) = true then (some (fneg x7)) else (some x7))
end
def math_mod.f (k : Nat) (a0 : Nat) (a1 : Nat) : Option (Nat) := if (feq a1 0) = true then (math_mod.j0 k a0 a1 true) else ((math_IsInf.f a0 0).bind fun t246 => (if t246 = true then (math_mod.j0 k a0 a1 true) else ((math_IsNaN.f a0).bind fun t247 => (if t247 = true then (math_mod.j0 k a0 a1 true) else ((math_IsNaN.f a1).bind fun t248 => (math_mod.j0 k a0 a1 t248))))))
theorem math_mod.mono_l : ∀ k, (∀ y0 y1 y2, LeO (math_mod.j0 k y0 y1 y2) (math_mod.j0 (k + 1) y0 y1 y2)) ∧ (∀ y0 y1 y2 y3 y4, LeO (math_mod.j1 k y0 y1 y2 y3 y4) (math_mod.j1 (k + 1) y0 y1 y2 y3 y4)) ∧ (∀ y0 y1 y2 y3 y4, LeO (math_mod.l0 k y0 y1 y2 y3 y4) (math_mod.l0 (k + 1) y0 y1 y2 y3 y4))
  | 0 => ⟨fun _ _ _ r h => by simp [math_mod.j0] at h, fun _ _ _ _ _ r h => by simp [math_mod.j1] at h, fun _ _ _ _ _ r h => by simp [math_mod.l0] at h⟩
  | k + 1 => by
    obtain ⟨ih0, ih1, ih2⟩ := math_mod.mono_l k
    refine ⟨?_, ?_, ?_⟩
    · intro y0 y1 y2
      unfold math_mod.j0
      repeat' first
      | (with_reducible exact ih0 _ _ _)
      | (with_reducible exact ih1 _ _ _ _ _)
      | (with_reducible exact ih2 _ _ _ _ _)
      | (with_reducible exact math_Frexp.mono _ _)
      | (with_reducible exact LeO.refl _)
      | (with_reducible exact LeO.none _)
      | (with_reducible refine LeO.ite ?_ ?_)
      | (with_reducible refine LeO.bind ?_ (fun _ => ?_))
      | exact ih0 _ _ _
      | exact ih1 _ _ _ _ _
      | exact ih2 _ _ _ _ _
      | exact math_Frexp.mono _ _
      | exact LeO.none _
      | refine LeO.ite ?_ ?_
      | refine LeO.bind ?_ (fun _ => ?_)
    · intro y0 y1 y2 y3 y4
      unfold math_mod.j1
      repeat' first
      | (with_reducible exact ih0 _ _ _)
      | (with_reducible exact ih1 _ _ _ _ _)
      | (with_reducible exact ih2 _ _ _ _ _)
      | (with_reducible exact math_Frexp.mono _ _)
      | (with_reducible exact LeO.refl _)
      | (with_reducible exact LeO.none _)
      | (with_reducible refine LeO.ite ?_ ?_)
      | (with_reducible refine LeO.bind ?_ (fun _ => ?_))
      | exact ih0 _ _ _
      | exact ih1 _ _ _ _ _
      | exact ih2 _ _ _ _ _
      | exact math_Frexp.mono _ _
      | exact LeO.none _
      | refine LeO.ite ?_ ?_
      | refine LeO.bind ?_ (fun _ => ?_)
    · intro y0 y1 y2 y3 y4
      unfold math_mod.l0
      repeat' first
      | (with_reducible exact ih0 _ _ _)
      | (with_reducible exact ih1 _ _ _ _ _)
      | (with_reducible exact ih2 _ _ _ _ _)
      | (with_reducible exact math_Frexp.mono _ _)
      | (with_reducible exact LeO.refl _)
      | (with_reducible exact LeO.none _)
      | (with_reducible refine LeO.ite ?_ ?_)
      | (with_reducible refine LeO.bind ?_ (fun _ => ?_))
      | exact ih0 _ _ _
      | exact ih1 _ _ _ _ _
      | exact ih2 _ _ _ _ _
      | exact math_Frexp.mono _ _
      | exact LeO.none _
      | refine LeO.ite ?_ ?_
      | refine LeO.bind ?_ (fun _ => ?_)
theorem math_mod.mono : ∀ a0 a1 k, LeO (math_mod.f k a0 a1) (math_mod.f (k + 1) a0 a1) := by
  intro a0 a1 k
  obtain ⟨ih0, ih1, ih2⟩ := math_mod.mono_l k
  unfold math_mod.f
  repeat' first
      | (with_reducible exact ih0 _ _ _)
      | (with_reducible exact ih1 _ _ _ _ _)
      | (with_reducible exact ih2 _ _ _ _ _)
      | (with_reducible exact math_Frexp.mono _ _)
      | (with_reducible exact LeO.refl _)
      | (with_reducible exact LeO.none _)
      | (with_reducible refine LeO.ite ?_ ?_)
      | (with_reducible refine LeO.bind ?_ (fun _ => ?_))
      | exact ih0 _ _ _
      | exact ih1 _ _ _ _ _
      | exact ih2 _ _ _ _ _
      | exact math_Frexp.mono _ _
      | exact LeO.none _
      | refine LeO.ite ?_ ?_
      | refine LeO.bind ?_ (fun _ => ?_)
set_option maxHeartbeats 2500000 in
set_option maxRecDepth 100000 in
theorem math_mod.calls (k : Nat) (a0 : Nat) (a1 : Nat) (r : Nat) (w : World) (h : math_mod.f k a0 a1 = some r) :
    Calls Try.prog 52 #[.float .f64 a0, .float .f64 a1] w fun e w' => e = .returned (.float .f64 r) ∧ Drawn0 w w' := by
  have H : (if (feq a1 0) = true then (math_mod.j0 k a0 a1 true) else ((math_IsInf.f a0 0).bind fun t246 => (if t246 = true then (math_mod.j0 k a0 a1 true) else ((math_IsNaN.f a0).bind fun t247 => (if t247 = true then (math_mod.j0 k a0 a1 true) else ((math_IsNaN.f a1).bind fun t248 => (math_mod.j0 k a0 a1 t248))))))) = some r := h
  clear h
  have HC3 := Aside0.mk H
  clear H
  go_enter Try.func52, Try.ntmps52
  go_upto_region 1 with (fail)
  go_cut [23] (fun v23 wc => ∃ (kq : Nat) (x23_2 : Bool), v23 = .bool x23_2 ∧ Aside0 (math_mod.j0 kq a0 a1 x23_2 = some r) ∧ Aside0 (kq ≤ k) ∧ Drawn0 w wc)
  case first =>
    have H := HC3.out
    clear HC3
    by_cases c4 : (feq a1 0) = true
    · rw [if_pos c4] at H
      have c4b0 : (feq a1 0) = true := c4
      clear c4
      (first | rw [c4b0] | (simp only [i64_w, i32_w]; rw [c4b0]) | skip)
      have H' := Aside0.mk H
      clear H
      go_wp2
      go_meet
      case rel => exact ⟨_, (true), (by first | rfl | (simp; done) | (simp [*]; done)), H', ⟨by first | omega | exact Nat.le_refl _⟩, by repeat (first | exact Drawn0.refl _ | apply Drawn0.step)⟩
    · rw [if_neg c4] at H
      have c4b0 : (feq a1 0) = false := by simpa using c4
      clear c4
      (first | rw [c4b0] | (simp only [i64_w, i32_w]; rw [c4b0]) | skip)
      replace H := Option.bind_eq_some_iff.mp H
      obtain ⟨t246, A50, H⟩ := H
      replace H : (if t246 = true then (math_mod.j0 k a0 a1 true) else ((math_IsNaN.f a0).bind fun t247 => (if t247 = true then (math_mod.j0 k a0 a1 true) else ((math_IsNaN.f a1).bind fun t248 => (math_mod.j0 k a0 a1 t248))))) = some r := H
      have A5 := Aside0.mk A50
      clear A50
      by_cases c6 : t246 = true
      · subst c6
        have H1 : (math_mod.j0 k a0 a1 true) = some r := by rw [if_pos rfl] at H; exact H
        clear H
        have H := H1
        clear H1
        have H' := Aside0.mk H
        clear H
        go_wp2_with (first | (go_at_call 38; (with_reducible refine (math_IsInf.calls a0 0 true _ A5.out).mono ?_); rintro e w' ⟨rfl, ⟨nd, rfl⟩⟩))
        go_meet
        case rel => exact ⟨_, (true), (by first | rfl | (simp; done) | (simp [*]; done)), H', ⟨by first | omega | exact Nat.le_refl _⟩, by repeat (first | exact Drawn0.refl _ | apply Drawn0.step)⟩
      · replace c6 := Bool.eq_false_iff.mpr c6
        subst c6
        have H1 : ((math_IsNaN.f a0).bind fun t247 => (if t247 = true then (math_mod.j0 k a0 a1 true) else ((math_IsNaN.f a1).bind fun t248 => (math_mod.j0 k a0 a1 t248)))) = some r := by rw [if_neg (show ¬ (false = true) by decide)] at H; exact H
        clear H
        have H := H1
        clear H1
        replace H := Option.bind_eq_some_iff.mp H
        obtain ⟨t247, A70, H⟩ := H
        replace H : (if t247 = true then (math_mod.j0 k a0 a1 true) else ((math_IsNaN.f a1).bind fun t248 => (math_mod.j0 k a0 a1 t248))) = some r := H
        have A7 := Aside0.mk A70
        clear A70
        by_cases c8 : t247 = true
        · subst c8
          have H1 : (math_mod.j0 k a0 a1 true) = some r := by rw [if_pos rfl] at H; exact H
          clear H
          have H := H1
          clear H1
          have H' := Aside0.mk H
          clear H
          go_wp2_with (first | (go_at_call 38; (with_reducible refine (math_IsInf.calls a0 0 false _ A5.out).mono ?_); rintro e w' ⟨rfl, ⟨nd, rfl⟩⟩) | (go_at_call 37; (with_reducible refine (math_IsNaN.calls a0 true _ A7.out).mono ?_); rintro e w' ⟨rfl, ⟨nd, rfl⟩⟩))
          go_meet
          case rel => exact ⟨_, (true), (by first | rfl | (simp; done) | (simp [*]; done)), H', ⟨by first | omega | exact Nat.le_refl _⟩, by repeat (first | exact Drawn0.refl _ | apply Drawn0.step)⟩
        · replace c8 := Bool.eq_false_iff.mpr c8
          subst c8
          have H1 : ((math_IsNaN.f a1).bind fun t248 => (math_mod.j0 k a0 a1 t248)) = some r := by rw [if_neg (show ¬ (false = true) by decide)] at H; exact H
          clear H
          have H := H1
          clear H1
          replace H := Option.bind_eq_some_iff.mp H
          obtain ⟨t248, A90, H⟩ := H
          replace H : (math_mod.j0 k a0 a1 t248) = some r := H
          have A9 := Aside0.mk A90
          clear A90
          have H' := Aside0.mk H
          clear H
          go_wp2_with (first | (go_at_call 38; (with_reducible refine (math_IsInf.calls a0 0 false _ A5.out).mono ?_); rintro e w' ⟨rfl, ⟨nd, rfl⟩⟩) | (go_at_call 37; (with_reducible refine (math_IsNaN.calls a0 false _ A7.out).mono ?_); rintro e w' ⟨rfl, ⟨nd, rfl⟩⟩) | (go_at_call 37; (with_reducible refine (math_IsNaN.calls a1 t248 _ A9.out).mono ?_); rintro e w' ⟨rfl, ⟨nd, rfl⟩⟩))
          go_meet
          case rel => exact ⟨_, (t248), (by first | rfl | (simp; done) | (simp [*]; done)), H', ⟨by first | omega | exact Nat.le_refl _⟩, by repeat (first | exact Drawn0.refl _ | apply Drawn0.step)⟩
  case rest =>
    clear HC3
    try clear p2
    try clear c4
    try clear c4b0
    try clear c5
    try clear c6
    try clear c8
    obtain ⟨kq, x23_2, rfl, HA, HJ2, ⟨mc2, rfl⟩⟩ := hcut
    cases kq with
    | zero => exact absurd HA.out (by simp [math_mod.j0])
    | succ kj2 =>
      have H := HA.out
      clear HA
      simp only [math_mod.j0] at H
      by_cases c10 : x23_2 = true
      · subst c10
        have H1 : ((math_NaN.f).bind fun t249 => (some t249)) = some r := by rw [if_pos rfl] at H; exact H
        clear H
        have H := H1
        clear H1
        replace H := Option.bind_eq_some_iff.mp H
        obtain ⟨t249, A110, H⟩ := H
        replace H : (some t249) = some r := H
        have A11 := Aside0.mk A110
        clear A110
        obtain rfl := Option.some.inj H
        go_wp2_with (first | ((with_reducible refine gate_callee (f := 56) rfl ?_); refine goesL_ (some 24) rfl rfl Try.func56 (by kernel_rfl) rfl #[] rfl (by (try simp only [List.map_toArray, List.map_cons, List.map_nil]); first | done | rfl | (simp only [List.length_drop, List.length_take]; rfl)) ?_; (with_reducible refine (math_NaN.calls  t249 _ A11.out).mono ?_); rintro e w' ⟨rfl, ⟨nd, rfl⟩⟩; refine ⟨_, rfl, ?_⟩))
        go_ret
        exact ⟨by first | rfl | (simp; done) | (simp [*]; done), by repeat (first | exact Drawn0.refl _ | apply Drawn0.step)⟩
      · replace c10 := Bool.eq_false_iff.mpr c10
        subst c10
        have H1 : ((math_Abs.f a1).bind fun t250 => ((math_Frexp.f kj2 t250).bind fun bt251 => (if (flt a0 0) = true then (math_mod.j1 kj2 a0 t250 bt251.1 bt251.2 (fneg a0)) else (math_mod.j1 kj2 a0 t250 bt251.1 bt251.2 a0)))) = some r := by rw [if_neg (show ¬ (false = true) by decide)] at H; exact H
        clear H
        have H := H1
        clear H1
        replace H := Option.bind_eq_some_iff.mp H
        obtain ⟨t250, A120, H⟩ := H
        replace H : ((math_Frexp.f kj2 t250).bind fun bt251 => (if (flt a0 0) = true then (math_mod.j1 kj2 a0 t250 bt251.1 bt251.2 (fneg a0)) else (math_mod.j1 kj2 a0 t250 bt251.1 bt251.2 a0))) = some r := H
        have A12 := Aside0.mk A120
        clear A120
        replace H := Option.bind_eq_some_iff.mp H
        obtain ⟨⟨t251, t252⟩, A130, H⟩ := H
        replace H : (if (flt a0 0) = true then (math_mod.j1 kj2 a0 t250 t251 t252 (fneg a0)) else (math_mod.j1 kj2 a0 t250 t251 t252 a0)) = some r := H
        have A13 := Aside0.mk A130
        clear A130
        have HC14 := Aside0.mk H
        clear H
        go_upto_if 34 with (first | ((with_reducible refine gate_callee (f := 25) rfl ?_); refine goesL_ (some 26) rfl rfl Try.func25 (by kernel_rfl) rfl #[.float .f64 a1] rfl (by (try simp only [List.map_toArray, List.map_cons, List.map_nil]); first | done | rfl | (simp only [List.length_drop, List.length_take]; rfl)) ?_; (with_reducible refine (math_Abs.calls a1 t250 _ A12.out).mono ?_); rintro e w' ⟨rfl, ⟨nd, rfl⟩⟩; refine ⟨_, rfl, ?_⟩) | ((with_reducible refine gate_callee (f := 57) rfl ?_); refine goesL_ (some 29) rfl rfl Try.func57 (by kernel_rfl) rfl #[.float .f64 t250] rfl (by (try simp only [List.map_toArray, List.map_cons, List.map_nil]); first | done | rfl | (simp only [List.length_drop, List.length_take]; rfl)) ?_; (with_reducible refine (math_Frexp.calls kj2 t250 t251 t252 _ A13.out).mono ?_); rintro e w' ⟨rfl, ⟨nd, rfl⟩⟩; refine ⟨_, rfl, ?_⟩))
        (try simp only [Act.put, List.setIfInBounds_toArray, List.set_cons_zero, List.set_cons_succ])
        go_cut [7] (fun v7 wc => ∃ (kq : Nat) (x7_13 : Nat), v7 = .float .f64 x7_13 ∧ Aside0 (math_mod.j1 kq a0 t250 t251 t252 x7_13 = some r) ∧ Aside0 (kq ≤ kj2) ∧ Drawn0 w wc)
        case first =>
          have H := HC14.out
          clear HC14
          by_cases c15 : (flt a0 0) = true
          · rw [if_pos c15] at H
            have c15b0 : (flt a0 0) = true := c15
            clear c15
            (first | rw [c15b0] | (simp only [i64_w, i32_w]; rw [c15b0]) | skip)
            have H' := Aside0.mk H
            clear H
            go_wp2
            go_meet
            case rel => exact ⟨_, (fneg a0), (by first | rfl | (simp; done) | (simp [*]; done)), H', ⟨by have := HJ2.out; first | omega | exact Nat.le_refl _⟩, by repeat (first | exact Drawn0.refl _ | apply Drawn0.step)⟩
          · rw [if_neg c15] at H
            have c15b0 : (flt a0 0) = false := by simpa using c15
            clear c15
            (first | rw [c15b0] | (simp only [i64_w, i32_w]; rw [c15b0]) | skip)
            have H' := Aside0.mk H
            clear H
            go_wp2
            go_meet
            case rel => exact ⟨_, (a0), (by first | rfl | (simp; done) | (simp [*]; done)), H', ⟨by have := HJ2.out; first | omega | exact Nat.le_refl _⟩, by repeat (first | exact Drawn0.refl _ | apply Drawn0.step)⟩
        case rest =>
          clear HC14
          try clear c1
          try clear c2
          try clear p2
          try clear c4
          try clear c4b0
          try clear c5
          try clear c6
          try clear c8
          try clear c10
          try clear c15
          try clear c15b0
          try clear p2
          obtain ⟨kq, x7_13, rfl, HA, HJ13, ⟨mc13, rfl⟩⟩ := hcut
          cases kq with
          | zero => exact absurd HA.out (by simp [math_mod.j1])
          | succ kj13 =>
            have H := HA.out
            clear HA
            simp only [math_mod.j1] at H
            have H' := Aside0.mk H
            clear H
            go_wp2
            go_loopg [7] kj13 (fun kq v7 w' => ∃ (x7_3 : Nat), v7 = .float .f64 x7_3 ∧ Aside0 (math_mod.l0 kq a0 t250 t251 t252 x7_3 = some r) ∧ Aside0 (kq ≤ kj13) ∧ Drawn0 w w')
            case atStart => exact ⟨(x7_13), (by first | rfl | (simp; done) | (simp [*]; done)), H', ⟨Nat.le_refl _⟩, by repeat (first | exact Drawn0.refl _ | apply Drawn0.step)⟩
            case round =>
              clear H'
              try clear c1
              try clear c2
              try clear p2
              try clear c4
              try clear c4b0
              try clear c5
              try clear c6
              try clear c8
              try clear c10
              try clear c13
              try clear c15
              try clear c15b0
              try clear p2
              obtain ⟨x7_3, rfl, HA, HK3, ⟨m3, rfl⟩⟩ := hrel
              cases gk with
              | zero => exact absurd HA.out (by simp [math_mod.l0])
              | succ k3 =>
                have H := HA.out
                clear HA
                simp only [math_mod.l0] at H
                by_cases c16 : (fle t250 x7_3) = true
                · rw [if_pos c16] at H
                  have c16b0 : (fle t250 x7_3) = true := c16
                  clear c16
                  replace H := Option.bind_eq_some_iff.mp H
                  obtain ⟨⟨t253, t254⟩, A170, H⟩ := H
                  replace H : (if (flt t253 t251) = true then ((math_Ldexp.f t250 (wrap64 ((wrap64 (t254 - 1)) - t252))).bind fun t255 => (if (fsubOk x7_3 t255) = true then (math_mod.l0 k3 a0 t250 t251 t252 (fsub x7_3 t255)) else (none))) else ((math_Ldexp.f t250 (wrap64 (t254 - t252))).bind fun t256 => (if (fsubOk x7_3 t256) = true then (math_mod.l0 k3 a0 t250 t251 t252 (fsub x7_3 t256)) else (none)))) = some r := H
                  have A17 := Aside0.mk A170
                  clear A170
                  by_cases c18 : (flt t253 t251) = true
                  · rw [if_pos c18] at H
                    have c18b0 : (flt t253 t251) = true := c18
                    clear c18
                    replace H := Option.bind_eq_some_iff.mp H
                    obtain ⟨t255, A190, H⟩ := H
                    replace H : (if (fsubOk x7_3 t255) = true then (math_mod.l0 k3 a0 t250 t251 t252 (fsub x7_3 t255)) else (none)) = some r := H
                    have A19 := Aside0.mk A190
                    clear A190
                    by_cases c20 : (fsubOk x7_3 t255) = true
                    · rw [if_pos c20] at H
                      have c20b0 := eq_true c20
                      have c20b1 : decide ((fsubOk x7_3 t255) = true) = true := decide_eq_true c20
                      clear c20
                      have H' := Aside0.mk H
                      clear H
                      go_wp2_with (first | ((with_reducible refine gate_callee (f := 57) rfl ?_); refine goesL_ (some 42) rfl rfl Try.func57 (by kernel_rfl) rfl #[.float .f64 x7_3] rfl (by (try simp only [List.map_toArray, List.map_cons, List.map_nil]); first | done | rfl | (simp only [List.length_drop, List.length_take]; rfl)) ?_; (with_reducible refine (math_Frexp.calls k3 x7_3 t253 t254 _ A17.out).mono ?_); rintro e w' ⟨rfl, ⟨nd, rfl⟩⟩; refine ⟨_, rfl, ?_⟩) | ((with_reducible refine gate_callee (f := 58) rfl ?_); refine goesL_ (some 55) rfl rfl Try.func58 (by kernel_rfl) rfl #[.float .f64 t250, .int .i64 (wrap64 ((wrap64 (t254 - 1)) - t252))] rfl (by (try simp only [List.map_toArray, List.map_cons, List.map_nil]); first | done | rfl | (simp only [List.length_drop, List.length_take]; rfl)) ?_; (with_reducible refine (math_Ldexp.calls t250 (wrap64 ((wrap64 (t254 - 1)) - t252)) t255 _ A19.out).mono ?_); rintro e w' ⟨rfl, ⟨nd, rfl⟩⟩; refine ⟨_, rfl, ?_⟩))
                      go_roundg k3
                      case measure => have := HJ2.out; have := HJ13.out; have := HK3.out; omega
                      case rel => exact ⟨(fsub x7_3 t255), (by first | rfl | (simp; done) | (simp [*]; done)), H', ⟨by have := HJ2.out; have := HJ13.out; have := HK3.out; omega⟩, by repeat (first | exact Drawn0.refl _ | apply Drawn0.step)⟩
                    · rw [if_neg c20] at H
                      exact absurd H (by simp)
                  · rw [if_neg c18] at H
                    have c18b0 : (flt t253 t251) = false := by simpa using c18
                    clear c18
                    replace H := Option.bind_eq_some_iff.mp H
                    obtain ⟨t256, A210, H⟩ := H
                    replace H : (if (fsubOk x7_3 t256) = true then (math_mod.l0 k3 a0 t250 t251 t252 (fsub x7_3 t256)) else (none)) = some r := H
                    have A21 := Aside0.mk A210
                    clear A210
                    by_cases c22 : (fsubOk x7_3 t256) = true
                    · rw [if_pos c22] at H
                      have c22b0 := eq_true c22
                      have c22b1 : decide ((fsubOk x7_3 t256) = true) = true := decide_eq_true c22
                      clear c22
                      have H' := Aside0.mk H
                      clear H
                      go_wp2_with (first | ((with_reducible refine gate_callee (f := 57) rfl ?_); refine goesL_ (some 42) rfl rfl Try.func57 (by kernel_rfl) rfl #[.float .f64 x7_3] rfl (by (try simp only [List.map_toArray, List.map_cons, List.map_nil]); first | done | rfl | (simp only [List.length_drop, List.length_take]; rfl)) ?_; (with_reducible refine (math_Frexp.calls k3 x7_3 t253 t254 _ A17.out).mono ?_); rintro e w' ⟨rfl, ⟨nd, rfl⟩⟩; refine ⟨_, rfl, ?_⟩) | ((with_reducible refine gate_callee (f := 58) rfl ?_); refine goesL_ (some 55) rfl rfl Try.func58 (by kernel_rfl) rfl #[.float .f64 t250, .int .i64 (wrap64 (t254 - t252))] rfl (by (try simp only [List.map_toArray, List.map_cons, List.map_nil]); first | done | rfl | (simp only [List.length_drop, List.length_take]; rfl)) ?_; (with_reducible refine (math_Ldexp.calls t250 (wrap64 (t254 - t252)) t256 _ A21.out).mono ?_); rintro e w' ⟨rfl, ⟨nd, rfl⟩⟩; refine ⟨_, rfl, ?_⟩))
                      go_roundg k3
                      case measure => have := HJ2.out; have := HJ13.out; have := HK3.out; omega
                      case rel => exact ⟨(fsub x7_3 t256), (by first | rfl | (simp; done) | (simp [*]; done)), H', ⟨by have := HJ2.out; have := HJ13.out; have := HK3.out; omega⟩, by repeat (first | exact Drawn0.refl _ | apply Drawn0.step)⟩
                    · rw [if_neg c22] at H
                      exact absurd H (by simp)
                · rw [if_neg c16] at H
                  have c16b0 : (fle t250 x7_3) = false := by simpa using c16
                  clear c16
                  by_cases c23 : (flt a0 0) = true
                  · rw [if_pos c23] at H
                    have c23b0 : (flt a0 0) = true := c23
                    clear c23
                    obtain rfl := Option.some.inj H
                    go_wp2
                    go_ret
                    exact ⟨by first | rfl | (simp; done) | (simp [*]; done), by repeat (first | exact Drawn0.refl _ | apply Drawn0.step)⟩
                  · rw [if_neg c23] at H
                    have c23b0 : (flt a0 0) = false := by simpa using c23
                    clear c23
                    obtain rfl := Option.some.inj H
                    go_wp2
                    go_ret
                    exact ⟨by first | rfl | (simp; done) | (simp [*]; done), by repeat (first | exact Drawn0.refl _ | apply Drawn0.step)⟩

/-! ### math_Mod: function 46 -/
def math_Mod.f (k : Nat) (a0 : Nat) (a1 : Nat) : Option (Nat) := (math_mod.f k a0 a1).bind fun t257 => (some t257)
theorem math_Mod.mono : ∀ a0 a1 k, LeO (math_Mod.f k a0 a1) (math_Mod.f (k + 1) a0 a1) := by
  intro a0 a1 k
  unfold math_Mod.f
  repeat' first
      | (with_reducible exact math_mod.mono _ _ _)
      | (with_reducible exact LeO.refl _)
      | (with_reducible exact LeO.none _)
      | (with_reducible refine LeO.ite ?_ ?_)
      | (with_reducible refine LeO.bind ?_ (fun _ => ?_))
      | exact math_mod.mono _ _ _
      | exact LeO.none _
      | refine LeO.ite ?_ ?_
      | refine LeO.bind ?_ (fun _ => ?_)
set_option maxHeartbeats 2500000 in
set_option maxRecDepth 100000 in
theorem math_Mod.calls (k : Nat) (a0 : Nat) (a1 : Nat) (r : Nat) (w : World) (h : math_Mod.f k a0 a1 = some r) :
    Calls Try.prog 46 #[.float .f64 a0, .float .f64 a1] w fun e w' => e = .returned (.float .f64 r) ∧ Drawn0 w w' := by
  have H : ((math_mod.f k a0 a1).bind fun t257 => (some t257)) = some r := h
  clear h
  replace H := Option.bind_eq_some_iff.mp H
  obtain ⟨t257, A30, H⟩ := H
  replace H : (some t257) = some r := H
  have A3 := Aside0.mk A30
  clear A30
  obtain rfl := Option.some.inj H
  go_enter Try.func46, Try.ntmps46
  go_wp2_with (first | ((with_reducible refine gate_callee (f := 52) rfl ?_); refine goesL_ (some 10) rfl rfl Try.func52 (by kernel_rfl) rfl #[.float .f64 a0, .float .f64 a1] rfl (by (try simp only [List.map_toArray, List.map_cons, List.map_nil]); first | done | rfl | (simp only [List.length_drop, List.length_take]; rfl)) ?_; (with_reducible refine (math_mod.calls k a0 a1 t257 _ A3.out).mono ?_); rintro e w' ⟨rfl, ⟨nd, rfl⟩⟩; refine ⟨_, rfl, ?_⟩))
  go_ret
  exact ⟨by first | rfl | (simp; done) | (simp [*]; done), by repeat (first | exact Drawn0.refl _ | apply Drawn0.step)⟩

/-! ### beaconref01_Round: function 35 -/
def beaconref01_Round.f (k : Nat) (a0 : Nat) : Option (Nat × Int) := (beaconref01_nan.f a0).bind fun t258 => (if t258 = true then (some (0, 10)) else (if (flt a0 4607182418800017408) = true then (some (4607182418800017408, 0)) else (if (flt 4697254411347427328 a0) = true then (some (4697254411347427328, 0)) else (if (fmulOk a0 4616189618054758400) = true then ((math_Floor.f (fmul a0 4616189618054758400)).bind fun t259 => (if (fdivOk t259 4616189618054758400) = true then (if (faddOk (fdiv t259 4616189618054758400) 4598175219545276416) = true then (if (fsubOk a0 (fdiv t259 4616189618054758400)) = true then (if (fsubOk (fadd (fdiv t259 4616189618054758400) 4598175219545276416) a0) = true then (if (flt (fsub (fadd (fdiv t259 4616189618054758400) 4598175219545276416) a0) (fsub a0 (fdiv t259 4616189618054758400))) = true then (some (fadd (fdiv t259 4616189618054758400) 4598175219545276416, 0)) else (if (feq (fsub a0 (fdiv t259 4616189618054758400)) (fsub (fadd (fdiv t259 4616189618054758400) 4598175219545276416) a0)) = true then (if (fmulOk (fdiv t259 4616189618054758400) 4616189618054758400) = true then ((math_Mod.f k (fmul (fdiv t259 4616189618054758400) 4616189618054758400) 4611686018427387904).bind fun t260 => (if (feq t260 4607182418800017408) = true then (some (fadd (fdiv t259 4616189618054758400) 4598175219545276416, 0)) else (some (fdiv t259 4616189618054758400, 0)))) else (none)) else (some (fdiv t259 4616189618054758400, 0)))) else (none)) else (none)) else (none)) else (none))) else (none)))))
theorem beaconref01_Round.mono : ∀ a0 k, LeO (beaconref01_Round.f k a0) (beaconref01_Round.f (k + 1) a0) := by
  intro a0 k
  unfold beaconref01_Round.f
  repeat' first
      | (with_reducible exact math_Mod.mono _ _ _)
      | (with_reducible exact LeO.refl _)
      | (with_reducible exact LeO.none _)
      | (with_reducible refine LeO.ite ?_ ?_)
      | (with_reducible refine LeO.bind ?_ (fun _ => ?_))
      | exact math_Mod.mono _ _ _
      | exact LeO.none _
      | refine LeO.ite ?_ ?_
      | refine LeO.bind ?_ (fun _ => ?_)
set_option maxHeartbeats 2500000 in
set_option maxRecDepth 100000 in
theorem beaconref01_Round.calls (k : Nat) (a0 : Nat) (r1 : Nat) (r2 : Int) (w : World) (h : beaconref01_Round.f k a0 = some (r1, r2)) :
    Calls Try.prog 35 #[.float .f64 a0] w fun e w' => e = .returned (.tuple #[.float .f64 r1, .int .i64 r2]) ∧ Drawn0 w w' := by
  have H : ((beaconref01_nan.f a0).bind fun t258 => (if t258 = true then (some (0, 10)) else (if (flt a0 4607182418800017408) = true then (some (4607182418800017408, 0)) else (if (flt 4697254411347427328 a0) = true then (some (4697254411347427328, 0)) else (if (fmulOk a0 4616189618054758400) = true then ((math_Floor.f (fmul a0 4616189618054758400)).bind fun t259 => (if (fdivOk t259 4616189618054758400) = true then (if (faddOk (fdiv t259 4616189618054758400) 4598175219545276416) = true then (if (fsubOk a0 (fdiv t259 4616189618054758400)) = true then (if (fsubOk (fadd (fdiv t259 4616189618054758400) 4598175219545276416) a0) = true then (if (flt (fsub (fadd (fdiv t259 4616189618054758400) 4598175219545276416) a0) (fsub a0 (fdiv t259 4616189618054758400))) = true then (some (fadd (fdiv t259 4616189618054758400) 4598175219545276416, 0)) else (if (feq (fsub a0 (fdiv t259 4616189618054758400)) (fsub (fadd (fdiv t259 4616189618054758400) 4598175219545276416) a0)) = true then (if (fmulOk (fdiv t259 4616189618054758400) 4616189618054758400) = true then ((math_Mod.f k (fmul (fdiv t259 4616189618054758400) 4616189618054758400) 4611686018427387904).bind fun t260 => (if (feq t260 4607182418800017408) = true then (some (fadd (fdiv t259 4616189618054758400) 4598175219545276416, 0)) else (some (fdiv t259 4616189618054758400, 0)))) else (none)) else (some (fdiv t259 4616189618054758400, 0)))) else (none)) else (none)) else (none)) else (none))) else (none)))))) = some (r1, r2) := h
  clear h
  replace H := Option.bind_eq_some_iff.mp H
  obtain ⟨t258, A20, H⟩ := H
  replace H : (if t258 = true then (some (0, 10)) else (if (flt a0 4607182418800017408) = true then (some (4607182418800017408, 0)) else (if (flt 4697254411347427328 a0) = true then (some (4697254411347427328, 0)) else (if (fmulOk a0 4616189618054758400) = true then ((math_Floor.f (fmul a0 4616189618054758400)).bind fun t259 => (if (fdivOk t259 4616189618054758400) = true then (if (faddOk (fdiv t259 4616189618054758400) 4598175219545276416) = true then (if (fsubOk a0 (fdiv t259 4616189618054758400)) = true then (if (fsubOk (fadd (fdiv t259 4616189618054758400) 4598175219545276416) a0) = true then (if (flt (fsub (fadd (fdiv t259 4616189618054758400) 4598175219545276416) a0) (fsub a0 (fdiv t259 4616189618054758400))) = true then (some (fadd (fdiv t259 4616189618054758400) 4598175219545276416, 0)) else (if (feq (fsub a0 (fdiv t259 4616189618054758400)) (fsub (fadd (fdiv t259 4616189618054758400) 4598175219545276416) a0)) = true then (if (fmulOk (fdiv t259 4616189618054758400) 4616189618054758400) = true then ((math_Mod.f k (fmul (fdiv t259 4616189618054758400) 4616189618054758400) 4611686018427387904).bind fun t260 => (if (feq t260 4607182418800017408) = true then (some (fadd (fdiv t259 4616189618054758400) 4598175219545276416, 0)) else (some (fdiv t259 4616189618054758400, 0)))) else (none)) else (some (fdiv t259 4616189618054758400, 0)))) else (none)) else (none)) else (none)) else (none))) else (none))))) = some (r1, r2) := H
  have A2 := Aside0.mk A20
  clear A20
  by_cases c3 : t258 = true
  · subst c3
    have H1 : (some (0, 10)) = some (r1, r2) := by rw [if_pos rfl] at H; exact H
    clear H
    have H := H1
    clear H1
    simp only [Option.some.injEq, Prod.mk.injEq] at H
    obtain ⟨rfl, rfl⟩ := H
    go_enter Try.func35, Try.ntmps35
    go_wp2_with (first | ((with_reducible refine gate_callee (f := 41) rfl ?_); refine goesL_ (some 7) rfl rfl Try.func41 (by kernel_rfl) rfl #[.float .f64 a0] rfl (by (try simp only [List.map_toArray, List.map_cons, List.map_nil]); first | done | rfl | (simp only [List.length_drop, List.length_take]; rfl)) ?_; (with_reducible refine (beaconref01_nan.calls a0 true _ A2.out).mono ?_); rintro e w' ⟨rfl, ⟨nd, rfl⟩⟩; refine ⟨_, rfl, ?_⟩))
    go_ret2
    exact ⟨by first | rfl | (simp; done) | (simp [*]; done), by repeat (first | exact Drawn0.refl _ | apply Drawn0.step)⟩
  · replace c3 := Bool.eq_false_iff.mpr c3
    subst c3
    have H1 : (if (flt a0 4607182418800017408) = true then (some (4607182418800017408, 0)) else (if (flt 4697254411347427328 a0) = true then (some (4697254411347427328, 0)) else (if (fmulOk a0 4616189618054758400) = true then ((math_Floor.f (fmul a0 4616189618054758400)).bind fun t259 => (if (fdivOk t259 4616189618054758400) = true then (if (faddOk (fdiv t259 4616189618054758400) 4598175219545276416) = true then (if (fsubOk a0 (fdiv t259 4616189618054758400)) = true then (if (fsubOk (fadd (fdiv t259 4616189618054758400) 4598175219545276416) a0) = true then (if (flt (fsub (fadd (fdiv t259 4616189618054758400) 4598175219545276416) a0) (fsub a0 (fdiv t259 4616189618054758400))) = true then (some (fadd (fdiv t259 4616189618054758400) 4598175219545276416, 0)) else (if (feq (fsub a0 (fdiv t259 4616189618054758400)) (fsub (fadd (fdiv t259 4616189618054758400) 4598175219545276416) a0)) = true then (if (fmulOk (fdiv t259 4616189618054758400) 4616189618054758400) = true then ((math_Mod.f k (fmul (fdiv t259 4616189618054758400) 4616189618054758400) 4611686018427387904).bind fun t260 => (if (feq t260 4607182418800017408) = true then (some (fadd (fdiv t259 4616189618054758400) 4598175219545276416, 0)) else (some (fdiv t259 4616189618054758400, 0)))) else (none)) else (some (fdiv t259 4616189618054758400, 0)))) else (none)) else (none)) else (none)) else (none))) else (none)))) = some (r1, r2) := by rw [if_neg (show ¬ (false = true) by decide)] at H; exact H
    clear H
    have H := H1
    clear H1
    by_cases c4 : (flt a0 4607182418800017408) = true
    · rw [if_pos c4] at H
      have c4b0 : (flt a0 4607182418800017408) = true := c4
      clear c4
      simp only [Option.some.injEq, Prod.mk.injEq] at H
      obtain ⟨rfl, rfl⟩ := H
      go_enter Try.func35, Try.ntmps35
      go_wp2_with (first | ((with_reducible refine gate_callee (f := 41) rfl ?_); refine goesL_ (some 7) rfl rfl Try.func41 (by kernel_rfl) rfl #[.float .f64 a0] rfl (by (try simp only [List.map_toArray, List.map_cons, List.map_nil]); first | done | rfl | (simp only [List.length_drop, List.length_take]; rfl)) ?_; (with_reducible refine (beaconref01_nan.calls a0 false _ A2.out).mono ?_); rintro e w' ⟨rfl, ⟨nd, rfl⟩⟩; refine ⟨_, rfl, ?_⟩))
      go_ret2
      exact ⟨by first | rfl | (simp; done) | (simp [*]; done), by repeat (first | exact Drawn0.refl _ | apply Drawn0.step)⟩
    · rw [if_neg c4] at H
      have c4b0 : (flt a0 4607182418800017408) = false := by simpa using c4
      clear c4
      by_cases c5 : (flt 4697254411347427328 a0) = true
      · rw [if_pos c5] at H
        have c5b0 : (flt 4697254411347427328 a0) = true := c5
        clear c5
        simp only [Option.some.injEq, Prod.mk.injEq] at H
        obtain ⟨rfl, rfl⟩ := H
        go_enter Try.func35, Try.ntmps35
        go_wp2_with (first | ((with_reducible refine gate_callee (f := 41) rfl ?_); refine goesL_ (some 7) rfl rfl Try.func41 (by kernel_rfl) rfl #[.float .f64 a0] rfl (by (try simp only [List.map_toArray, List.map_cons, List.map_nil]); first | done | rfl | (simp only [List.length_drop, List.length_take]; rfl)) ?_; (with_reducible refine (beaconref01_nan.calls a0 false _ A2.out).mono ?_); rintro e w' ⟨rfl, ⟨nd, rfl⟩⟩; refine ⟨_, rfl, ?_⟩))
        go_ret2
        exact ⟨by first | rfl | (simp; done) | (simp [*]; done), by repeat (first | exact Drawn0.refl _ | apply Drawn0.step)⟩
      · rw [if_neg c5] at H
        have c5b0 : (flt 4697254411347427328 a0) = false := by simpa using c5
        clear c5
        by_cases c6 : (fmulOk a0 4616189618054758400) = true
        · rw [if_pos c6] at H
          have c6b0 := eq_true c6
          have c6b1 : decide ((fmulOk a0 4616189618054758400) = true) = true := decide_eq_true c6
          clear c6
          replace H := Option.bind_eq_some_iff.mp H
          obtain ⟨t259, A70, H⟩ := H
          replace H : (if (fdivOk t259 4616189618054758400) = true then (if (faddOk (fdiv t259 4616189618054758400) 4598175219545276416) = true then (if (fsubOk a0 (fdiv t259 4616189618054758400)) = true then (if (fsubOk (fadd (fdiv t259 4616189618054758400) 4598175219545276416) a0) = true then (if (flt (fsub (fadd (fdiv t259 4616189618054758400) 4598175219545276416) a0) (fsub a0 (fdiv t259 4616189618054758400))) = true then (some (fadd (fdiv t259 4616189618054758400) 4598175219545276416, 0)) else (if (feq (fsub a0 (fdiv t259 4616189618054758400)) (fsub (fadd (fdiv t259 4616189618054758400) 4598175219545276416) a0)) = true then (if (fmulOk (fdiv t259 4616189618054758400) 4616189618054758400) = true then ((math_Mod.f k (fmul (fdiv t259 4616189618054758400) 4616189618054758400) 4611686018427387904).bind fun t260 => (if (feq t260 4607182418800017408) = true then (some (fadd (fdiv t259 4616189618054758400) 4598175219545276416, 0)) else (some (fdiv t259 4616189618054758400, 0)))) else (none)) else (some (fdiv t259 4616189618054758400, 0)))) else (none)) else (none)) else (none)) else (none)) = some (r1, r2) := H
          have A7 := Aside0.mk A70
          clear A70
          by_cases c8 : (fdivOk t259 4616189618054758400) = true
          · rw [if_pos c8] at H
            have c8b0 := eq_true c8
            have c8b1 : decide ((fdivOk t259 4616189618054758400) = true) = true := decide_eq_true c8
            clear c8
            by_cases c9 : (faddOk (fdiv t259 4616189618054758400) 4598175219545276416) = true
            · rw [if_pos c9] at H
              have c9b0 := eq_true c9
              have c9b1 : decide ((faddOk (fdiv t259 4616189618054758400) 4598175219545276416) = true) = true := decide_eq_true c9
              clear c9
              by_cases c10 : (fsubOk a0 (fdiv t259 4616189618054758400)) = true
              · rw [if_pos c10] at H
                have c10b0 := eq_true c10
                have c10b1 : decide ((fsubOk a0 (fdiv t259 4616189618054758400)) = true) = true := decide_eq_true c10
                clear c10
                by_cases c11 : (fsubOk (fadd (fdiv t259 4616189618054758400) 4598175219545276416) a0) = true
                · rw [if_pos c11] at H
                  have c11b0 := eq_true c11
                  have c11b1 : decide ((fsubOk (fadd (fdiv t259 4616189618054758400) 4598175219545276416) a0) = true) = true := decide_eq_true c11
                  clear c11
                  by_cases c12 : (flt (fsub (fadd (fdiv t259 4616189618054758400) 4598175219545276416) a0) (fsub a0 (fdiv t259 4616189618054758400))) = true
                  · rw [if_pos c12] at H
                    have c12b0 : (flt (fsub (fadd (fdiv t259 4616189618054758400) 4598175219545276416) a0) (fsub a0 (fdiv t259 4616189618054758400))) = true := c12
                    clear c12
                    simp only [Option.some.injEq, Prod.mk.injEq] at H
                    obtain ⟨rfl, rfl⟩ := H
                    go_enter Try.func35, Try.ntmps35
                    go_wp2_with (first | ((with_reducible refine gate_callee (f := 41) rfl ?_); refine goesL_ (some 7) rfl rfl Try.func41 (by kernel_rfl) rfl #[.float .f64 a0] rfl (by (try simp only [List.map_toArray, List.map_cons, List.map_nil]); first | done | rfl | (simp only [List.length_drop, List.length_take]; rfl)) ?_; (with_reducible refine (beaconref01_nan.calls a0 false _ A2.out).mono ?_); rintro e w' ⟨rfl, ⟨nd, rfl⟩⟩; refine ⟨_, rfl, ?_⟩) | ((with_reducible refine gate_callee (f := 45) rfl ?_); refine goesL_ (some 14) rfl rfl Try.func45 (by kernel_rfl) rfl #[.float .f64 (fmul a0 4616189618054758400)] rfl (by (try simp only [List.map_toArray, List.map_cons, List.map_nil]); first | done | rfl | (simp only [List.length_drop, List.length_take]; rfl)) ?_; (with_reducible refine (math_Floor.calls (fmul a0 4616189618054758400) t259 _ A7.out).mono ?_); rintro e w' ⟨rfl, ⟨nd, rfl⟩⟩; refine ⟨_, rfl, ?_⟩))
                    go_ret2
                    exact ⟨by first | rfl | (simp; done) | (simp [*]; done), by repeat (first | exact Drawn0.refl _ | apply Drawn0.step)⟩
                  · rw [if_neg c12] at H
                    have c12b0 : (flt (fsub (fadd (fdiv t259 4616189618054758400) 4598175219545276416) a0) (fsub a0 (fdiv t259 4616189618054758400))) = false := by simpa using c12
                    clear c12
                    by_cases c13 : (feq (fsub a0 (fdiv t259 4616189618054758400)) (fsub (fadd (fdiv t259 4616189618054758400) 4598175219545276416) a0)) = true
                    · rw [if_pos c13] at H
                      have c13b0 : (feq (fsub a0 (fdiv t259 4616189618054758400)) (fsub (fadd (fdiv t259 4616189618054758400) 4598175219545276416) a0)) = true := c13
                      clear c13
                      by_cases c14 : (fmulOk (fdiv t259 4616189618054758400) 4616189618054758400) = true
                      · rw [if_pos c14] at H
                        have c14b0 := eq_true c14
                        have c14b1 : decide ((fmulOk (fdiv t259 4616189618054758400) 4616189618054758400) = true) = true := decide_eq_true c14
                        clear c14
                        replace H := Option.bind_eq_some_iff.mp H
                        obtain ⟨t260, A150, H⟩ := H
                        replace H : (if (feq t260 4607182418800017408) = true then (some (fadd (fdiv t259 4616189618054758400) 4598175219545276416, 0)) else (some (fdiv t259 4616189618054758400, 0))) = some (r1, r2) := H
                        have A15 := Aside0.mk A150
                        clear A150
                        by_cases c16 : (feq t260 4607182418800017408) = true
                        · rw [if_pos c16] at H
                          have c16b0 : (feq t260 4607182418800017408) = true := c16
                          clear c16
                          simp only [Option.some.injEq, Prod.mk.injEq] at H
                          obtain ⟨rfl, rfl⟩ := H
                          go_enter Try.func35, Try.ntmps35
                          go_wp2_with (first | ((with_reducible refine gate_callee (f := 41) rfl ?_); refine goesL_ (some 7) rfl rfl Try.func41 (by kernel_rfl) rfl #[.float .f64 a0] rfl (by (try simp only [List.map_toArray, List.map_cons, List.map_nil]); first | done | rfl | (simp only [List.length_drop, List.length_take]; rfl)) ?_; (with_reducible refine (beaconref01_nan.calls a0 false _ A2.out).mono ?_); rintro e w' ⟨rfl, ⟨nd, rfl⟩⟩; refine ⟨_, rfl, ?_⟩) | ((with_reducible refine gate_callee (f := 45) rfl ?_); refine goesL_ (some 14) rfl rfl Try.func45 (by kernel_rfl) rfl #[.float .f64 (fmul a0 4616189618054758400)] rfl (by (try simp only [List.map_toArray, List.map_cons, List.map_nil]); first | done | rfl | (simp only [List.length_drop, List.length_take]; rfl)) ?_; (with_reducible refine (math_Floor.calls (fmul a0 4616189618054758400) t259 _ A7.out).mono ?_); rintro e w' ⟨rfl, ⟨nd, rfl⟩⟩; refine ⟨_, rfl, ?_⟩) | (go_at_call 46; (with_reducible refine (math_Mod.calls k (fmul (fdiv t259 4616189618054758400) 4616189618054758400) 4611686018427387904 t260 _ A15.out).mono ?_); rintro e w' ⟨rfl, ⟨nd, rfl⟩⟩))
                          go_ret2
                          exact ⟨by first | rfl | (simp; done) | (simp [*]; done), by repeat (first | exact Drawn0.refl _ | apply Drawn0.step)⟩
                        · rw [if_neg c16] at H
                          have c16b0 : (feq t260 4607182418800017408) = false := by simpa using c16
                          clear c16
                          simp only [Option.some.injEq, Prod.mk.injEq] at H
                          obtain ⟨rfl, rfl⟩ := H
                          go_enter Try.func35, Try.ntmps35
                          go_wp2_with (first | ((with_reducible refine gate_callee (f := 41) rfl ?_); refine goesL_ (some 7) rfl rfl Try.func41 (by kernel_rfl) rfl #[.float .f64 a0] rfl (by (try simp only [List.map_toArray, List.map_cons, List.map_nil]); first | done | rfl | (simp only [List.length_drop, List.length_take]; rfl)) ?_; (with_reducible refine (beaconref01_nan.calls a0 false _ A2.out).mono ?_); rintro e w' ⟨rfl, ⟨nd, rfl⟩⟩; refine ⟨_, rfl, ?_⟩) | ((with_reducible refine gate_callee (f := 45) rfl ?_); refine goesL_ (some 14) rfl rfl Try.func45 (by kernel_rfl) rfl #[.float .f64 (fmul a0 4616189618054758400)] rfl (by (try simp only [List.map_toArray, List.map_cons, List.map_nil]); first | done | rfl | (simp only [List.length_drop, List.length_take]; rfl)) ?_; (with_reducible refine (math_Floor.calls (fmul a0 4616189618054758400) t259 _ A7.out).mono ?_); rintro e w' ⟨rfl, ⟨nd, rfl⟩⟩; refine ⟨_, rfl, ?_⟩) | (go_at_call 46; (with_reducible refine (math_Mod.calls k (fmul (fdiv t259 4616189618054758400) 4616189618054758400) 4611686018427387904 t260 _ A15.out).mono ?_); rintro e w' ⟨rfl, ⟨nd, rfl⟩⟩))
                          go_ret2
                          exact ⟨by first | rfl | (simp; done) | (simp [*]; done), by repeat (first | exact Drawn0.refl _ | apply Drawn0.step)⟩
                      · rw [if_neg c14] at H
                        exact absurd H (by simp)
                    · rw [if_neg c13] at H
                      have c13b0 : (feq (fsub a0 (fdiv t259 4616189618054758400)) (fsub (fadd (fdiv t259 4616189618054758400) 4598175219545276416) a0)) = false := by simpa using c13
                      clear c13
                      simp only [Option.some.injEq, Prod.mk.injEq] at H
                      obtain ⟨rfl, rfl⟩ := H
                      go_enter Try.func35, Try.ntmps35
                      go_wp2_with (first | ((with_reducible refine gate_callee (f := 41) rfl ?_); refine goesL_ (some 7) rfl rfl Try.func41 (by kernel_rfl) rfl #[.float .f64 a0] rfl (by (try simp only [List.map_toArray, List.map_cons, List.map_nil]); first | done | rfl | (simp only [List.length_drop, List.length_take]; rfl)) ?_; (with_reducible refine (beaconref01_nan.calls a0 false _ A2.out).mono ?_); rintro e w' ⟨rfl, ⟨nd, rfl⟩⟩; refine ⟨_, rfl, ?_⟩) | ((with_reducible refine gate_callee (f := 45) rfl ?_); refine goesL_ (some 14) rfl rfl Try.func45 (by kernel_rfl) rfl #[.float .f64 (fmul a0 4616189618054758400)] rfl (by (try simp only [List.map_toArray, List.map_cons, List.map_nil]); first | done | rfl | (simp only [List.length_drop, List.length_take]; rfl)) ?_; (with_reducible refine (math_Floor.calls (fmul a0 4616189618054758400) t259 _ A7.out).mono ?_); rintro e w' ⟨rfl, ⟨nd, rfl⟩⟩; refine ⟨_, rfl, ?_⟩))
                      go_ret2
                      exact ⟨by first | rfl | (simp; done) | (simp [*]; done), by repeat (first | exact Drawn0.refl _ | apply Drawn0.step)⟩
                · rw [if_neg c11] at H
                  exact absurd H (by simp)
              · rw [if_neg c10] at H
                exact absurd H (by simp)
            · rw [if_neg c9] at H
              exact absurd H (by simp)
          · rw [if_neg c8] at H
            exact absurd H (by simp)
        · rw [if_neg c6] at H
          exact absurd H (by simp)

/-! ### beaconref05_Cost: function 20 -/
def beaconref05_Cost.f (k : Nat) (a0_0 : Int) (a0_1 : Nat) (a0_2 : Nat) : Option (Nat × Int) := (beaconref05_Check.f k a0_0 a0_1 a0_2).bind fun t262 => (if t262 = 0 then (if a0_0 = 0 then (some (0, 4)) else (if (fmulOk 4616189618054758400 a0_2) = true then (if (faddOk a0_1 (fmul 4616189618054758400 a0_2)) = true then ((beaconref01_Round.f k (fadd a0_1 (fmul 4616189618054758400 a0_2))).bind fun bt263 => (some (bt263.1, bt263.2))) else (none)) else (none))) else (some (0, t262)))
theorem beaconref05_Cost.mono : ∀ a0 a1 a2 k, LeO (beaconref05_Cost.f k a0 a1 a2) (beaconref05_Cost.f (k + 1) a0 a1 a2) := by
  intro a0 a1 a2 k
  unfold beaconref05_Cost.f
  repeat' first
      | (with_reducible exact beaconref01_Round.mono _ _)
      | (with_reducible exact beaconref05_Check.mono _ _ _ _)
      | (with_reducible exact LeO.refl _)
      | (with_reducible exact LeO.none _)
      | (with_reducible refine LeO.ite ?_ ?_)
      | (with_reducible refine LeO.bind ?_ (fun _ => ?_))
      | exact beaconref01_Round.mono _ _
      | exact beaconref05_Check.mono _ _ _ _
      | exact LeO.none _
      | refine LeO.ite ?_ ?_
      | refine LeO.bind ?_ (fun _ => ?_)
set_option maxHeartbeats 2500000 in
set_option maxRecDepth 100000 in
theorem beaconref05_Cost.calls (k : Nat) (a0_0 : Int) (a0_1 : Nat) (a0_2 : Nat) (r1 : Nat) (r2 : Int) (w : World) (h : beaconref05_Cost.f k a0_0 a0_1 a0_2 = some (r1, r2)) :
    Calls Try.prog 20 #[.agg #[.int .i64 a0_0, .float .f64 a0_1, .float .f64 a0_2]] w fun e w' => e = .returned (.tuple #[.float .f64 r1, .int .i64 r2]) ∧ Below w.heap.size w w' := by
  have hu24 := Try.underlying24
  have HB := Aside0.mk (Below.refl w.heap.size w)
  have H : ((beaconref05_Check.f k a0_0 a0_1 a0_2).bind fun t262 => (if t262 = 0 then (if a0_0 = 0 then (some (0, 4)) else (if (fmulOk 4616189618054758400 a0_2) = true then (if (faddOk a0_1 (fmul 4616189618054758400 a0_2)) = true then ((beaconref01_Round.f k (fadd a0_1 (fmul 4616189618054758400 a0_2))).bind fun bt263 => (some (bt263.1, bt263.2))) else (none)) else (none))) else (some (0, t262)))) = some (r1, r2) := h
  clear h
  replace H := Option.bind_eq_some_iff.mp H
  obtain ⟨t262, A20, H⟩ := H
  replace H : (if t262 = 0 then (if a0_0 = 0 then (some (0, 4)) else (if (fmulOk 4616189618054758400 a0_2) = true then (if (faddOk a0_1 (fmul 4616189618054758400 a0_2)) = true then ((beaconref01_Round.f k (fadd a0_1 (fmul 4616189618054758400 a0_2))).bind fun bt263 => (some (bt263.1, bt263.2))) else (none)) else (none))) else (some (0, t262))) = some (r1, r2) := H
  have A2 := Aside0.mk A20
  clear A20
  by_cases c3 : t262 = 0
  · rw [if_pos c3] at H
    have c3b0 : (t262 == 0) = true := beq_iff_eq.mpr c3
    have c3b1 : (t262 != 0) = false := bne_eq_false_iff_eq.mpr c3
    clear c3
    by_cases c4 : a0_0 = 0
    · rw [if_pos c4] at H
      have c4b0 : (a0_0 == 0) = true := beq_iff_eq.mpr c4
      have c4b1 : (a0_0 != 0) = false := bne_eq_false_iff_eq.mpr c4
      clear c4
      simp only [Option.some.injEq, Prod.mk.injEq] at H
      obtain ⟨rfl, rfl⟩ := H
      go_enter Try.func20, Try.ntmps20
      go_wp2_with (first | ((with_reducible refine gate_dst (N := 1) rfl ?_); refine box_event ?hg (N := 1) ?hd (cs := #[.int .i64 a0_0, .float .f64 a0_1, .float .f64 a0_2]) (t := 24) ?hr ?_; (case hd => rfl); (case hg => rfl); (case hr => first | (go_simp; done) | (go_simp; rfl)); intro gb261 hg w5 hbox hb; have n0_ := Aside0.mk (below_step (by repeat (first | (with_reducible first | exact HB.out | apply below_alloc | apply pw_below_drewN | apply below_drew1) | exact HB.out)) hb); have n1_ := Aside0.mk (hbox); have n2_ := Aside0.mk ((by rw [hg]; exact (below_size (by repeat (first | (with_reducible first | exact HB.out | apply below_alloc | apply pw_below_drewN | apply below_drew1) | exact HB.out))) : w.heap.size ≤ gb261)); have n3_ := Aside0.mk ((by rw [hg]; exact (below_size (by repeat (first | (with_reducible first | exact HB.out | apply below_alloc | apply pw_below_drewN | apply below_drew1) | exact HB.out))) : w.heap.size ≤ gb261)); clear HB; have HB := n0_; have BK261 := n1_; have GW261 := n2_; have GE261 := n3_; clear n0_ n1_ n2_ n3_; clear hb hbox hg; have hcz6_0 : w5.cell? ⟨gb261, 0, none⟩ = some (.int .i64 a0_0) := (blk_cell BK261.out 0).trans rfl; have hcz6_1 : w5.cell? ⟨gb261, 1, none⟩ = some (.float .f64 a0_1) := (blk_cell BK261.out 1).trans rfl; have hcz6_2 : w5.cell? ⟨gb261, 2, none⟩ = some (.float .f64 a0_2) := (blk_cell BK261.out 2).trans rfl; have hfz6_0 := blk_frozen BK261.out 0; have hfz6_1 := blk_frozen BK261.out 1; have hfz6_2 := blk_frozen BK261.out 2) | ((with_reducible refine gate_callee (f := 13) rfl ?_); refine goesL_ (some 7) rfl rfl Try.func13 (by kernel_rfl) rfl #[.agg #[.int .i64 a0_0, .float .f64 a0_1, .float .f64 a0_2]] rfl (by (try simp only [List.map_toArray, List.map_cons, List.map_nil]); first | done | rfl | (simp only [List.length_drop, List.length_take]; rfl)) ?_; (with_reducible refine (beaconref05_Check.calls k a0_0 a0_1 a0_2 t262 _ A2.out).mono ?_); rintro e w7 ⟨rfl, hb⟩; refine ⟨_, rfl, ?_⟩; have n0_ := Aside0.mk (blk_below (g := gb261) (o := .cells #[.int .i64 a0_0, .float .f64 a0_1, .float .f64 a0_2] 24 (0, 0)) (by (with_reducible repeat (first | refine blk_drewN ?_ _ | refine blk_drew ?_ | refine blk_alloc ?_ _)); exact BK261.out) hb); have n1_ := Aside0.mk (below_step (by repeat (first | (with_reducible first | exact HB.out | apply below_alloc | apply pw_below_drewN | apply below_drew1 | refine below_set ?_ GE261.out) | exact HB.out)) hb); clear BK261; clear HB; have BK261 := n0_; have HB := n1_; clear n0_ n1_; (try clear hb); (try clear hb2); (try clear hk); (try clear hi); have hcz8_0 : w7.cell? ⟨gb261, 0, none⟩ = some (.int .i64 a0_0) := (blk_cell BK261.out 0).trans rfl; have hcz8_1 : w7.cell? ⟨gb261, 1, none⟩ = some (.float .f64 a0_1) := (blk_cell BK261.out 1).trans rfl; have hcz8_2 : w7.cell? ⟨gb261, 2, none⟩ = some (.float .f64 a0_2) := (blk_cell BK261.out 2).trans rfl; have hfz8_0 := blk_frozen BK261.out 0; have hfz8_1 := blk_frozen BK261.out 1; have hfz8_2 := blk_frozen BK261.out 2))
      go_ret2
      exact ⟨by first | rfl | (simp [errW_none, errW_some] <;> rfl) | (simp [*, errW_none, errW_some] <;> rfl), by repeat (first | (with_reducible first | exact HB.out | apply below_alloc | apply pw_below_drewN | apply below_drew1 | refine below_set ?_ GE261.out) | exact HB.out)⟩
    · rw [if_neg c4] at H
      have c4b0 : (a0_0 == 0) = false := beq_eq_false_iff_ne.mpr c4
      have c4b1 : (a0_0 != 0) = true := bne_iff_ne.mpr c4
      by_cases c9 : (fmulOk 4616189618054758400 a0_2) = true
      · rw [if_pos c9] at H
        have c9b0 := eq_true c9
        have c9b1 : decide ((fmulOk 4616189618054758400 a0_2) = true) = true := decide_eq_true c9
        clear c9
        by_cases c10 : (faddOk a0_1 (fmul 4616189618054758400 a0_2)) = true
        · rw [if_pos c10] at H
          have c10b0 := eq_true c10
          have c10b1 : decide ((faddOk a0_1 (fmul 4616189618054758400 a0_2)) = true) = true := decide_eq_true c10
          clear c10
          replace H := Option.bind_eq_some_iff.mp H
          obtain ⟨⟨t263, t264⟩, A110, H⟩ := H
          replace H : (some (t263, t264)) = some (r1, r2) := H
          have A11 := Aside0.mk A110
          clear A110
          simp only [Option.some.injEq, Prod.mk.injEq] at H
          obtain ⟨rfl, rfl⟩ := H
          go_enter Try.func20, Try.ntmps20
          go_wp2_with (first | ((with_reducible refine gate_dst (N := 1) rfl ?_); refine box_event ?hg (N := 1) ?hd (cs := #[.int .i64 a0_0, .float .f64 a0_1, .float .f64 a0_2]) (t := 24) ?hr ?_; (case hd => rfl); (case hg => rfl); (case hr => first | (go_simp; done) | (go_simp; rfl)); intro gb261 hg w12 hbox hb; have n0_ := Aside0.mk (below_step (by repeat (first | (with_reducible first | exact HB.out | apply below_alloc | apply pw_below_drewN | apply below_drew1) | exact HB.out)) hb); have n1_ := Aside0.mk (hbox); have n2_ := Aside0.mk ((by rw [hg]; exact (below_size (by repeat (first | (with_reducible first | exact HB.out | apply below_alloc | apply pw_below_drewN | apply below_drew1) | exact HB.out))) : w.heap.size ≤ gb261)); have n3_ := Aside0.mk ((by rw [hg]; exact (below_size (by repeat (first | (with_reducible first | exact HB.out | apply below_alloc | apply pw_below_drewN | apply below_drew1) | exact HB.out))) : w.heap.size ≤ gb261)); clear HB; have HB := n0_; have BK261 := n1_; have GW261 := n2_; have GE261 := n3_; clear n0_ n1_ n2_ n3_; clear hb hbox hg; have hcz13_0 : w12.cell? ⟨gb261, 0, none⟩ = some (.int .i64 a0_0) := (blk_cell BK261.out 0).trans rfl; have hcz13_1 : w12.cell? ⟨gb261, 1, none⟩ = some (.float .f64 a0_1) := (blk_cell BK261.out 1).trans rfl; have hcz13_2 : w12.cell? ⟨gb261, 2, none⟩ = some (.float .f64 a0_2) := (blk_cell BK261.out 2).trans rfl; have hfz13_0 := blk_frozen BK261.out 0; have hfz13_1 := blk_frozen BK261.out 1; have hfz13_2 := blk_frozen BK261.out 2) | ((with_reducible refine gate_callee (f := 13) rfl ?_); refine goesL_ (some 7) rfl rfl Try.func13 (by kernel_rfl) rfl #[.agg #[.int .i64 a0_0, .float .f64 a0_1, .float .f64 a0_2]] rfl (by (try simp only [List.map_toArray, List.map_cons, List.map_nil]); first | done | rfl | (simp only [List.length_drop, List.length_take]; rfl)) ?_; (with_reducible refine (beaconref05_Check.calls k a0_0 a0_1 a0_2 t262 _ A2.out).mono ?_); rintro e w14 ⟨rfl, hb⟩; refine ⟨_, rfl, ?_⟩; have n0_ := Aside0.mk (blk_below (g := gb261) (o := .cells #[.int .i64 a0_0, .float .f64 a0_1, .float .f64 a0_2] 24 (0, 0)) (by (with_reducible repeat (first | refine blk_drewN ?_ _ | refine blk_drew ?_ | refine blk_alloc ?_ _)); exact BK261.out) hb); have n1_ := Aside0.mk (below_step (by repeat (first | (with_reducible first | exact HB.out | apply below_alloc | apply pw_below_drewN | apply below_drew1 | refine below_set ?_ GE261.out) | exact HB.out)) hb); clear BK261; clear HB; have BK261 := n0_; have HB := n1_; clear n0_ n1_; (try clear hb); (try clear hb2); (try clear hk); (try clear hi); have hcz15_0 : w14.cell? ⟨gb261, 0, none⟩ = some (.int .i64 a0_0) := (blk_cell BK261.out 0).trans rfl; have hcz15_1 : w14.cell? ⟨gb261, 1, none⟩ = some (.float .f64 a0_1) := (blk_cell BK261.out 1).trans rfl; have hcz15_2 : w14.cell? ⟨gb261, 2, none⟩ = some (.float .f64 a0_2) := (blk_cell BK261.out 2).trans rfl; have hfz15_0 := blk_frozen BK261.out 0; have hfz15_1 := blk_frozen BK261.out 1; have hfz15_2 := blk_frozen BK261.out 2) | ((with_reducible refine gate_callee (f := 35) rfl ?_); refine goesL_ (some 21) rfl rfl Try.func35 (by kernel_rfl) rfl #[.float .f64 (fadd a0_1 (fmul 4616189618054758400 a0_2))] rfl (by (try simp only [List.map_toArray, List.map_cons, List.map_nil]); first | done | rfl | (simp only [List.length_drop, List.length_take]; rfl)) ?_; (with_reducible refine (beaconref01_Round.calls k (fadd a0_1 (fmul 4616189618054758400 a0_2)) t263 t264 _ A11.out).mono ?_); rintro e w' ⟨rfl, ⟨nd, rfl⟩⟩; refine ⟨_, rfl, ?_⟩))
          go_ret2
          exact ⟨by first | rfl | (simp [errW_none, errW_some] <;> rfl) | (simp [*, errW_none, errW_some] <;> rfl), by repeat (first | (with_reducible first | exact HB.out | apply below_alloc | apply pw_below_drewN | apply below_drew1 | refine below_set ?_ GE261.out) | exact HB.out)⟩
        · rw [if_neg c10] at H
          exact absurd H (by simp)
      · rw [if_neg c9] at H
        exact absurd H (by simp)
  · rw [if_neg c3] at H
    have c3b0 : (t262 == 0) = false := beq_eq_false_iff_ne.mpr c3
    have c3b1 : (t262 != 0) = true := bne_iff_ne.mpr c3
    simp only [Option.some.injEq, Prod.mk.injEq] at H
    obtain ⟨rfl, rfl⟩ := H
    go_enter Try.func20, Try.ntmps20
    go_wp2_with (first | ((with_reducible refine gate_dst (N := 1) rfl ?_); refine box_event ?hg (N := 1) ?hd (cs := #[.int .i64 a0_0, .float .f64 a0_1, .float .f64 a0_2]) (t := 24) ?hr ?_; (case hd => rfl); (case hg => rfl); (case hr => first | (go_simp; done) | (go_simp; rfl)); intro gb261 hg w16 hbox hb; have n0_ := Aside0.mk (below_step (by repeat (first | (with_reducible first | exact HB.out | apply below_alloc | apply pw_below_drewN | apply below_drew1) | exact HB.out)) hb); have n1_ := Aside0.mk (hbox); have n2_ := Aside0.mk ((by rw [hg]; exact (below_size (by repeat (first | (with_reducible first | exact HB.out | apply below_alloc | apply pw_below_drewN | apply below_drew1) | exact HB.out))) : w.heap.size ≤ gb261)); have n3_ := Aside0.mk ((by rw [hg]; exact (below_size (by repeat (first | (with_reducible first | exact HB.out | apply below_alloc | apply pw_below_drewN | apply below_drew1) | exact HB.out))) : w.heap.size ≤ gb261)); clear HB; have HB := n0_; have BK261 := n1_; have GW261 := n2_; have GE261 := n3_; clear n0_ n1_ n2_ n3_; clear hb hbox hg; have hcz17_0 : w16.cell? ⟨gb261, 0, none⟩ = some (.int .i64 a0_0) := (blk_cell BK261.out 0).trans rfl; have hcz17_1 : w16.cell? ⟨gb261, 1, none⟩ = some (.float .f64 a0_1) := (blk_cell BK261.out 1).trans rfl; have hcz17_2 : w16.cell? ⟨gb261, 2, none⟩ = some (.float .f64 a0_2) := (blk_cell BK261.out 2).trans rfl; have hfz17_0 := blk_frozen BK261.out 0; have hfz17_1 := blk_frozen BK261.out 1; have hfz17_2 := blk_frozen BK261.out 2) | ((with_reducible refine gate_callee (f := 13) rfl ?_); refine goesL_ (some 7) rfl rfl Try.func13 (by kernel_rfl) rfl #[.agg #[.int .i64 a0_0, .float .f64 a0_1, .float .f64 a0_2]] rfl (by (try simp only [List.map_toArray, List.map_cons, List.map_nil]); first | done | rfl | (simp only [List.length_drop, List.length_take]; rfl)) ?_; (with_reducible refine (beaconref05_Check.calls k a0_0 a0_1 a0_2 t262 _ A2.out).mono ?_); rintro e w18 ⟨rfl, hb⟩; refine ⟨_, rfl, ?_⟩; have n0_ := Aside0.mk (blk_below (g := gb261) (o := .cells #[.int .i64 a0_0, .float .f64 a0_1, .float .f64 a0_2] 24 (0, 0)) (by (with_reducible repeat (first | refine blk_drewN ?_ _ | refine blk_drew ?_ | refine blk_alloc ?_ _)); exact BK261.out) hb); have n1_ := Aside0.mk (below_step (by repeat (first | (with_reducible first | exact HB.out | apply below_alloc | apply pw_below_drewN | apply below_drew1 | refine below_set ?_ GE261.out) | exact HB.out)) hb); clear BK261; clear HB; have BK261 := n0_; have HB := n1_; clear n0_ n1_; (try clear hb); (try clear hb2); (try clear hk); (try clear hi)))
    go_ret2
    exact ⟨by first | rfl | (simp [errW_none, errW_some] <;> rfl) | (simp [*, errW_none, errW_some] <;> rfl), by repeat (first | (with_reducible first | exact HB.out | apply below_alloc | apply pw_below_drewN | apply below_drew1 | refine below_set ?_ GE261.out) | exact HB.out)⟩

/-! ### beaconlaw05_GaugeCosts: function 7 -/
def beaconlaw05_GaugeCosts.f (k : Nat) (a0_0 : Int) (a0_1 : Nat) (a0_2 : Nat) : Option (Bool) := (gauge_Cost.f a0_0 a0_1 a0_2).bind fun bt266 => ((beaconref05_Cost.f k a0_0 a0_1 a0_2).bind fun bt268 => (if bt266.2 = bt268.2 then ((beaconref01_Same.f bt266.1 bt268.1).bind fun t270 => (if t270 = true then ((beaconlaw05_awake.f).bind fun t271 => (some t271)) else (some false))) else (some false)))
theorem beaconlaw05_GaugeCosts.mono : ∀ a0 a1 a2 k, LeO (beaconlaw05_GaugeCosts.f k a0 a1 a2) (beaconlaw05_GaugeCosts.f (k + 1) a0 a1 a2) := by
  intro a0 a1 a2 k
  unfold beaconlaw05_GaugeCosts.f
  repeat' first
      | (with_reducible exact beaconref05_Cost.mono _ _ _ _)
      | (with_reducible exact LeO.refl _)
      | (with_reducible exact LeO.none _)
      | (with_reducible refine LeO.ite ?_ ?_)
      | (with_reducible refine LeO.bind ?_ (fun _ => ?_))
      | exact beaconref05_Cost.mono _ _ _ _
      | exact LeO.none _
      | refine LeO.ite ?_ ?_
      | refine LeO.bind ?_ (fun _ => ?_)
set_option maxHeartbeats 2500000 in
set_option maxRecDepth 100000 in
theorem beaconlaw05_GaugeCosts.calls (k : Nat) (a0_0 : Int) (a0_1 : Nat) (a0_2 : Nat) (r : Bool) (w : World) (h : beaconlaw05_GaugeCosts.f k a0_0 a0_1 a0_2 = some r) :
    Calls Try.prog 7 #[.agg #[.int .i64 a0_0, .float .f64 a0_1, .float .f64 a0_2]] w fun e w' => e = .returned (.bool r) ∧ Below w.heap.size w w' := by
  have hu24 := Try.underlying24
  have HB := Aside0.mk (Below.refl w.heap.size w)
  have H : ((gauge_Cost.f a0_0 a0_1 a0_2).bind fun bt266 => ((beaconref05_Cost.f k a0_0 a0_1 a0_2).bind fun bt268 => (if bt266.2 = bt268.2 then ((beaconref01_Same.f bt266.1 bt268.1).bind fun t270 => (if t270 = true then ((beaconlaw05_awake.f).bind fun t271 => (some t271)) else (some false))) else (some false)))) = some r := h
  clear h
  replace H := Option.bind_eq_some_iff.mp H
  obtain ⟨⟨t266, t267⟩, A20, H⟩ := H
  replace H : ((beaconref05_Cost.f k a0_0 a0_1 a0_2).bind fun bt268 => (if t267 = bt268.2 then ((beaconref01_Same.f t266 bt268.1).bind fun t270 => (if t270 = true then ((beaconlaw05_awake.f).bind fun t271 => (some t271)) else (some false))) else (some false))) = some r := H
  have A2 := Aside0.mk A20
  clear A20
  replace H := Option.bind_eq_some_iff.mp H
  obtain ⟨⟨t268, t269⟩, A30, H⟩ := H
  replace H : (if t267 = t269 then ((beaconref01_Same.f t266 t268).bind fun t270 => (if t270 = true then ((beaconlaw05_awake.f).bind fun t271 => (some t271)) else (some false))) else (some false)) = some r := H
  have A3 := Aside0.mk A30
  clear A30
  by_cases c4 : t267 = t269
  · rw [if_pos c4] at H
    have c4b0 : (t267 == t269) = true := beq_iff_eq.mpr c4
    have c4b1 : (t267 != t269) = false := bne_eq_false_iff_eq.mpr c4
    clear c4
    replace H := Option.bind_eq_some_iff.mp H
    obtain ⟨t270, A50, H⟩ := H
    replace H : (if t270 = true then ((beaconlaw05_awake.f).bind fun t271 => (some t271)) else (some false)) = some r := H
    have A5 := Aside0.mk A50
    clear A50
    by_cases c6 : t270 = true
    · subst c6
      have H1 : ((beaconlaw05_awake.f).bind fun t271 => (some t271)) = some r := by rw [if_pos rfl] at H; exact H
      clear H
      have H := H1
      clear H1
      replace H := Option.bind_eq_some_iff.mp H
      obtain ⟨t271, A70, H⟩ := H
      replace H : (some t271) = some r := H
      have A7 := Aside0.mk A70
      clear A70
      obtain rfl := Option.some.inj H
      go_enter Try.func7, Try.ntmps7
      go_wp2_with (first | ((with_reducible refine gate_dst (N := 1) rfl ?_); refine box_event ?hg (N := 1) ?hd (cs := #[.int .i64 a0_0, .float .f64 a0_1, .float .f64 a0_2]) (t := 24) ?hr ?_; (case hd => rfl); (case hg => rfl); (case hr => first | (go_simp; done) | (go_simp; rfl)); intro gb265 hg w8 hbox hb; have n0_ := Aside0.mk (below_step (by repeat (first | (with_reducible first | exact HB.out | apply below_alloc | apply pw_below_drewN | apply below_drew1) | exact HB.out)) hb); have n1_ := Aside0.mk (hbox); have n2_ := Aside0.mk ((by rw [hg]; exact (below_size (by repeat (first | (with_reducible first | exact HB.out | apply below_alloc | apply pw_below_drewN | apply below_drew1) | exact HB.out))) : w.heap.size ≤ gb265)); have n3_ := Aside0.mk ((by rw [hg]; exact (below_size (by repeat (first | (with_reducible first | exact HB.out | apply below_alloc | apply pw_below_drewN | apply below_drew1) | exact HB.out))) : w.heap.size ≤ gb265)); clear HB; have HB := n0_; have BK265 := n1_; have GW265 := n2_; have GE265 := n3_; clear n0_ n1_ n2_ n3_; clear hb hbox hg; have hcz9_0 : w8.cell? ⟨gb265, 0, none⟩ = some (.int .i64 a0_0) := (blk_cell BK265.out 0).trans rfl; have hcz9_1 : w8.cell? ⟨gb265, 1, none⟩ = some (.float .f64 a0_1) := (blk_cell BK265.out 1).trans rfl; have hcz9_2 : w8.cell? ⟨gb265, 2, none⟩ = some (.float .f64 a0_2) := (blk_cell BK265.out 2).trans rfl; have hfz9_0 := blk_frozen BK265.out 0; have hfz9_1 := blk_frozen BK265.out 1; have hfz9_2 := blk_frozen BK265.out 2) | ((with_reducible refine gate_callee (f := 18) rfl ?_); refine goesL_ (some 9) rfl rfl Try.func18 (by kernel_rfl) rfl #[.agg #[.int .i64 a0_0, .float .f64 a0_1, .float .f64 a0_2]] rfl (by (try simp only [List.map_toArray, List.map_cons, List.map_nil]); first | done | rfl | (simp only [List.length_drop, List.length_take]; rfl)) ?_; (with_reducible refine (gauge_Cost.calls a0_0 a0_1 a0_2 t266 t267 _ A2.out).mono ?_); rintro e w10 ⟨rfl, hb⟩; refine ⟨_, rfl, ?_⟩; have n0_ := Aside0.mk (blk_below (g := gb265) (o := .cells #[.int .i64 a0_0, .float .f64 a0_1, .float .f64 a0_2] 24 (0, 0)) (by (with_reducible repeat (first | refine blk_drewN ?_ _ | refine blk_drew ?_ | refine blk_alloc ?_ _)); exact BK265.out) hb); have n1_ := Aside0.mk (below_step (by repeat (first | (with_reducible first | exact HB.out | apply below_alloc | apply pw_below_drewN | apply below_drew1 | refine below_set ?_ GE265.out) | exact HB.out)) hb); clear BK265; clear HB; have BK265 := n0_; have HB := n1_; clear n0_ n1_; (try clear hb); (try clear hb2); (try clear hk); (try clear hi); have hcz11_0 : w10.cell? ⟨gb265, 0, none⟩ = some (.int .i64 a0_0) := (blk_cell BK265.out 0).trans rfl; have hcz11_1 : w10.cell? ⟨gb265, 1, none⟩ = some (.float .f64 a0_1) := (blk_cell BK265.out 1).trans rfl; have hcz11_2 : w10.cell? ⟨gb265, 2, none⟩ = some (.float .f64 a0_2) := (blk_cell BK265.out 2).trans rfl; have hfz11_0 := blk_frozen BK265.out 0; have hfz11_1 := blk_frozen BK265.out 1; have hfz11_2 := blk_frozen BK265.out 2) | ((with_reducible refine gate_callee (f := 20) rfl ?_); refine goesL_ (some 14) rfl rfl Try.func20 (by kernel_rfl) rfl #[.agg #[.int .i64 a0_0, .float .f64 a0_1, .float .f64 a0_2]] rfl (by (try simp only [List.map_toArray, List.map_cons, List.map_nil]); first | done | rfl | (simp only [List.length_drop, List.length_take]; rfl)) ?_; (with_reducible refine (beaconref05_Cost.calls k a0_0 a0_1 a0_2 t268 t269 _ A3.out).mono ?_); rintro e w12 ⟨rfl, hb⟩; refine ⟨_, rfl, ?_⟩; have n0_ := Aside0.mk (blk_below (g := gb265) (o := .cells #[.int .i64 a0_0, .float .f64 a0_1, .float .f64 a0_2] 24 (0, 0)) (by (with_reducible repeat (first | refine blk_drewN ?_ _ | refine blk_drew ?_ | refine blk_alloc ?_ _)); exact BK265.out) hb); have n1_ := Aside0.mk (below_step (by repeat (first | (with_reducible first | exact HB.out | apply below_alloc | apply pw_below_drewN | apply below_drew1 | refine below_set ?_ GE265.out) | exact HB.out)) hb); clear BK265; clear HB; have BK265 := n0_; have HB := n1_; clear n0_ n1_; (try clear hb); (try clear hb2); (try clear hk); (try clear hi)) | (go_at_call 17; (with_reducible refine (beaconref01_Same.calls t266 t268 true _ A5.out).mono ?_); rintro e w' ⟨rfl, ⟨nd, rfl⟩⟩) | (go_at_call 14; (with_reducible refine (beaconlaw05_awake.calls  t271 _ A7.out).mono ?_); rintro e w13 ⟨rfl, hb⟩; have n0_ := Aside0.mk (blk_below (g := gb265) (o := .cells #[.int .i64 a0_0, .float .f64 a0_1, .float .f64 a0_2] 24 (0, 0)) (by (with_reducible repeat (first | refine blk_drewN ?_ _ | refine blk_drew ?_ | refine blk_alloc ?_ _)); exact BK265.out) hb); have n1_ := Aside0.mk (below_step (by repeat (first | (with_reducible first | exact HB.out | apply below_alloc | apply pw_below_drewN | apply below_drew1 | refine below_set ?_ GE265.out) | exact HB.out)) hb); clear BK265; clear HB; have BK265 := n0_; have HB := n1_; clear n0_ n1_; (try clear hb); (try clear hb2); (try clear hk); (try clear hi)))
      go_ret
      exact ⟨by first | rfl | (simp [errW_none, errW_some] <;> rfl) | (simp [*, errW_none, errW_some] <;> rfl), by repeat (first | (with_reducible first | exact HB.out | apply below_alloc | apply pw_below_drewN | apply below_drew1 | refine below_set ?_ GE265.out) | exact HB.out)⟩
    · replace c6 := Bool.eq_false_iff.mpr c6
      subst c6
      have H1 : (some false) = some r := by rw [if_neg (show ¬ (false = true) by decide)] at H; exact H
      clear H
      have H := H1
      clear H1
      obtain rfl := Option.some.inj H
      go_enter Try.func7, Try.ntmps7
      go_wp2_with (first | ((with_reducible refine gate_dst (N := 1) rfl ?_); refine box_event ?hg (N := 1) ?hd (cs := #[.int .i64 a0_0, .float .f64 a0_1, .float .f64 a0_2]) (t := 24) ?hr ?_; (case hd => rfl); (case hg => rfl); (case hr => first | (go_simp; done) | (go_simp; rfl)); intro gb265 hg w14 hbox hb; have n0_ := Aside0.mk (below_step (by repeat (first | (with_reducible first | exact HB.out | apply below_alloc | apply pw_below_drewN | apply below_drew1) | exact HB.out)) hb); have n1_ := Aside0.mk (hbox); have n2_ := Aside0.mk ((by rw [hg]; exact (below_size (by repeat (first | (with_reducible first | exact HB.out | apply below_alloc | apply pw_below_drewN | apply below_drew1) | exact HB.out))) : w.heap.size ≤ gb265)); have n3_ := Aside0.mk ((by rw [hg]; exact (below_size (by repeat (first | (with_reducible first | exact HB.out | apply below_alloc | apply pw_below_drewN | apply below_drew1) | exact HB.out))) : w.heap.size ≤ gb265)); clear HB; have HB := n0_; have BK265 := n1_; have GW265 := n2_; have GE265 := n3_; clear n0_ n1_ n2_ n3_; clear hb hbox hg; have hcz15_0 : w14.cell? ⟨gb265, 0, none⟩ = some (.int .i64 a0_0) := (blk_cell BK265.out 0).trans rfl; have hcz15_1 : w14.cell? ⟨gb265, 1, none⟩ = some (.float .f64 a0_1) := (blk_cell BK265.out 1).trans rfl; have hcz15_2 : w14.cell? ⟨gb265, 2, none⟩ = some (.float .f64 a0_2) := (blk_cell BK265.out 2).trans rfl; have hfz15_0 := blk_frozen BK265.out 0; have hfz15_1 := blk_frozen BK265.out 1; have hfz15_2 := blk_frozen BK265.out 2) | ((with_reducible refine gate_callee (f := 18) rfl ?_); refine goesL_ (some 9) rfl rfl Try.func18 (by kernel_rfl) rfl #[.agg #[.int .i64 a0_0, .float .f64 a0_1, .float .f64 a0_2]] rfl (by (try simp only [List.map_toArray, List.map_cons, List.map_nil]); first | done | rfl | (simp only [List.length_drop, List.length_take]; rfl)) ?_; (with_reducible refine (gauge_Cost.calls a0_0 a0_1 a0_2 t266 t267 _ A2.out).mono ?_); rintro e w16 ⟨rfl, hb⟩; refine ⟨_, rfl, ?_⟩; have n0_ := Aside0.mk (blk_below (g := gb265) (o := .cells #[.int .i64 a0_0, .float .f64 a0_1, .float .f64 a0_2] 24 (0, 0)) (by (with_reducible repeat (first | refine blk_drewN ?_ _ | refine blk_drew ?_ | refine blk_alloc ?_ _)); exact BK265.out) hb); have n1_ := Aside0.mk (below_step (by repeat (first | (with_reducible first | exact HB.out | apply below_alloc | apply pw_below_drewN | apply below_drew1 | refine below_set ?_ GE265.out) | exact HB.out)) hb); clear BK265; clear HB; have BK265 := n0_; have HB := n1_; clear n0_ n1_; (try clear hb); (try clear hb2); (try clear hk); (try clear hi); have hcz17_0 : w16.cell? ⟨gb265, 0, none⟩ = some (.int .i64 a0_0) := (blk_cell BK265.out 0).trans rfl; have hcz17_1 : w16.cell? ⟨gb265, 1, none⟩ = some (.float .f64 a0_1) := (blk_cell BK265.out 1).trans rfl; have hcz17_2 : w16.cell? ⟨gb265, 2, none⟩ = some (.float .f64 a0_2) := (blk_cell BK265.out 2).trans rfl; have hfz17_0 := blk_frozen BK265.out 0; have hfz17_1 := blk_frozen BK265.out 1; have hfz17_2 := blk_frozen BK265.out 2) | ((with_reducible refine gate_callee (f := 20) rfl ?_); refine goesL_ (some 14) rfl rfl Try.func20 (by kernel_rfl) rfl #[.agg #[.int .i64 a0_0, .float .f64 a0_1, .float .f64 a0_2]] rfl (by (try simp only [List.map_toArray, List.map_cons, List.map_nil]); first | done | rfl | (simp only [List.length_drop, List.length_take]; rfl)) ?_; (with_reducible refine (beaconref05_Cost.calls k a0_0 a0_1 a0_2 t268 t269 _ A3.out).mono ?_); rintro e w18 ⟨rfl, hb⟩; refine ⟨_, rfl, ?_⟩; have n0_ := Aside0.mk (blk_below (g := gb265) (o := .cells #[.int .i64 a0_0, .float .f64 a0_1, .float .f64 a0_2] 24 (0, 0)) (by (with_reducible repeat (first | refine blk_drewN ?_ _ | refine blk_drew ?_ | refine blk_alloc ?_ _)); exact BK265.out) hb); have n1_ := Aside0.mk (below_step (by repeat (first | (with_reducible first | exact HB.out | apply below_alloc | apply pw_below_drewN | apply below_drew1 | refine below_set ?_ GE265.out) | exact HB.out)) hb); clear BK265; clear HB; have BK265 := n0_; have HB := n1_; clear n0_ n1_; (try clear hb); (try clear hb2); (try clear hk); (try clear hi)) | (go_at_call 17; (with_reducible refine (beaconref01_Same.calls t266 t268 false _ A5.out).mono ?_); rintro e w' ⟨rfl, ⟨nd, rfl⟩⟩))
      go_ret
      exact ⟨by first | rfl | (simp [errW_none, errW_some] <;> rfl) | (simp [*, errW_none, errW_some] <;> rfl), by repeat (first | (with_reducible first | exact HB.out | apply below_alloc | apply pw_below_drewN | apply below_drew1 | refine below_set ?_ GE265.out) | exact HB.out)⟩
  · rw [if_neg c4] at H
    have c4b0 : (t267 == t269) = false := beq_eq_false_iff_ne.mpr c4
    have c4b1 : (t267 != t269) = true := bne_iff_ne.mpr c4
    obtain rfl := Option.some.inj H
    go_enter Try.func7, Try.ntmps7
    go_wp2_with (first | ((with_reducible refine gate_dst (N := 1) rfl ?_); refine box_event ?hg (N := 1) ?hd (cs := #[.int .i64 a0_0, .float .f64 a0_1, .float .f64 a0_2]) (t := 24) ?hr ?_; (case hd => rfl); (case hg => rfl); (case hr => first | (go_simp; done) | (go_simp; rfl)); intro gb265 hg w19 hbox hb; have n0_ := Aside0.mk (below_step (by repeat (first | (with_reducible first | exact HB.out | apply below_alloc | apply pw_below_drewN | apply below_drew1) | exact HB.out)) hb); have n1_ := Aside0.mk (hbox); have n2_ := Aside0.mk ((by rw [hg]; exact (below_size (by repeat (first | (with_reducible first | exact HB.out | apply below_alloc | apply pw_below_drewN | apply below_drew1) | exact HB.out))) : w.heap.size ≤ gb265)); have n3_ := Aside0.mk ((by rw [hg]; exact (below_size (by repeat (first | (with_reducible first | exact HB.out | apply below_alloc | apply pw_below_drewN | apply below_drew1) | exact HB.out))) : w.heap.size ≤ gb265)); clear HB; have HB := n0_; have BK265 := n1_; have GW265 := n2_; have GE265 := n3_; clear n0_ n1_ n2_ n3_; clear hb hbox hg; have hcz20_0 : w19.cell? ⟨gb265, 0, none⟩ = some (.int .i64 a0_0) := (blk_cell BK265.out 0).trans rfl; have hcz20_1 : w19.cell? ⟨gb265, 1, none⟩ = some (.float .f64 a0_1) := (blk_cell BK265.out 1).trans rfl; have hcz20_2 : w19.cell? ⟨gb265, 2, none⟩ = some (.float .f64 a0_2) := (blk_cell BK265.out 2).trans rfl; have hfz20_0 := blk_frozen BK265.out 0; have hfz20_1 := blk_frozen BK265.out 1; have hfz20_2 := blk_frozen BK265.out 2) | ((with_reducible refine gate_callee (f := 18) rfl ?_); refine goesL_ (some 9) rfl rfl Try.func18 (by kernel_rfl) rfl #[.agg #[.int .i64 a0_0, .float .f64 a0_1, .float .f64 a0_2]] rfl (by (try simp only [List.map_toArray, List.map_cons, List.map_nil]); first | done | rfl | (simp only [List.length_drop, List.length_take]; rfl)) ?_; (with_reducible refine (gauge_Cost.calls a0_0 a0_1 a0_2 t266 t267 _ A2.out).mono ?_); rintro e w21 ⟨rfl, hb⟩; refine ⟨_, rfl, ?_⟩; have n0_ := Aside0.mk (blk_below (g := gb265) (o := .cells #[.int .i64 a0_0, .float .f64 a0_1, .float .f64 a0_2] 24 (0, 0)) (by (with_reducible repeat (first | refine blk_drewN ?_ _ | refine blk_drew ?_ | refine blk_alloc ?_ _)); exact BK265.out) hb); have n1_ := Aside0.mk (below_step (by repeat (first | (with_reducible first | exact HB.out | apply below_alloc | apply pw_below_drewN | apply below_drew1 | refine below_set ?_ GE265.out) | exact HB.out)) hb); clear BK265; clear HB; have BK265 := n0_; have HB := n1_; clear n0_ n1_; (try clear hb); (try clear hb2); (try clear hk); (try clear hi); have hcz22_0 : w21.cell? ⟨gb265, 0, none⟩ = some (.int .i64 a0_0) := (blk_cell BK265.out 0).trans rfl; have hcz22_1 : w21.cell? ⟨gb265, 1, none⟩ = some (.float .f64 a0_1) := (blk_cell BK265.out 1).trans rfl; have hcz22_2 : w21.cell? ⟨gb265, 2, none⟩ = some (.float .f64 a0_2) := (blk_cell BK265.out 2).trans rfl; have hfz22_0 := blk_frozen BK265.out 0; have hfz22_1 := blk_frozen BK265.out 1; have hfz22_2 := blk_frozen BK265.out 2) | ((with_reducible refine gate_callee (f := 20) rfl ?_); refine goesL_ (some 14) rfl rfl Try.func20 (by kernel_rfl) rfl #[.agg #[.int .i64 a0_0, .float .f64 a0_1, .float .f64 a0_2]] rfl (by (try simp only [List.map_toArray, List.map_cons, List.map_nil]); first | done | rfl | (simp only [List.length_drop, List.length_take]; rfl)) ?_; (with_reducible refine (beaconref05_Cost.calls k a0_0 a0_1 a0_2 t268 t269 _ A3.out).mono ?_); rintro e w23 ⟨rfl, hb⟩; refine ⟨_, rfl, ?_⟩; have n0_ := Aside0.mk (blk_below (g := gb265) (o := .cells #[.int .i64 a0_0, .float .f64 a0_1, .float .f64 a0_2] 24 (0, 0)) (by (with_reducible repeat (first | refine blk_drewN ?_ _ | refine blk_drew ?_ | refine blk_alloc ?_ _)); exact BK265.out) hb); have n1_ := Aside0.mk (below_step (by repeat (first | (with_reducible first | exact HB.out | apply below_alloc | apply pw_below_drewN | apply below_drew1 | refine below_set ?_ GE265.out) | exact HB.out)) hb); clear BK265; clear HB; have BK265 := n0_; have HB := n1_; clear n0_ n1_; (try clear hb); (try clear hb2); (try clear hk); (try clear hi)))
    go_ret
    exact ⟨by first | rfl | (simp [errW_none, errW_some] <;> rfl) | (simp [*, errW_none, errW_some] <;> rfl), by repeat (first | (with_reducible first | exact HB.out | apply below_alloc | apply pw_below_drewN | apply below_drew1 | refine below_set ?_ GE265.out) | exact HB.out)⟩

end Go.Proofs.Ytajejidnidomgaa.XG
