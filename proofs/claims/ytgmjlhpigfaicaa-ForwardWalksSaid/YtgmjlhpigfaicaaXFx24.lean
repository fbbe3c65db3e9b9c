/- Go functions of this seat as Lean functions, with proofs that the calls come to them. (Written by xprint.py, a program of this session, over the kit's print.) -/
import Derived.Test.YtgmjlhpigfaicaaXFx0
namespace Go.Proofs.Ytgmjlhpigfaicaa.XF
open Go.RowKit Go.Proofs.YtgmjlhpigfaicaaW.PrintWords Go.Proofs.YtgmjlhpigfaicaaW.PrintLast Go.Proofs.YtgmjlhpigfaicaaW.PrintMore
attribute [local go_sem] max2_int min2_int max_two min_two max_three min_three max_four min_four   -- for this text's walks alone
set_option linter.unusedVariables false
set_option linter.unusedSimpArgs false
open List renaming setIfInBounds_toArray → xA, set_cons_zero → xB, set_cons_succ → xC
open Go.Proofs.YtgmjlhpigfaicaaW.PrintWords renaming blk_drewN → bN, blk_drew → bD, blk_alloc → bA, below_set → bS, blk_frozen → bF, blk_cell → bC, cell_far → cF, blk_far → bZ, blk_below → bB, pw_below_drewN → bwN, below_drew1 → bw1, below_alloc → bwA
open Go.Proofs.YtgmjlhpigfaicaaW.PrintZ
open Bool renaming true → T,false → F

/-! ### beaconref19_place: function 61 -/
def beaconref19_place.l0 : Nat → List (S59) → Int → Int → Option (Int)
 | 0, _, _, _ => none
 | k + 1, x0, x1, x5 => if x5 < (x0.length : Int) then (if 0 ≤ x5 then (if ((rd_T59 x0 x5).f0) = x1 then (some x5) else (beaconref19_place.l0 k x0 x1 (wrap64 (x5 + 1)))) else (none)) else (some (-1))
def beaconref19_place.f (k : Nat) (l0 : List (S59)) (a1 : Int) : Option (Int) := beaconref19_place.l0 k l0 a1 0
theorem beaconref19_place.mono_l : ∀ k, (∀ y0 y1 y2, LeO (beaconref19_place.l0 k y0 y1 y2) (beaconref19_place.l0 (k + 1) y0 y1 y2))
 | 0 => fun _ _ _ r h => by simp [beaconref19_place.l0] at h
 | k + 1 => by
  have ih0:=beaconref19_place.mono_l k
  ·intro y0 y1 y2
   unfold beaconref19_place.l0
   repeat' first
   | (with_reducible exact ih0 _ _ _)
   | (with_reducible exact LeO.refl _)
   | (with_reducible exact LeO.none _)
   | (with_reducible refine LeO.ite ?_ ?_)
   | (with_reducible refine LeO.bind ?_ (fun _ => ?_))
   | exact ih0 _ _ _
   | exact LeO.none _
   | refine LeO.ite ?_ ?_
   | refine LeO.bind ?_ (fun _ => ?_)
theorem beaconref19_place.mono : ∀ a0 a1 k, LeO (beaconref19_place.f k a0 a1) (beaconref19_place.f (k + 1) a0 a1) := by
 intro a0 a1 k
 have ih0:=beaconref19_place.mono_l k
 unfold beaconref19_place.f
 repeat' first
   | (with_reducible exact ih0 _ _ _)
   | (with_reducible exact LeO.refl _)
   | (with_reducible exact LeO.none _)
   | (with_reducible refine LeO.ite ?_ ?_)
   | (with_reducible refine LeO.bind ?_ (fun _ => ?_))
   | exact ih0 _ _ _
   | exact LeO.none _
   | refine LeO.ite ?_ ?_
   | refine LeO.bind ?_ (fun _ => ?_)
set_option maxHeartbeats 8000000 in
set_option maxRecDepth 100000 in
theorem beaconref19_place.calls (k : Nat) (A0 : Option Addr) (c0 : Nat) (l0 : List (S59)) (a1 : Int) (r : Int) (w : World) (hr0 : Kd.C k59 w A0 l0.length l0) (hc0 : l0.length ≤ c0) (h : beaconref19_place.f k l0 a1 = some r) :
  Calls Try.prog 61 #[.slice A0 l0.length c0,.int .i64 a1] w fun e w' => e = .returned (.int .i64 r) ∧ Drawn0 w w':=by
 have HR0:=zA hr0;have HC0:=zA hc0;clear hr0 hc0;have H : (beaconref19_place.l0 k l0 a1 0) = some r:=h;clear h;have H':=zA H;clear H;go_enter Try.func61,Try.ntmps61
 go_wp2
 go_loopg [5] k (fun kq v5 w' => ∃ (x5_1 : Int),v5 = .int .i64 x5_1 ∧ Aside0 (beaconref19_place.l0 kq l0 a1 x5_1 = some r) ∧ Aside0 (kq ≤ k) ∧ Drawn0 w w')
 case atStart => exact ⟨(0),ze,H',⟨Nat.le_refl _⟩,by repeat (first|exact Drawn0.refl _|apply Drawn0.step)⟩
 case round =>
  clear H';obtain ⟨x5_1,rfl,HA,HK1,⟨m1,rfl⟩⟩:=hrel;cases gk with
  | zero => exact absurd HA.out (by simp [beaconref19_place.l0])
  | succ k1 =>
   have H:=HA.out;clear HA;simp only [beaconref19_place.l0] at H;by_cases c3 : x5_1 < (l0.length : Int)
   ·rw [if_pos c3] at H;have c3b0 : decide (x5_1 < (l0.length : Int)) = true:=decide_eq_true c3;clear c3;by_cases c4 : 0 ≤ x5_1
    ·rw [if_pos c4] at H;have c4b0 : decide (0 ≤ x5_1) = true:=decide_eq_true c4;clear c4;by_cases c5 : ((rd_T59 l0 x5_1).f0) = a1
     ·rw [if_pos c5] at H;have c5b0 : (((rd_T59 l0 x5_1).f0) == a1) = true:=beq_iff_eq.mpr c5;have c5b1 : (((rd_T59 l0 x5_1).f0) != a1) = false:=bne_eq_false_iff_eq.mpr c5;clear c5;obtain rfl:=Option.some.inj H;have p431 : 0 ≤ (x5_1 : Int):=zd;have q431 : x5_1 < (l0.length : Int):=zd;obtain ⟨ad431,A431_1,c431_1,e431,hx431_0,hx431_1,hx431_2,hl431_1,hi431_1⟩:=at_T59 HR0.out x5_1 p431 q431;cases e431;have HR431_1:=zA hi431_1;have HC431_1:=zA hl431_1;clear hi431_1 hl431_1;replace p431:=eq_true p431;replace q431:=eq_true q431;go_wp2
      go_ret
      exact ⟨by first|rfl|(simp;done)|(simp [*];done),by repeat (first|exact Drawn0.refl _|apply Drawn0.step)⟩
     ·rw [if_neg c5] at H;have c5b0 : (((rd_T59 l0 x5_1).f0) == a1) = false:=beq_eq_false_iff_ne.mpr c5;have c5b1 : (((rd_T59 l0 x5_1).f0) != a1) = true:=bne_iff_ne.mpr c5;have H':=zA H;clear H;have p431 : 0 ≤ (x5_1 : Int):=zd;have q431 : x5_1 < (l0.length : Int):=zd;obtain ⟨ad431,A431_1,c431_1,e431,hx431_0,hx431_1,hx431_2,hl431_1,hi431_1⟩:=at_T59 HR0.out x5_1 p431 q431;cases e431;have HR431_1:=zA hi431_1;have HC431_1:=zA hl431_1;clear hi431_1 hl431_1;replace p431:=eq_true p431;replace q431:=eq_true q431;go_wp2
      go_roundg k1
      case measure => have:=HK1.out;omega
      case rel => exact ⟨(wrap64 (x5_1 + 1)),ze,H',⟨by have:=HK1.out;omega⟩,by repeat (first|exact Drawn0.refl _|apply Drawn0.step)⟩
    ·rw [if_neg c4] at H;exact absurd H (by simp)
   ·rw [if_neg c3] at H;have c3b0 : decide (x5_1 < (l0.length : Int)) = false:=decide_eq_false c3;clear c3;obtain rfl:=Option.some.inj H;go_wp2
    go_ret
    exact ⟨by first|rfl|(simp;done)|(simp [*];done),by repeat (first|exact Drawn0.refl _|apply Drawn0.step)⟩

end Go.Proofs.Ytgmjlhpigfaicaa.XF
