/- Go functions of this seat as Lean functions, with proofs that the calls come to them. (Written by xprint.py, a program of this session, over the kit's print.) -/
import Derived.Test.YtgmjlhpigfaicaaXFx0
import Derived.Test.YtgmjlhpigfaicaaXFx11
import Derived.Test.YtgmjlhpigfaicaaXFx12
namespace Go.Proofs.Ytgmjlhpigfaicaa.XF
open Go.RowKit Go.Proofs.YtgmjlhpigfaicaaW.PrintWords Go.Proofs.YtgmjlhpigfaicaaW.PrintLast Go.Proofs.YtgmjlhpigfaicaaW.PrintMore
attribute [local go_sem] max2_int min2_int max_two min_two max_three min_three max_four min_four   -- for this text's walks alone
set_option linter.unusedVariables false
set_option linter.unusedSimpArgs false
open List renaming setIfInBounds_toArray → xA, set_cons_zero → xB, set_cons_succ → xC
open Go.Proofs.YtgmjlhpigfaicaaW.PrintWords renaming blk_drewN → bN, blk_drew → bD, blk_alloc → bA, below_set → bS, blk_frozen → bF, blk_cell → bC, cell_far → cF, blk_far → bZ, blk_below → bB, pw_below_drewN → bwN, below_drew1 → bw1, below_alloc → bwA
open Go.Proofs.YtgmjlhpigfaicaaW.PrintZ
open Bool renaming true → T,false → F

/-! ### beaconref17_Check: function 12 -/
def beaconref17_Check.f (k : Nat) (l0_0 : List (S39)) (a0_1 : Bool) : Option (Int) := (beaconref17_may.f k l0_0).bind fun t237 => (if t237 = true then (some 0) else (some 1))
theorem beaconref17_Check.mono : ∀ a0 a1 k, LeO (beaconref17_Check.f k a0 a1) (beaconref17_Check.f (k + 1) a0 a1) := by
 intro a0 a1 k
 unfold beaconref17_Check.f
 repeat' first
   | (with_reducible exact beaconref17_may.mono _ _)
   | (with_reducible exact LeO.refl _)
   | (with_reducible exact LeO.none _)
   | (with_reducible refine LeO.ite ?_ ?_)
   | (with_reducible refine LeO.bind ?_ (fun _ => ?_))
   | exact beaconref17_may.mono _ _
   | exact LeO.none _
   | refine LeO.ite ?_ ?_
   | refine LeO.bind ?_ (fun _ => ?_)
set_option maxHeartbeats 8000000 in
set_option maxRecDepth 100000 in
theorem beaconref17_Check.calls (k : Nat) (A0_0 : Option Addr) (c0_0 : Nat) (l0_0 : List (S39)) (a0_1 : Bool) (r : Int) (w : World) (hr0_0 : Kd.C k39 w A0_0 l0_0.length l0_0) (hc0_0 : l0_0.length ≤ c0_0) (h : beaconref17_Check.f k l0_0 a0_1 = some r) :
  Calls Try.prog 12 #[.agg #[.slice A0_0 l0_0.length c0_0,.bool a0_1]] w fun e w' => e = .returned (.int .i64 r) ∧ Below w.heap.size w w':=by
 have hu24:=Try.underlying24;have HR0_0:=zA hr0_0;have HC0_0:=zA hc0_0;clear hr0_0 hc0_0;have HB:=zA (Below.refl w.heap.size w);have H : ((beaconref17_may.f k l0_0).bind fun t237 => (if t237 = true then (some 0) else (some 1))) = some r:=h;clear h;replace H:=Option.bind_eq_some_iff.mp H;obtain ⟨t237,A20,H⟩:=H;(try dsimp only at H);have A2:=zA A20;clear A20;by_cases c3 : t237 = true
 ·subst c3;rw [if_pos rfl] at H;obtain rfl:=Option.some.inj H;go_enter Try.func12,Try.ntmps12
  go_wp2_with (first|((with_reducible refine gate_dst (N:=1) rfl ?_);refine zb (N:=1) (cs:=#[.slice A0_0 l0_0.length c0_0,.bool a0_1]) (t:=24) ?_;intro G236 hg w4 hbox hb;have K236:=zA (hbox);have GW236:=zN HB hg;have GE236:=zN HB hg;replace HB:=zS HB hb;clear hb hbox hg;obtain ⟨_,_,_,_⟩:=zc2 K236)|((with_reducible refine gate_callee (f:=43) rfl ?_);refine zg (some 5) Try.func43 #[.slice A0_0 l0_0.length c0_0] ?_;(with_reducible refine (beaconref17_may.calls k _ _ l0_0 true _ ?side1 ?side2 A2.out).mono ?_);(case side1 => exact zC (Kd.C_below HR0_0.out HB.1));(case side2 => exact HC0_0.out);rintro e w6 ⟨rfl,hb⟩;refine ⟨_,rfl,?_⟩;replace K236:=zB K236 hb;replace HB:=zS HB hb;(try clear hb)))
  go_ret
  exact ⟨zE,zH HB⟩
 ·replace c3:=Bool.eq_false_iff.mpr c3;subst c3;rw [if_neg (show ¬ (false = true) by decide)] at H;obtain rfl:=Option.some.inj H;go_enter Try.func12,Try.ntmps12
  go_wp2_with (first|((with_reducible refine gate_dst (N:=1) rfl ?_);refine zb (N:=1) (cs:=#[.slice A0_0 l0_0.length c0_0,.bool a0_1]) (t:=24) ?_;intro G236 hg w7 hbox hb;have K236:=zA (hbox);have GW236:=zN HB hg;have GE236:=zN HB hg;replace HB:=zS HB hb;clear hb hbox hg;obtain ⟨_,_,_,_⟩:=zc2 K236)|((with_reducible refine gate_callee (f:=43) rfl ?_);refine zg (some 5) Try.func43 #[.slice A0_0 l0_0.length c0_0] ?_;(with_reducible refine (beaconref17_may.calls k _ _ l0_0 false _ ?side1 ?side2 A2.out).mono ?_);(case side1 => exact zC (Kd.C_below HR0_0.out HB.1));(case side2 => exact HC0_0.out);rintro e w9 ⟨rfl,hb⟩;refine ⟨_,rfl,?_⟩;replace K236:=zB K236 hb;replace HB:=zS HB hb;(try clear hb)))
  go_ret
  exact ⟨zE,zH HB⟩

/-! ### beaconref06_number: function 79 -/
def beaconref06_number.f (a0 : Int) : Option (Bool) := (beaconref02_CheckId.f a0).bind fun t238 => (some (t238 == 0))
set_option maxHeartbeats 8000000 in
set_option maxRecDepth 100000 in
theorem beaconref06_number.calls (a0 : Int) (r : Bool) (w : World) (h : beaconref06_number.f a0 = some r) :
  Calls Try.prog 79 #[.int .i64 a0] w fun e w' => e = .returned (.bool r) ∧ Drawn0 w w':=by
 have H : ((beaconref02_CheckId.f a0).bind fun t238 => (some (t238 == 0))) = some r:=h;clear h;replace H:=Option.bind_eq_some_iff.mp H;obtain ⟨t238,A20,H⟩:=H;(try dsimp only at H);have A2:=zA A20;clear A20;obtain rfl:=Option.some.inj H;go_enter Try.func79,Try.ntmps79
 go_wp2_with (first|((with_reducible refine gate_callee (f:=58) rfl ?_);refine zg (some 4) Try.func58 #[.int .i64 a0] ?_;(with_reducible refine (beaconref02_CheckId.calls a0 t238 _ A2.out).mono ?_);rintro e w' ⟨rfl,⟨nd,rfl⟩⟩;refine ⟨_,rfl,?_⟩))
 go_ret
 exact ⟨by first|rfl|(simp;done)|(simp [*];done),by repeat (first|exact Drawn0.refl _|apply Drawn0.step)⟩

/-! ### beaconref02_letter: function 115 -/
def beaconref02_letter.f (a0 : Int) : Option (Bool) := if a0 ≥ 97 then (some (decide (a0 ≤ 122))) else (some false)
set_option maxHeartbeats 8000000 in
set_option maxRecDepth 100000 in
theorem beaconref02_letter.calls (a0 : Int) (r : Bool) (w : World) (h : beaconref02_letter.f a0 = some r) :
  Calls Try.prog 115 #[.int .u8 a0] w fun e w' => e = .returned (.bool r) ∧ Drawn0 w w':=by
 have H : (if a0 ≥ 97 then (some (decide (a0 ≤ 122))) else (some false)) = some r:=h;clear h;by_cases c2 : a0 ≥ 97
 ·rw [if_pos c2] at H;have c2b0 : decide (97 ≤ a0) = true:=decide_eq_true c2;clear c2;obtain rfl:=Option.some.inj H;go_enter Try.func115,Try.ntmps115
  go_wp2
  go_ret
  exact ⟨by first|rfl|(simp;done)|(simp [*];done),by repeat (first|exact Drawn0.refl _|apply Drawn0.step)⟩
 ·rw [if_neg c2] at H;have c2b0 : decide (97 ≤ a0) = false:=decide_eq_false c2;clear c2;obtain rfl:=Option.some.inj H;go_enter Try.func115,Try.ntmps115
  go_wp2
  go_ret
  exact ⟨by first|rfl|(simp;done)|(simp [*];done),by repeat (first|exact Drawn0.refl _|apply Drawn0.step)⟩

/-! ### beaconref02_digit: function 116 -/
def beaconref02_digit.f (a0 : Int) : Option (Bool) := if a0 ≥ 48 then (some (decide (a0 ≤ 57))) else (some false)
set_option maxHeartbeats 8000000 in
set_option maxRecDepth 100000 in
theorem beaconref02_digit.calls (a0 : Int) (r : Bool) (w : World) (h : beaconref02_digit.f a0 = some r) :
  Calls Try.prog 116 #[.int .u8 a0] w fun e w' => e = .returned (.bool r) ∧ Drawn0 w w':=by
 have H : (if a0 ≥ 48 then (some (decide (a0 ≤ 57))) else (some false)) = some r:=h;clear h;by_cases c2 : a0 ≥ 48
 ·rw [if_pos c2] at H;have c2b0 : decide (48 ≤ a0) = true:=decide_eq_true c2;clear c2;obtain rfl:=Option.some.inj H;go_enter Try.func116,Try.ntmps116
  go_wp2
  go_ret
  exact ⟨by first|rfl|(simp;done)|(simp [*];done),by repeat (first|exact Drawn0.refl _|apply Drawn0.step)⟩
 ·rw [if_neg c2] at H;have c2b0 : decide (48 ≤ a0) = false:=decide_eq_false c2;clear c2;obtain rfl:=Option.some.inj H;go_enter Try.func116,Try.ntmps116
  go_wp2
  go_ret
  exact ⟨by first|rfl|(simp;done)|(simp [*];done),by repeat (first|exact Drawn0.refl _|apply Drawn0.step)⟩

/-! ### beaconref02_CheckName: function 102 -/
mutual
def beaconref02_CheckName.j0 : Nat → ByteArray → Int → Bool → Option (Int)
 | 0, _, _, _ => none
 | k + 1, x0, x3, x25 => if x25 = true then (some 21) else (beaconref02_CheckName.l0 k x0 x3 0)
def beaconref02_CheckName.l0 : Nat → ByteArray → Int → Int → Option (Int)
 | 0, _, _, _ => none
 | k + 1, x0, x3, x4 => if x4 < x3 then (if 0 ≤ x4 then (if x4 < (x0.size : Int) then ((beaconref02_letter.f (bt x0 x4)).bind fun t240 => (if t240 = true then (beaconref02_CheckName.l0 k x0 x3 (wrap64 (x4 + 1))) else ((beaconref02_digit.f (bt x0 x4)).bind fun t241 => (if t241 = true then (beaconref02_CheckName.l0 k x0 x3 (wrap64 (x4 + 1))) else (if (bt x0 x4) = 45 then (beaconref02_CheckName.l0 k x0 x3 (wrap64 (x4 + 1))) else (some 21)))))) else (none)) else (none)) else (some 0)
end
def beaconref02_CheckName.f (k : Nat) (a0 : ByteArray) : Option (Int) := if (a0.size : Int) < 1 then (beaconref02_CheckName.j0 k a0 (a0.size : Int) true) else (if (a0.size : Int) > 32 then (beaconref02_CheckName.j0 k a0 (a0.size : Int) true) else (if 0 < (a0.size : Int) then ((beaconref02_letter.f (bt a0 0)).bind fun t239 => (if t239 = true then (if 0 ≤ (wrap64 ((a0.size : Int) - 1)) then (if (wrap64 ((a0.size : Int) - 1)) < (a0.size : Int) then (beaconref02_CheckName.j0 k a0 (a0.size : Int) ((bt a0 (wrap64 ((a0.size : Int) - 1))) == 45)) else (none)) else (none)) else (beaconref02_CheckName.j0 k a0 (a0.size : Int) true))) else (none)))
theorem beaconref02_CheckName.mono_l : ∀ k, (∀ y0 y1 y2, LeO (beaconref02_CheckName.j0 k y0 y1 y2) (beaconref02_CheckName.j0 (k + 1) y0 y1 y2)) ∧ (∀ y0 y1 y2, LeO (beaconref02_CheckName.l0 k y0 y1 y2) (beaconref02_CheckName.l0 (k + 1) y0 y1 y2))
 | 0 => ⟨fun _ _ _ r h => by simp [beaconref02_CheckName.j0] at h, fun _ _ _ r h => by simp [beaconref02_CheckName.l0] at h⟩
 | k + 1 => by
  obtain ⟨ih0,ih1⟩:=beaconref02_CheckName.mono_l k
  refine ⟨?_,?_⟩
  ·intro y0 y1 y2
   unfold beaconref02_CheckName.j0
   repeat' first
   | (with_reducible exact ih0 _ _ _)
   | (with_reducible exact ih1 _ _ _)
   | (with_reducible exact LeO.refl _)
   | (with_reducible exact LeO.none _)
   | (with_reducible refine LeO.ite ?_ ?_)
   | (with_reducible refine LeO.bind ?_ (fun _ => ?_))
   | exact ih0 _ _ _
   | exact ih1 _ _ _
   | exact LeO.none _
   | refine LeO.ite ?_ ?_
   | refine LeO.bind ?_ (fun _ => ?_)
  ·intro y0 y1 y2
   unfold beaconref02_CheckName.l0
   repeat' first
   | (with_reducible exact ih0 _ _ _)
   | (with_reducible exact ih1 _ _ _)
   | (with_reducible exact LeO.refl _)
   | (with_reducible exact LeO.none _)
   | (with_reducible refine LeO.ite ?_ ?_)
   | (with_reducible refine LeO.bind ?_ (fun _ => ?_))
   | exact ih0 _ _ _
   | exact ih1 _ _ _
   | exact LeO.none _
   | refine LeO.ite ?_ ?_
   | refine LeO.bind ?_ (fun _ => ?_)
theorem beaconref02_CheckName.mono : ∀ a0 k, LeO (beaconref02_CheckName.f k a0) (beaconref02_CheckName.f (k + 1) a0) := by
 intro a0 k
 obtain ⟨ih0,ih1⟩:=beaconref02_CheckName.mono_l k
 unfold beaconref02_CheckName.f
 repeat' first
   | (with_reducible exact ih0 _ _ _)
   | (with_reducible exact ih1 _ _ _)
   | (with_reducible exact LeO.refl _)
   | (with_reducible exact LeO.none _)
   | (with_reducible refine LeO.ite ?_ ?_)
   | (with_reducible refine LeO.bind ?_ (fun _ => ?_))
   | exact ih0 _ _ _
   | exact ih1 _ _ _
   | exact LeO.none _
   | refine LeO.ite ?_ ?_
   | refine LeO.bind ?_ (fun _ => ?_)
set_option maxHeartbeats 8000000 in
set_option maxRecDepth 100000 in
theorem beaconref02_CheckName.calls (k : Nat) (a0 : ByteArray) (r : Int) (w : World) (h : beaconref02_CheckName.f k a0 = some r) :
  Calls Try.prog 102 #[.string a0] w fun e w' => e = .returned (.int .i64 r) ∧ Drawn0 w w':=by
 have H : (if (a0.size : Int) < 1 then (beaconref02_CheckName.j0 k a0 (a0.size : Int) true) else (if (a0.size : Int) > 32 then (beaconref02_CheckName.j0 k a0 (a0.size : Int) true) else (if 0 < (a0.size : Int) then ((beaconref02_letter.f (bt a0 0)).bind fun t239 => (if t239 = true then (if 0 ≤ (wrap64 ((a0.size : Int) - 1)) then (if (wrap64 ((a0.size : Int) - 1)) < (a0.size : Int) then (beaconref02_CheckName.j0 k a0 (a0.size : Int) ((bt a0 (wrap64 ((a0.size : Int) - 1))) == 45)) else (none)) else (none)) else (beaconref02_CheckName.j0 k a0 (a0.size : Int) true))) else (none)))) = some r:=h;clear h;have HC2:=zA H;clear H;go_enter Try.func102,Try.ntmps102
 go_upto_region 2 with (fail)
 go_cut [25] (fun v25 wc => ∃ (kq : Nat) (x25_1 : Bool),v25 = .bool x25_1 ∧ Aside0 (beaconref02_CheckName.j0 kq a0 (a0.size : Int) x25_1 = some r) ∧ Aside0 (kq ≤ k) ∧ Drawn0 w wc)
 case first =>
  have H:=HC2.out;clear HC2;by_cases c3 : (a0.size : Int) < 1
  ·rw [if_pos c3] at H;have c3b0 : decide ((a0.size : Int) < 1) = true:=decide_eq_true c3;have c3b1 : decide (a0.size < 1) = true:=decide_eq_true (by omega);clear c3;(first|rw [c3b0]|(simp only [i64_w,i32_w];rw [c3b0])|skip)
   have H':=zA H;clear H;go_wp2
   go_meet
   case rel => exact ⟨_,(true),ze,H',⟨zo⟩,by repeat (first|exact Drawn0.refl _|apply Drawn0.step)⟩
  ·rw [if_neg c3] at H;have c3b0 : decide ((a0.size : Int) < 1) = false:=decide_eq_false c3;have c3b1 : decide (a0.size < 1) = false:=decide_eq_false (by omega);clear c3;(first|rw [c3b0]|(simp only [i64_w,i32_w];rw [c3b0])|skip)
   by_cases c4 : (a0.size : Int) > 32
   ·rw [if_pos c4] at H;have c4b0 : decide (32 < (a0.size : Int)) = true:=decide_eq_true c4;have c4b1 : decide (32 < a0.size) = true:=decide_eq_true (by omega);clear c4;have H':=zA H;clear H;go_wp2
    go_meet
    case rel => exact ⟨_,(true),ze,H',⟨zo⟩,by repeat (first|exact Drawn0.refl _|apply Drawn0.step)⟩
   ·rw [if_neg c4] at H;have c4b0 : decide (32 < (a0.size : Int)) = false:=decide_eq_false c4;have c4b1 : decide (32 < a0.size) = false:=decide_eq_false (by omega);clear c4;by_cases c5 : 0 < (a0.size : Int)
    ·rw [if_pos c5] at H;have c5b0 : decide (0 < (a0.size : Int)) = true:=decide_eq_true c5;have c5b1 : decide (0 < a0.size) = true:=decide_eq_true (by omega);clear c5;replace H:=Option.bind_eq_some_iff.mp H;obtain ⟨t239,A70,H⟩:=H;(try dsimp only at H);have A7:=zA A70;clear A70;by_cases c8 : t239 = true
     ·subst c8;rw [if_pos rfl] at H;obtain ⟨ji9,hji9⟩ : ∃ j_ : Int,(wrap64 ((a0.size : Int) - 1)) = j_:=⟨_,rfl⟩;replace H : (if 0 ≤ (ji9) then (if (ji9) < (a0.size : Int) then (beaconref02_CheckName.j0 k a0 (a0.size : Int) ((bt a0 (ji9)) == 45)) else (none)) else (none)) = some r:=by first|(rw [hji9] at H;exact H)|(simp only [hji9] at H ⊢;exact H)
      (try rw [hji9] at A7);have hji9w : (IntKind.i64.wrap ((a0.size : Int) - 1)) = ji9:=(i64_w _).trans hji9;by_cases c10 : 0 ≤ (ji9)
      ·rw [if_pos c10] at H;have c10b0 : decide (0 ≤ (ji9)) = true:=decide_eq_true c10;clear c10;by_cases c11 : (ji9) < (a0.size : Int)
       ·rw [if_pos c11] at H;have c11b0 : decide ((ji9) < (a0.size : Int)) = true:=decide_eq_true c11;clear c11;have H':=zA H;clear H;have p6 : 0 ≤ (0 : Int):=(by omega);have q6 : 0 < a0.size:=(by have : (0 : Int) < (a0.size : Int):=zd;omega);have hx6 : ∀ h : 0 < a0.size,((a0[0]'h).toNat : Int) = bt a0 0:=bt_at a0 0;clear p6;have qi6 : (0 < (a0.size : Int)) = True:=eq_true (zd);replace q6:=eq_true q6;go_wp2_with (first|(go_at_call 115;(with_reducible refine (beaconref02_letter.calls (bt a0 0) true _ A7.out).mono ?_);rintro e w' ⟨rfl,⟨nd,rfl⟩⟩;have p12 : 0 ≤ ((ji9) : Int):=zd;have q12 : (ji9) < (a0.size : Int):=zd;have hx12:=bt_at a0 (ji9);replace p12:=eq_true p12;replace q12:=eq_true q12))
        go_meet
        case rel => exact ⟨_,(((bt a0 (ji9)) == 45)),(by first|rfl|(simp;done)|(simp only [← hji9] <;> (first|rfl|simp))|(simp [*];done)),H',⟨zo⟩,by repeat (first|exact Drawn0.refl _|apply Drawn0.step)⟩
       ·rw [if_neg c11] at H;exact absurd H (by simp)
      ·rw [if_neg c10] at H;exact absurd H (by simp)
     ·replace c8:=Bool.eq_false_iff.mpr c8;subst c8;rw [if_neg (show ¬ (false = true) by decide)] at H;have H':=zA H;clear H;have p6 : 0 ≤ (0 : Int):=(by omega);have q6 : 0 < a0.size:=(by have : (0 : Int) < (a0.size : Int):=zd;omega);have hx6 : ∀ h : 0 < a0.size,((a0[0]'h).toNat : Int) = bt a0 0:=bt_at a0 0;clear p6;have qi6 : (0 < (a0.size : Int)) = True:=eq_true (zd);replace q6:=eq_true q6;go_wp2_with (first|(go_at_call 115;(with_reducible refine (beaconref02_letter.calls (bt a0 0) false _ A7.out).mono ?_);rintro e w' ⟨rfl,⟨nd,rfl⟩⟩))
      go_meet
      case rel => exact ⟨_,(true),ze,H',⟨zo⟩,by repeat (first|exact Drawn0.refl _|apply Drawn0.step)⟩
    ·rw [if_neg c5] at H;exact absurd H (by simp)
 case rest =>
  clear HC2;obtain ⟨kq,x25_1,rfl,HA,HJ1,⟨mc1,rfl⟩⟩:=hcut;cases kq with
  | zero => exact absurd HA.out (by simp [beaconref02_CheckName.j0])
  | succ kj1 =>
   have H:=HA.out;clear HA;simp only [beaconref02_CheckName.j0] at H;by_cases c13 : x25_1 = true
   ·subst c13;rw [if_pos rfl] at H;obtain rfl:=Option.some.inj H;go_wp2
    go_ret
    exact ⟨by first|rfl|(simp;done)|(simp [*];done),by repeat (first|exact Drawn0.refl _|apply Drawn0.step)⟩
   ·replace c13:=Bool.eq_false_iff.mpr c13;subst c13;rw [if_neg (show ¬ (false = true) by decide)] at H;have H':=zA H;clear H;go_wp2
    go_loopg [4] kj1 (fun kq v4 w' => ∃ (x4_2 : Int),v4 = .int .i64 x4_2 ∧ Aside0 (beaconref02_CheckName.l0 kq a0 (a0.size : Int) x4_2 = some r) ∧ Aside0 (kq ≤ kj1) ∧ Drawn0 w w')
    case atStart => exact ⟨(0),ze,H',⟨Nat.le_refl _⟩,by repeat (first|exact Drawn0.refl _|apply Drawn0.step)⟩
    case round =>
     clear H';try clear c13
     obtain ⟨x4_2,rfl,HA,HK2,⟨m2,rfl⟩⟩:=hrel;cases gk with
     | zero => exact absurd HA.out (by simp [beaconref02_CheckName.l0])
     | succ k2 =>
      have H:=HA.out;clear HA;simp only [beaconref02_CheckName.l0] at H;by_cases c14 : x4_2 < (a0.size : Int)
      ·rw [if_pos c14] at H;have c14b0 : decide (x4_2 < (a0.size : Int)) = true:=decide_eq_true c14;clear c14;by_cases c15 : 0 ≤ x4_2
       ·rw [if_pos c15] at H;have c15b0 : decide (0 ≤ x4_2) = true:=decide_eq_true c15;clear c15;by_cases c16 : x4_2 < (a0.size : Int)
        ·rw [if_pos c16] at H;have c16b0 : decide (x4_2 < (a0.size : Int)) = true:=decide_eq_true c16;clear c16;replace H:=Option.bind_eq_some_iff.mp H;obtain ⟨t240,A180,H⟩:=H;(try dsimp only at H);have A18:=zA A180;clear A180;by_cases c19 : t240 = true
         ·subst c19;rw [if_pos rfl] at H;have H':=zA H;clear H;have p17 : 0 ≤ (x4_2 : Int):=zd;have q17 : x4_2 < (a0.size : Int):=zd;have hx17:=bt_at a0 x4_2;replace p17:=eq_true p17;replace q17:=eq_true q17;go_wp2_with (first|((with_reducible refine gate_callee (f:=115) rfl ?_);refine zg (some 34) Try.func115 #[.int .u8 (bt a0 x4_2)] ?_;(with_reducible refine (beaconref02_letter.calls (bt a0 x4_2) true _ A18.out).mono ?_);rintro e w' ⟨rfl,⟨nd,rfl⟩⟩;refine ⟨_,rfl,?_⟩))
          go_roundg k2
          case measure => have:=HJ1.out;have:=HK2.out;omega
          case rel => exact ⟨(wrap64 (x4_2 + 1)),ze,H',⟨by have:=HJ1.out;have:=HK2.out;omega⟩,by repeat (first|exact Drawn0.refl _|apply Drawn0.step)⟩
         ·replace c19:=Bool.eq_false_iff.mpr c19;subst c19;rw [if_neg (show ¬ (false = true) by decide)] at H;replace H:=Option.bind_eq_some_iff.mp H;obtain ⟨t241,A210,H⟩:=H;(try dsimp only at H);have A21:=zA A210;clear A210;by_cases c22 : t241 = true
          ·subst c22;rw [if_pos rfl] at H;have H':=zA H;clear H;have p17 : 0 ≤ (x4_2 : Int):=zd;have q17 : x4_2 < (a0.size : Int):=zd;have hx17:=bt_at a0 x4_2;replace p17:=eq_true p17;replace q17:=eq_true q17;go_wp2_with (first|((with_reducible refine gate_callee (f:=115) rfl ?_);refine zg (some 34) Try.func115 #[.int .u8 (bt a0 x4_2)] ?_;(with_reducible refine (beaconref02_letter.calls (bt a0 x4_2) false _ A18.out).mono ?_);rintro e w' ⟨rfl,⟨nd,rfl⟩⟩;refine ⟨_,rfl,?_⟩;have p20 : 0 ≤ (x4_2 : Int):=zd;have q20 : x4_2 < (a0.size : Int):=zd;have hx20:=bt_at a0 x4_2;replace p20:=eq_true p20;replace q20:=eq_true q20)|(go_at_call 116;(with_reducible refine (beaconref02_digit.calls (bt a0 x4_2) true _ A21.out).mono ?_);rintro e w' ⟨rfl,⟨nd,rfl⟩⟩))
           go_roundg k2
           case measure => have:=HJ1.out;have:=HK2.out;omega
           case rel => exact ⟨(wrap64 (x4_2 + 1)),ze,H',⟨by have:=HJ1.out;have:=HK2.out;omega⟩,by repeat (first|exact Drawn0.refl _|apply Drawn0.step)⟩
          ·replace c22:=Bool.eq_false_iff.mpr c22;subst c22;rw [if_neg (show ¬ (false = true) by decide)] at H;by_cases c24 : (bt a0 x4_2) = 45
           ·rw [if_pos c24] at H;have c24b0 : ((bt a0 x4_2) == 45) = true:=beq_iff_eq.mpr c24;have c24b1 : ((bt a0 x4_2) != 45) = false:=bne_eq_false_iff_eq.mpr c24;clear c24;have H':=zA H;clear H;have p17 : 0 ≤ (x4_2 : Int):=zd;have q17 : x4_2 < (a0.size : Int):=zd;have hx17:=bt_at a0 x4_2;replace p17:=eq_true p17;replace q17:=eq_true q17;go_wp2_with (first|((with_reducible refine gate_callee (f:=115) rfl ?_);refine zg (some 34) Try.func115 #[.int .u8 (bt a0 x4_2)] ?_;(with_reducible refine (beaconref02_letter.calls (bt a0 x4_2) false _ A18.out).mono ?_);rintro e w' ⟨rfl,⟨nd,rfl⟩⟩;refine ⟨_,rfl,?_⟩;have p20 : 0 ≤ (x4_2 : Int):=zd;have q20 : x4_2 < (a0.size : Int):=zd;have hx20:=bt_at a0 x4_2;replace p20:=eq_true p20;replace q20:=eq_true q20)|(go_at_call 116;(with_reducible refine (beaconref02_digit.calls (bt a0 x4_2) false _ A21.out).mono ?_);rintro e w' ⟨rfl,⟨nd,rfl⟩⟩;have p23 : 0 ≤ (x4_2 : Int):=zd;have q23 : x4_2 < (a0.size : Int):=zd;have hx23:=bt_at a0 x4_2;replace p23:=eq_true p23;replace q23:=eq_true q23))
            go_roundg k2
            case measure => have:=HJ1.out;have:=HK2.out;omega
            case rel => exact ⟨(wrap64 (x4_2 + 1)),ze,H',⟨by have:=HJ1.out;have:=HK2.out;omega⟩,by repeat (first|exact Drawn0.refl _|apply Drawn0.step)⟩
           ·rw [if_neg c24] at H;have c24b0 : ((bt a0 x4_2) == 45) = false:=beq_eq_false_iff_ne.mpr c24;have c24b1 : ((bt a0 x4_2) != 45) = true:=bne_iff_ne.mpr c24;obtain rfl:=Option.some.inj H;have p17 : 0 ≤ (x4_2 : Int):=zd;have q17 : x4_2 < (a0.size : Int):=zd;have hx17:=bt_at a0 x4_2;replace p17:=eq_true p17;replace q17:=eq_true q17;go_wp2_with (first|((with_reducible refine gate_callee (f:=115) rfl ?_);refine zg (some 34) Try.func115 #[.int .u8 (bt a0 x4_2)] ?_;(with_reducible refine (beaconref02_letter.calls (bt a0 x4_2) false _ A18.out).mono ?_);rintro e w' ⟨rfl,⟨nd,rfl⟩⟩;refine ⟨_,rfl,?_⟩;have p20 : 0 ≤ (x4_2 : Int):=zd;have q20 : x4_2 < (a0.size : Int):=zd;have hx20:=bt_at a0 x4_2;replace p20:=eq_true p20;replace q20:=eq_true q20)|(go_at_call 116;(with_reducible refine (beaconref02_digit.calls (bt a0 x4_2) false _ A21.out).mono ?_);rintro e w' ⟨rfl,⟨nd,rfl⟩⟩;have p23 : 0 ≤ (x4_2 : Int):=zd;have q23 : x4_2 < (a0.size : Int):=zd;have hx23:=bt_at a0 x4_2;replace p23:=eq_true p23;replace q23:=eq_true q23))
            go_ret
            exact ⟨by first|rfl|(simp;done)|(simp [*];done),by repeat (first|exact Drawn0.refl _|apply Drawn0.step)⟩
        ·rw [if_neg c16] at H;exact absurd H (by simp)
       ·rw [if_neg c15] at H;exact absurd H (by simp)
      ·rw [if_neg c14] at H;have c14b0 : decide (x4_2 < (a0.size : Int)) = false:=decide_eq_false c14;clear c14;obtain rfl:=Option.some.inj H;go_wp2
       go_ret
       exact ⟨by first|rfl|(simp;done)|(simp [*];done),by repeat (first|exact Drawn0.refl _|apply Drawn0.step)⟩

/-! ### beaconref06_name: function 80 -/
def beaconref06_name.f (k : Nat) (a0 : ByteArray) : Option (Bool) := (beaconref02_CheckName.f k a0).bind fun t242 => (some (t242 == 0))
theorem beaconref06_name.mono : ∀ a0 k, LeO (beaconref06_name.f k a0) (beaconref06_name.f (k + 1) a0) := by
 intro a0 k
 unfold beaconref06_name.f
 repeat' first
   | (with_reducible exact beaconref02_CheckName.mono _ _)
   | (with_reducible exact LeO.refl _)
   | (with_reducible exact LeO.none _)
   | (with_reducible refine LeO.ite ?_ ?_)
   | (with_reducible refine LeO.bind ?_ (fun _ => ?_))
   | exact beaconref02_CheckName.mono _ _
   | exact LeO.none _
   | refine LeO.ite ?_ ?_
   | refine LeO.bind ?_ (fun _ => ?_)
set_option maxHeartbeats 8000000 in
set_option maxRecDepth 100000 in
theorem beaconref06_name.calls (k : Nat) (a0 : ByteArray) (r : Bool) (w : World) (h : beaconref06_name.f k a0 = some r) :
  Calls Try.prog 80 #[.string a0] w fun e w' => e = .returned (.bool r) ∧ Drawn0 w w':=by
 have H : ((beaconref02_CheckName.f k a0).bind fun t242 => (some (t242 == 0))) = some r:=h;clear h;replace H:=Option.bind_eq_some_iff.mp H;obtain ⟨t242,A20,H⟩:=H;(try dsimp only at H);have A2:=zA A20;clear A20;obtain rfl:=Option.some.inj H;go_enter Try.func80,Try.ntmps80
 go_wp2_with (first|((with_reducible refine gate_callee (f:=102) rfl ?_);refine zg (some 4) Try.func102 #[.string a0] ?_;(with_reducible refine (beaconref02_CheckName.calls k a0 t242 _ A2.out).mono ?_);rintro e w' ⟨rfl,⟨nd,rfl⟩⟩;refine ⟨_,rfl,?_⟩))
 go_ret
 exact ⟨by first|rfl|(simp;done)|(simp [*];done),by repeat (first|exact Drawn0.refl _|apply Drawn0.step)⟩

end Go.Proofs.Ytgmjlhpigfaicaa.XF
