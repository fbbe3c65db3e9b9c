/- Go functions of this seat as Lean functions, with proofs that the calls come to them. (Written by xprint.py, a program of this session, over the kit's print.) -/
import Derived.Test.YtpcgjdllgdkobaaXAx0
import Derived.Test.YtpcgjdllgdkobaaXAx3
namespace Go.Proofs.Ytpcgjdllgdkobaa.XA
open Go.RowKit Go.Proofs.YtpcgjdllgdkobaaW.PrintWords Go.Proofs.YtpcgjdllgdkobaaW.PrintLast Go.Proofs.YtpcgjdllgdkobaaW.PrintMore
attribute [local go_sem] max2_int min2_int max_two min_two max_three min_three max_four min_four   -- for this text's walks alone
set_option linter.unusedVariables false
set_option linter.unusedSimpArgs false
open List renaming setIfInBounds_toArray → xA, set_cons_zero → xB, set_cons_succ → xC
open Go.Proofs.YtpcgjdllgdkobaaW.PrintWords renaming blk_drewN → bN, blk_drew → bD, blk_alloc → bA, below_set → bS, blk_frozen → bF, blk_cell → bC, cell_far → cF, blk_far → bZ, blk_below → bB, pw_below_drewN → bwN, below_drew1 → bw1, below_alloc → bwA
open Go.Proofs.YtpcgjdllgdkobaaW.PrintZ
open Bool renaming true → T,false → F

/-! ### ident_CheckName: function 63 -/
mutual
def ident_CheckName.j0 : Nat → ByteArray → Int → Bool → Option (Int)
 | 0, _, _, _ => none
 | k + 1, x0, x3, x29 => if x29 = true then (some 21) else (ident_CheckName.l0 k x0 x3 0)
def ident_CheckName.l0 : Nat → ByteArray → Int → Int → Option (Int)
 | 0, _, _, _ => none
 | k + 1, x0, x30, x31 => if x31 < x30 then (if 0 ≤ x31 then (if x31 < (x0.size : Int) then ((ident_within.f (bt x0 x31)).bind fun t122 => (if t122 = true then (ident_CheckName.l0 k x0 x30 (wrap64 (x31 + 1))) else (some 21))) else (none)) else (none)) else (some 0)
end
def ident_CheckName.f (k : Nat) (a0 : ByteArray) : Option (Int) := if (a0.size : Int) < 1 then (ident_CheckName.j0 k a0 (a0.size : Int) true) else (if (a0.size : Int) > 32 then (ident_CheckName.j0 k a0 (a0.size : Int) true) else (if 0 < (a0.size : Int) then (if (bt a0 0) < 97 then (ident_CheckName.j0 k a0 (a0.size : Int) true) else (if (bt a0 0) > 122 then (ident_CheckName.j0 k a0 (a0.size : Int) true) else (if 0 ≤ (wrap64 ((a0.size : Int) - 1)) then (if (wrap64 ((a0.size : Int) - 1)) < (a0.size : Int) then (ident_CheckName.j0 k a0 (a0.size : Int) ((bt a0 (wrap64 ((a0.size : Int) - 1))) == 45)) else (none)) else (none)))) else (none)))
theorem ident_CheckName.mono_l : ∀ k, (∀ y0 y1 y2, LeO (ident_CheckName.j0 k y0 y1 y2) (ident_CheckName.j0 (k + 1) y0 y1 y2)) ∧ (∀ y0 y1 y2, LeO (ident_CheckName.l0 k y0 y1 y2) (ident_CheckName.l0 (k + 1) y0 y1 y2))
 | 0 => ⟨fun _ _ _ r h => by simp [ident_CheckName.j0] at h, fun _ _ _ r h => by simp [ident_CheckName.l0] at h⟩
 | k + 1 => by
  obtain ⟨ih0,ih1⟩:=ident_CheckName.mono_l k
  refine ⟨?_,?_⟩
  ·intro y0 y1 y2
   unfold ident_CheckName.j0
   repeat' first
   | (with_reducible exact ih0 _ _ _)
   | (with_reducible exact ih1 _ _ _)
   | (with_reducible exact LeO.refl _)
   | (with_reducible exact LeO.none _)
   | (with_reducible refine LeO.ite ?_ ?_)
   | (with_reducible refine LeO.bind ?_ (fun _ => ?_))
   | exact ih0 _ _ _
   | exact ih1 _ _ _
   | exact LeO.none _
   | refine LeO.ite ?_ ?_
   | refine LeO.bind ?_ (fun _ => ?_)
  ·intro y0 y1 y2
   unfold ident_CheckName.l0
   repeat' first
   | (with_reducible exact ih0 _ _ _)
   | (with_reducible exact ih1 _ _ _)
   | (with_reducible exact LeO.refl _)
   | (with_reducible exact LeO.none _)
   | (with_reducible refine LeO.ite ?_ ?_)
   | (with_reducible refine LeO.bind ?_ (fun _ => ?_))
   | exact ih0 _ _ _
   | exact ih1 _ _ _
   | exact LeO.none _
   | refine LeO.ite ?_ ?_
   | refine LeO.bind ?_ (fun _ => ?_)
theorem ident_CheckName.mono : ∀ a0 k, LeO (ident_CheckName.f k a0) (ident_CheckName.f (k + 1) a0) := by
 intro a0 k
 obtain ⟨ih0,ih1⟩:=ident_CheckName.mono_l k
 unfold ident_CheckName.f
 repeat' first
   | (with_reducible exact ih0 _ _ _)
   | (with_reducible exact ih1 _ _ _)
   | (with_reducible exact LeO.refl _)
   | (with_reducible exact LeO.none _)
   | (with_reducible refine LeO.ite ?_ ?_)
   | (with_reducible refine LeO.bind ?_ (fun _ => ?_))
   | exact ih0 _ _ _
   | exact ih1 _ _ _
   | exact LeO.none _
   | refine LeO.ite ?_ ?_
   | refine LeO.bind ?_ (fun _ => ?_)
set_option maxHeartbeats 8000000 in
set_option maxRecDepth 100000 in
theorem ident_CheckName.calls (k : Nat) (a0 : ByteArray) (r : Int) (w : World) (h : ident_CheckName.f k a0 = some r) :
  Calls Try.prog 63 #[.string a0] w fun e w' => e = .returned (.int .i64 r) ∧ Drawn0 w w':=by
 have H : (if (a0.size : Int) < 1 then (ident_CheckName.j0 k a0 (a0.size : Int) true) else (if (a0.size : Int) > 32 then (ident_CheckName.j0 k a0 (a0.size : Int) true) else (if 0 < (a0.size : Int) then (if (bt a0 0) < 97 then (ident_CheckName.j0 k a0 (a0.size : Int) true) else (if (bt a0 0) > 122 then (ident_CheckName.j0 k a0 (a0.size : Int) true) else (if 0 ≤ (wrap64 ((a0.size : Int) - 1)) then (if (wrap64 ((a0.size : Int) - 1)) < (a0.size : Int) then (ident_CheckName.j0 k a0 (a0.size : Int) ((bt a0 (wrap64 ((a0.size : Int) - 1))) == 45)) else (none)) else (none)))) else (none)))) = some r:=h;clear h;have HC2:=zA H;clear H;go_enter Try.func63,Try.ntmps63
 go_upto_region 2 with (fail)
 go_cut [29] (fun v29 wc => ∃ (kq : Nat) (x29_1 : Bool),v29 = .bool x29_1 ∧ Aside0 (ident_CheckName.j0 kq a0 (a0.size : Int) x29_1 = some r) ∧ Aside0 (kq ≤ k) ∧ Drawn0 w wc)
 case first =>
  have H:=HC2.out;clear HC2;by_cases c3 : (a0.size : Int) < 1
  ·rw [if_pos c3] at H;have c3b0 : decide ((a0.size : Int) < 1) = true:=decide_eq_true c3;have c3b1 : decide (a0.size < 1) = true:=decide_eq_true (by omega);clear c3;(first|rw [c3b0]|(simp only [i64_w,i32_w];rw [c3b0])|skip)
   have H':=zA H;clear H;go_wp2
   go_meet
   case rel => exact ⟨_,(true),ze,H',⟨zo⟩,by repeat (first|exact Drawn0.refl _|apply Drawn0.step)⟩
  ·rw [if_neg c3] at H;have c3b0 : decide ((a0.size : Int) < 1) = false:=decide_eq_false c3;have c3b1 : decide (a0.size < 1) = false:=decide_eq_false (by omega);clear c3;(first|rw [c3b0]|(simp only [i64_w,i32_w];rw [c3b0])|skip)
   by_cases c4 : (a0.size : Int) > 32
   ·rw [if_pos c4] at H;have c4b0 : decide (32 < (a0.size : Int)) = true:=decide_eq_true c4;have c4b1 : decide (32 < a0.size) = true:=decide_eq_true (by omega);clear c4;have H':=zA H;clear H;go_wp2
    go_meet
    case rel => exact ⟨_,(true),ze,H',⟨zo⟩,by repeat (first|exact Drawn0.refl _|apply Drawn0.step)⟩
   ·rw [if_neg c4] at H;have c4b0 : decide (32 < (a0.size : Int)) = false:=decide_eq_false c4;have c4b1 : decide (32 < a0.size) = false:=decide_eq_false (by omega);clear c4;by_cases c5 : 0 < (a0.size : Int)
    ·rw [if_pos c5] at H;have c5b0 : decide (0 < (a0.size : Int)) = true:=decide_eq_true c5;have c5b1 : decide (0 < a0.size) = true:=decide_eq_true (by omega);clear c5;by_cases c7 : (bt a0 0) < 97
     ·rw [if_pos c7] at H;have c7b0 : decide ((bt a0 0) < 97) = true:=decide_eq_true c7;clear c7;have H':=zA H;clear H;have p6 : 0 ≤ (0 : Int):=(by omega);have q6 : 0 < a0.size:=(by have : (0 : Int) < (a0.size : Int):=zd;omega);have hx6 : ∀ h : 0 < a0.size,((a0[0]'h).toNat : Int) = bt a0 0:=bt_at a0 0;clear p6;have qi6 : (0 < (a0.size : Int)) = True:=eq_true (zd);replace q6:=eq_true q6;go_wp2
      go_meet
      case rel => exact ⟨_,(true),ze,H',⟨zo⟩,by repeat (first|exact Drawn0.refl _|apply Drawn0.step)⟩
     ·rw [if_neg c7] at H;have c7b0 : decide ((bt a0 0) < 97) = false:=decide_eq_false c7;clear c7;by_cases c9 : (bt a0 0) > 122
      ·rw [if_pos c9] at H;have c9b0 : decide (122 < (bt a0 0)) = true:=decide_eq_true c9;clear c9;have H':=zA H;clear H;have p6 : 0 ≤ (0 : Int):=(by omega);have q6 : 0 < a0.size:=(by have : (0 : Int) < (a0.size : Int):=zd;omega);have hx6 : ∀ h : 0 < a0.size,((a0[0]'h).toNat : Int) = bt a0 0:=bt_at a0 0;clear p6;have qi6 : (0 < (a0.size : Int)) = True:=eq_true (zd);replace q6:=eq_true q6;have p8 : 0 ≤ (0 : Int):=(by omega);have q8 : 0 < a0.size:=(by have : (0 : Int) < (a0.size : Int):=zd;omega);have hx8 : ∀ h : 0 < a0.size,((a0[0]'h).toNat : Int) = bt a0 0:=bt_at a0 0;clear p8;have qi8 : (0 < (a0.size : Int)) = True:=eq_true (zd);replace q8:=eq_true q8;go_wp2
       go_meet
       case rel => exact ⟨_,(true),ze,H',⟨zo⟩,by repeat (first|exact Drawn0.refl _|apply Drawn0.step)⟩
      ·rw [if_neg c9] at H;have c9b0 : decide (122 < (bt a0 0)) = false:=decide_eq_false c9;clear c9;obtain ⟨ji10,hji10⟩ : ∃ j_ : Int,(wrap64 ((a0.size : Int) - 1)) = j_:=⟨_,rfl⟩;replace H : (if 0 ≤ (ji10) then (if (ji10) < (a0.size : Int) then (ident_CheckName.j0 k a0 (a0.size : Int) ((bt a0 (ji10)) == 45)) else (none)) else (none)) = some r:=by first|(rw [hji10] at H;exact H)|(simp only [hji10] at H ⊢;exact H)
       have hji10w : (IntKind.i64.wrap ((a0.size : Int) - 1)) = ji10:=(i64_w _).trans hji10;by_cases c11 : 0 ≤ (ji10)
       ·rw [if_pos c11] at H;have c11b0 : decide (0 ≤ (ji10)) = true:=decide_eq_true c11;clear c11;by_cases c12 : (ji10) < (a0.size : Int)
        ·rw [if_pos c12] at H;have c12b0 : decide ((ji10) < (a0.size : Int)) = true:=decide_eq_true c12;clear c12;have H':=zA H;clear H;have p6 : 0 ≤ (0 : Int):=(by omega);have q6 : 0 < a0.size:=(by have : (0 : Int) < (a0.size : Int):=zd;omega);have hx6 : ∀ h : 0 < a0.size,((a0[0]'h).toNat : Int) = bt a0 0:=bt_at a0 0;clear p6;have qi6 : (0 < (a0.size : Int)) = True:=eq_true (zd);replace q6:=eq_true q6;have p8 : 0 ≤ (0 : Int):=(by omega);have q8 : 0 < a0.size:=(by have : (0 : Int) < (a0.size : Int):=zd;omega);have hx8 : ∀ h : 0 < a0.size,((a0[0]'h).toNat : Int) = bt a0 0:=bt_at a0 0;clear p8;have qi8 : (0 < (a0.size : Int)) = True:=eq_true (zd);replace q8:=eq_true q8;have p13 : 0 ≤ ((ji10) : Int):=zd;have q13 : (ji10) < (a0.size : Int):=zd;have hx13:=bt_at a0 (ji10);replace p13:=eq_true p13;replace q13:=eq_true q13;go_wp2
         go_meet
         case rel => exact ⟨_,(((bt a0 (ji10)) == 45)),(by first|rfl|(simp;done)|(simp only [← hji10] <;> (first|rfl|simp))|(simp [*];done)),H',⟨zo⟩,by repeat (first|exact Drawn0.refl _|apply Drawn0.step)⟩
        ·rw [if_neg c12] at H;exact absurd H (by simp)
       ·rw [if_neg c11] at H;exact absurd H (by simp)
    ·rw [if_neg c5] at H;exact absurd H (by simp)
 case rest =>
  clear HC2;obtain ⟨kq,x29_1,rfl,HA,HJ1,⟨mc1,rfl⟩⟩:=hcut;cases kq with
  | zero => exact absurd HA.out (by simp [ident_CheckName.j0])
  | succ kj1 =>
   have H:=HA.out;clear HA;simp only [ident_CheckName.j0] at H;by_cases c14 : x29_1 = true
   ·subst c14;rw [if_pos rfl] at H;obtain rfl:=Option.some.inj H;go_wp2
    go_ret
    exact ⟨by first|rfl|(simp;done)|(simp [*];done),by repeat (first|exact Drawn0.refl _|apply Drawn0.step)⟩
   ·replace c14:=Bool.eq_false_iff.mpr c14;subst c14;rw [if_neg (show ¬ (false = true) by decide)] at H;have H':=zA H;clear H;go_wp2
    go_loopg [31] kj1 (fun kq v31 w' => ∃ (x31_2 : Int),v31 = .int .i64 x31_2 ∧ Aside0 (ident_CheckName.l0 kq a0 (a0.size : Int) x31_2 = some r) ∧ Aside0 (kq ≤ kj1) ∧ Drawn0 w w')
    case atStart => exact ⟨(0),ze,H',⟨Nat.le_refl _⟩,by repeat (first|exact Drawn0.refl _|apply Drawn0.step)⟩
    case round =>
     clear H';try clear c14
     obtain ⟨x31_2,rfl,HA,HK2,⟨m2,rfl⟩⟩:=hrel;cases gk with
     | zero => exact absurd HA.out (by simp [ident_CheckName.l0])
     | succ k2 =>
      have H:=HA.out;clear HA;simp only [ident_CheckName.l0] at H;by_cases c15 : x31_2 < (a0.size : Int)
      ·rw [if_pos c15] at H;have c15b0 : decide (x31_2 < (a0.size : Int)) = true:=decide_eq_true c15;clear c15;by_cases c16 : 0 ≤ x31_2
       ·rw [if_pos c16] at H;have c16b0 : decide (0 ≤ x31_2) = true:=decide_eq_true c16;clear c16;by_cases c17 : x31_2 < (a0.size : Int)
        ·rw [if_pos c17] at H;have c17b0 : decide (x31_2 < (a0.size : Int)) = true:=decide_eq_true c17;clear c17;replace H:=Option.bind_eq_some_iff.mp H;obtain ⟨t122,A190,H⟩:=H;(try dsimp only at H);have A19:=zA A190;clear A190;by_cases c20 : t122 = true
         ·subst c20;rw [if_pos rfl] at H;have H':=zA H;clear H;have p18 : 0 ≤ (x31_2 : Int):=zd;have q18 : x31_2 < (a0.size : Int):=zd;have hx18:=bt_at a0 x31_2;replace p18:=eq_true p18;replace q18:=eq_true q18;go_wp2_with (first|((with_reducible refine gate_callee (f:=69) rfl ?_);refine zg (some 37) Try.func69 #[.int .u8 (bt a0 x31_2)] ?_;(with_reducible refine (ident_within.calls (bt a0 x31_2) true _ A19.out).mono ?_);rintro e w' ⟨rfl,⟨nd,rfl⟩⟩;refine ⟨_,rfl,?_⟩))
          go_roundg k2
          case measure => have:=HJ1.out;have:=HK2.out;omega
          case rel => exact ⟨(wrap64 (x31_2 + 1)),ze,H',⟨by have:=HJ1.out;have:=HK2.out;omega⟩,by repeat (first|exact Drawn0.refl _|apply Drawn0.step)⟩
         ·replace c20:=Bool.eq_false_iff.mpr c20;subst c20;rw [if_neg (show ¬ (false = true) by decide)] at H;obtain rfl:=Option.some.inj H;have p18 : 0 ≤ (x31_2 : Int):=zd;have q18 : x31_2 < (a0.size : Int):=zd;have hx18:=bt_at a0 x31_2;replace p18:=eq_true p18;replace q18:=eq_true q18;go_wp2_with (first|((with_reducible refine gate_callee (f:=69) rfl ?_);refine zg (some 37) Try.func69 #[.int .u8 (bt a0 x31_2)] ?_;(with_reducible refine (ident_within.calls (bt a0 x31_2) false _ A19.out).mono ?_);rintro e w' ⟨rfl,⟨nd,rfl⟩⟩;refine ⟨_,rfl,?_⟩))
          go_ret
          exact ⟨by first|rfl|(simp;done)|(simp [*];done),by repeat (first|exact Drawn0.refl _|apply Drawn0.step)⟩
        ·rw [if_neg c17] at H;exact absurd H (by simp)
       ·rw [if_neg c16] at H;exact absurd H (by simp)
      ·rw [if_neg c15] at H;have c15b0 : decide (x31_2 < (a0.size : Int)) = false:=decide_eq_false c15;clear c15;obtain rfl:=Option.some.inj H;go_wp2
       go_ret
       exact ⟨by first|rfl|(simp;done)|(simp [*];done),by repeat (first|exact Drawn0.refl _|apply Drawn0.step)⟩

end Go.Proofs.Ytpcgjdllgdkobaa.XA
