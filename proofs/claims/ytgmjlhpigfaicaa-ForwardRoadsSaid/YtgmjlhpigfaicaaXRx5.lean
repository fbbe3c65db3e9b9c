/- Go functions of this seat as Lean functions, with proofs that the calls come to them. (Written by xprint.py, a program of this session, over the kit's print.) -/
import Derived.Test.YtgmjlhpigfaicaaXRx0
namespace Go.Proofs.Ytgmjlhpigfaicaa.XR
open Go.RowKit Go.Proofs.YtgmjlhpigfaicaaW.PrintWords Go.Proofs.YtgmjlhpigfaicaaW.PrintLast Go.Proofs.YtgmjlhpigfaicaaW.PrintMore
attribute [local go_sem] max2_int min2_int max_two min_two max_three min_three max_four min_four   -- for this text's walks alone
set_option linter.unusedVariables false
set_option linter.unusedSimpArgs false
open List renaming setIfInBounds_toArray → xA, set_cons_zero → xB, set_cons_succ → xC
open Go.Proofs.YtgmjlhpigfaicaaW.PrintWords renaming blk_drewN → bN, blk_drew → bD, blk_alloc → bA, below_set → bS, blk_frozen → bF, blk_cell → bC, cell_far → cF, blk_far → bZ, blk_below → bB, pw_below_drewN → bwN, below_drew1 → bw1, below_alloc → bwA
open Go.Proofs.YtgmjlhpigfaicaaW.PrintZ
open Bool renaming true → T,false → F

/-! ### ident_CheckName: function 114 -/
def ident_CheckName.j0 : Nat → Bool → Option (Int)
 | 0, _ => none
 | k + 1, x29 => if x29 = true then (some 21) else (none)
def ident_CheckName.f (k : Nat) (a0 : ByteArray) : Option (Int) := if (a0.size : Int) < 1 then (ident_CheckName.j0 k true) else (none)
set_option maxHeartbeats 8000000 in
set_option maxRecDepth 100000 in
theorem ident_CheckName.calls (k : Nat) (a0 : ByteArray) (r : Int) (w : World) (h : ident_CheckName.f k a0 = some r) :
  Calls Try.prog 114 #[.string a0] w fun e w' => e = .returned (.int .i64 r) ∧ Drawn0 w w':=by
 have H : (if (a0.size : Int) < 1 then (ident_CheckName.j0 k true) else (none)) = some r:=h;clear h;have HC2:=zA H;clear H;go_enter Try.func114,Try.ntmps114
 go_upto_region 2 with (fail)
 go_cut [29] (fun v29 wc => ∃ (kq : Nat) (Aa : Bool),v29 = .bool Aa ∧ Aside0 (ident_CheckName.j0 kq Aa = some r) ∧ Aside0 (kq ≤ k) ∧ Drawn0 w wc)
 case first =>
  have H:=HC2.out;clear HC2;by_cases c3 : (a0.size : Int) < 1
  ·rw [if_pos c3] at H;have Ab : decide ((a0.size : Int) < 1) = true:=decide_eq_true c3;have Ac : decide (a0.size < 1) = true:=decide_eq_true (by omega);clear c3;(first|rw [Ab]|(simp only [i64_w,i32_w];rw [Ab])|skip)
   have H':=zA H;clear H;go_wp2
   go_meet
   case rel => exact ⟨_,(true),ze,H',⟨zo⟩,by repeat (first|exact Drawn0.refl _|apply Drawn0.step)⟩
  ·rw [if_neg c3] at H;exact absurd H (by simp)
 case rest =>
  clear HC2;obtain ⟨kq,Aa,rfl,HA,HJ1,⟨mc1,rfl⟩⟩:=hcut;cases kq with
  | zero => exact absurd HA.out (by simp [ident_CheckName.j0])
  | succ kj1 =>
   have H:=HA.out;clear HA;simp only [ident_CheckName.j0] at H;by_cases c4 : Aa = true
   ·subst c4;rw [if_pos rfl] at H;obtain rfl:=Option.some.inj H;go_wp2
    go_ret
    exact ⟨by first|rfl|(simp;done)|(simp [*];done),by repeat (first|exact Drawn0.refl _|apply Drawn0.step)⟩
   ·replace c4:=Bool.eq_false_iff.mpr c4;subst c4;rw [if_neg (show ¬ (false = true) by decide)] at H;exact absurd H (by simp)

end Go.Proofs.Ytgmjlhpigfaicaa.XR
