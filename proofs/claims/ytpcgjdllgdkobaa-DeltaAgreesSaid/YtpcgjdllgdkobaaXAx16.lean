/- Go functions of this seat as Lean functions, with proofs that the calls come to them. (Written by xprint.py, a program of this session, over the kit's print.) -/
import Derived.Test.YtpcgjdllgdkobaaXAx0
import Derived.Test.YtpcgjdllgdkobaaXAx13
import Derived.Test.YtpcgjdllgdkobaaXAx14
import Derived.Test.YtpcgjdllgdkobaaXAx15
namespace Go.Proofs.Ytpcgjdllgdkobaa.XA
open Go.RowKit Go.Proofs.YtpcgjdllgdkobaaW.PrintWords Go.Proofs.YtpcgjdllgdkobaaW.PrintLast Go.Proofs.YtpcgjdllgdkobaaW.PrintMore
attribute [local go_sem] max2_int min2_int max_two min_two max_three min_three max_four min_four   -- for this text's walks alone
set_option linter.unusedVariables false
set_option linter.unusedSimpArgs false
open List renaming setIfInBounds_toArray → xA, set_cons_zero → xB, set_cons_succ → xC
open Go.Proofs.YtpcgjdllgdkobaaW.PrintWords renaming blk_drewN → bN, blk_drew → bD, blk_alloc → bA, below_set → bS, blk_frozen → bF, blk_cell → bC, cell_far → cF, blk_far → bZ, blk_below → bB, pw_below_drewN → bwN, below_drew1 → bw1, below_alloc → bwA
open Go.Proofs.YtpcgjdllgdkobaaW.PrintZ
open Bool renaming true → T,false → F

/-! ### beaconref14_Merge: function 16 -/
def beaconref14_Merge.f (k : Nat) (l0 : List (S61)) (l1 : List (S61)) : Option ((List (S61)) × Int) := (beaconref14_List.f k l0).bind fun t235 => (if t235 = true then ((beaconref14_rising.f k l1).bind fun t236 => (if t236 = true then ((beaconref14_merge.f k l0 l1).bind fun t237 => (some (t237, 0))) else (some (([] : List (S61)), 1)))) else (some (([] : List (S61)), 1)))
theorem beaconref14_Merge.mono : ∀ a0 a1 k, LeO (beaconref14_Merge.f k a0 a1) (beaconref14_Merge.f (k + 1) a0 a1) := by
 intro a0 a1 k
 unfold beaconref14_Merge.f
 repeat' first
   | (with_reducible exact beaconref14_List.mono _ _)
   | (with_reducible exact beaconref14_merge.mono _ _ _)
   | (with_reducible exact beaconref14_rising.mono _ _)
   | (with_reducible exact LeO.refl _)
   | (with_reducible exact LeO.none _)
   | (with_reducible refine LeO.ite ?_ ?_)
   | (with_reducible refine LeO.bind ?_ (fun _ => ?_))
   | exact beaconref14_List.mono _ _
   | exact beaconref14_merge.mono _ _ _
   | exact beaconref14_rising.mono _ _
   | exact LeO.none _
   | refine LeO.ite ?_ ?_
   | refine LeO.bind ?_ (fun _ => ?_)
set_option maxHeartbeats 8000000 in
set_option maxRecDepth 100000 in
theorem beaconref14_Merge.calls (k : Nat) (A0 : Option Addr) (c0 : Nat) (l0 : List (S61)) (A1 : Option Addr) (c1 : Nat) (l1 : List (S61)) (r1 : List (S61)) (r2 : Int) (w : World) (hr0 : Kd.C k61 w A0 l0.length l0) (hc0 : l0.length ≤ c0) (hr1 : Kd.C k61 w A1 l1.length l1) (hc1 : l1.length ≤ c1) (h : beaconref14_Merge.f k l0 l1 = some (r1, r2)) :
  Calls Try.prog 16 #[.slice A0 l0.length c0,.slice A1 l1.length c1] w fun e w' => ∃ v0_ : Value,e = .returned (.tuple #[v0_,.int .i64 r2]) ∧ Kd.R k61 61 w' w.heap.size (fun _ => True) v0_ r1 ∧ Below w.heap.size w w':=by
 have HR0:=zA hr0;have HC0:=zA hc0;clear hr0 hc0;have HR1:=zA hr1;have HC1:=zA hc1;clear hr1 hc1;have HB:=zA (Below.refl w.heap.size w);have H : ((beaconref14_List.f k l0).bind fun t235 => (if t235 = true then ((beaconref14_rising.f k l1).bind fun t236 => (if t236 = true then ((beaconref14_merge.f k l0 l1).bind fun t237 => (some (t237,0))) else (some (([] : List (S61)),1)))) else (some (([] : List (S61)),1)))) = some (r1,r2):=h;clear h;replace H:=Option.bind_eq_some_iff.mp H;obtain ⟨t235,A30,H⟩:=H;(try dsimp only at H);have A3:=zA A30;clear A30;by_cases c4 : t235 = true
 ·subst c4;rw [if_pos rfl] at H;replace H:=Option.bind_eq_some_iff.mp H;obtain ⟨t236,A50,H⟩:=H;(try dsimp only at H);have A5:=zA A50;clear A50;by_cases c6 : t236 = true
  ·subst c6;rw [if_pos rfl] at H;replace H:=Option.bind_eq_some_iff.mp H;obtain ⟨t237,A70,H⟩:=H;(try dsimp only at H);have A7:=zA A70;clear A70;simp only [Option.some.injEq,Prod.mk.injEq] at H;obtain ⟨rfl,rfl⟩:=H;go_enter Try.func16,Try.ntmps16
   go_wp2_with (first|((with_reducible refine gate_callee (f:=18) rfl ?_);refine zg (some 7) Try.func18 #[.slice A0 l0.length c0] ?_;(with_reducible refine (beaconref14_List.calls k _ _ l0 true _ ?side1 ?side2 A3.out).mono ?_);(case side1 => exact zC HR0.out);(case side2 => exact HC0.out);rintro e w8 ⟨rfl,hb⟩;refine ⟨_,rfl,?_⟩;replace HB:=zS HB hb;(try clear hb))|(go_at_call 35;(with_reducible refine (beaconref14_rising.calls k _ _ l1 true _ ?side1 ?side2 A5.out).mono ?_);(case side1 => exact zC (Kd.C_below HR1.out HB.1));(case side2 => exact HC1.out);rintro e w9 ⟨rfl,hb⟩;replace HB:=zS HB hb;(try clear hb))|((with_reducible refine gate_callee (f:=36) rfl ?_);refine zg (some 16) Try.func36 #[.slice A0 l0.length c0,.slice A1 l1.length c1] ?_;(with_reducible refine (beaconref14_merge.calls k _ _ l0 _ _ l1 t237 _ ?side1 ?side2 ?side3 ?side4 A7.out).mono ?_);(case side1 => exact zC (Kd.C_below HR0.out HB.1));(case side2 => exact HC0.out);(case side3 => exact zC (Kd.C_below HR1.out HB.1));(case side4 => exact HC1.out);rintro e w10 ⟨v238,rfl,ho0,hb⟩;refine ⟨_,rfl,?_⟩;have HO239:=zA (Kd.R_lower ho0 (zW HB));replace HB:=zS HB hb;(try clear hb);(try clear ho0)))
   go_ret2
   exact ⟨_,by first|rfl|(simp [errW_none,errW_some] <;> rfl)|(simp [*,errW_none,errW_some] <;> rfl),by (with_reducible repeat (first|apply Kd.R_alloc|apply Kd.R_drewN|apply Kd.R_drew));exact HO239.out,zH HB⟩
  ·replace c6:=Bool.eq_false_iff.mpr c6;subst c6;rw [if_neg (show ¬ (false = true) by decide)] at H;simp only [Option.some.injEq,Prod.mk.injEq] at H;obtain ⟨rfl,rfl⟩:=H;go_enter Try.func16,Try.ntmps16
   go_wp2_with (first|((with_reducible refine gate_callee (f:=18) rfl ?_);refine zg (some 7) Try.func18 #[.slice A0 l0.length c0] ?_;(with_reducible refine (beaconref14_List.calls k _ _ l0 true _ ?side1 ?side2 A3.out).mono ?_);(case side1 => exact zC HR0.out);(case side2 => exact HC0.out);rintro e w11 ⟨rfl,hb⟩;refine ⟨_,rfl,?_⟩;replace HB:=zS HB hb;(try clear hb))|(go_at_call 35;(with_reducible refine (beaconref14_rising.calls k _ _ l1 false _ ?side1 ?side2 A5.out).mono ?_);(case side1 => exact zC (Kd.C_below HR1.out HB.1));(case side2 => exact HC1.out);rintro e w12 ⟨rfl,hb⟩;replace HB:=zS HB hb;(try clear hb)))
   go_ret2
   exact ⟨_,by first|rfl|(simp [errW_none,errW_some] <;> rfl)|(simp [*,errW_none,errW_some] <;> rfl),by first|exact Kd.R_nil _ _ _ _ _|exact Kd.N_nil _ _ _ _ _|exact Kd.V_nil _ _ _ _ _|exact Kd.Q_nil _ _ _ _ _|exact Kd.S_nil _ _ _ _ _,zH HB⟩
 ·replace c4:=Bool.eq_false_iff.mpr c4;subst c4;rw [if_neg (show ¬ (false = true) by decide)] at H;simp only [Option.some.injEq,Prod.mk.injEq] at H;obtain ⟨rfl,rfl⟩:=H;go_enter Try.func16,Try.ntmps16
  go_wp2_with (first|((with_reducible refine gate_callee (f:=18) rfl ?_);refine zg (some 7) Try.func18 #[.slice A0 l0.length c0] ?_;(with_reducible refine (beaconref14_List.calls k _ _ l0 false _ ?side1 ?side2 A3.out).mono ?_);(case side1 => exact zC HR0.out);(case side2 => exact HC0.out);rintro e w13 ⟨rfl,hb⟩;refine ⟨_,rfl,?_⟩;replace HB:=zS HB hb;(try clear hb)))
  go_ret2
  exact ⟨_,by first|rfl|(simp [errW_none,errW_some] <;> rfl)|(simp [*,errW_none,errW_some] <;> rfl),by first|exact Kd.R_nil _ _ _ _ _|exact Kd.N_nil _ _ _ _ _|exact Kd.V_nil _ _ _ _ _|exact Kd.Q_nil _ _ _ _ _|exact Kd.S_nil _ _ _ _ _,zH HB⟩

end Go.Proofs.Ytpcgjdllgdkobaa.XA
