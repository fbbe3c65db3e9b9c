/- Go functions of this seat as Lean functions, with proofs that the calls come to them. (Written by xprint.py, a program of this session, over the kit's print.) -/
import Derived.Test.YtgmjlhpigfaicaaXAx0
import Derived.Test.YtgmjlhpigfaicaaXAx3
namespace Go.Proofs.Ytgmjlhpigfaicaa.XA
open Go.RowKit Go.Proofs.YtgmjlhpigfaicaaW.PrintWords Go.Proofs.YtgmjlhpigfaicaaW.PrintLast Go.Proofs.YtgmjlhpigfaicaaW.PrintMore
attribute [local go_sem] max2_int min2_int max_two min_two max_three min_three max_four min_four   -- for this text's walks alone
set_option linter.unusedVariables false
set_option linter.unusedSimpArgs false
open List renaming setIfInBounds_toArray → xA, set_cons_zero → xB, set_cons_succ → xC
open Go.Proofs.YtgmjlhpigfaicaaW.PrintWords renaming blk_drewN → bN, blk_drew → bD, blk_alloc → bA, below_set → bS, blk_frozen → bF, blk_cell → bC, cell_far → cF, blk_far → bZ, blk_below → bB, pw_below_drewN → bwN, below_drew1 → bw1, below_alloc → bwA
open Go.Proofs.YtgmjlhpigfaicaaW.PrintZ
open Bool renaming true → T,false → F

/-! ### table_Check: function 19 -/
def table_Check.f (k : Nat) (l0_0 : List (S39)) (a0_1 : Bool) : Option (Int) := (table_may.f k l0_0).bind fun t236 => (if t236 = true then (some 0) else (some 1))
theorem table_Check.mono : ∀ a0 a1 k, LeO (table_Check.f k a0 a1) (table_Check.f (k + 1) a0 a1) := by
 intro a0 a1 k
 unfold table_Check.f
 repeat' first
   | (with_reducible exact table_may.mono _ _)
   | (with_reducible exact LeO.refl _)
   | (with_reducible exact LeO.none _)
   | (with_reducible refine LeO.ite ?_ ?_)
   | (with_reducible refine LeO.bind ?_ (fun _ => ?_))
   | exact table_may.mono _ _
   | exact LeO.none _
   | refine LeO.ite ?_ ?_
   | refine LeO.bind ?_ (fun _ => ?_)
set_option maxHeartbeats 8000000 in
set_option maxRecDepth 100000 in
theorem table_Check.calls (k : Nat) (A0_0 : Option Addr) (c0_0 : Nat) (l0_0 : List (S39)) (a0_1 : Bool) (r : Int) (w : World) (hr0_0 : Kd.C k39 w A0_0 l0_0.length l0_0) (hc0_0 : l0_0.length ≤ c0_0) (h : table_Check.f k l0_0 a0_1 = some r) :
  Calls Try.prog 19 #[.agg #[.slice A0_0 l0_0.length c0_0,.bool a0_1]] w fun e w' => e = .returned (.int .i64 r) ∧ Below w.heap.size w w':=by
 have hu24:=Try.underlying24
 have HR0_0:=Aside0.mk hr0_0
 have HC0_0:=Aside0.mk hc0_0
 clear hr0_0 hc0_0
 have HB:=Aside0.mk (Below.refl w.heap.size w)
 have H : ((table_may.f k l0_0).bind fun t236 => (if t236 = true then (some 0) else (some 1))) = some r:=h
 clear h
 replace H:=Option.bind_eq_some_iff.mp H
 obtain ⟨t236,A20,H⟩:=H
 replace H : (if t236 = true then (some 0) else (some 1)) = some r:=H
 have A2:=Aside0.mk A20
 clear A20
 by_cases c3 : t236 = true
 ·subst c3
  have H1 : (some 0) = some r:=by rw [if_pos rfl] at H;exact H
  clear H
  have H:=H1
  clear H1
  obtain rfl:=Option.some.inj H
  go_enter Try.func19,Try.ntmps19
  go_wp2_with (first|((with_reducible refine gate_dst (N:=1) rfl ?_);refine zb (N:=1) (cs:=#[.slice A0_0 l0_0.length c0_0,.bool a0_1]) (t:=24) ?_;intro G235 hg w4 hbox hb;have K235:=Aside0.mk (hbox);have GW235:=zN HB hg;have GE235:=zN HB hg;replace HB:=zS HB hb;clear hb hbox hg;have hcz5_0 : w4.cell? ⟨G235,0,none⟩ = some (.slice A0_0 l0_0.length c0_0):=zk K235 0;have hcz5_1 : w4.cell? ⟨G235,1,none⟩ = some (.bool a0_1):=zk K235 1;have hfz5_0:=bF K235.1 0;have hfz5_1:=bF K235.1 1)|((with_reducible refine gate_callee (f:=45) rfl ?_);refine zg (some 5) Try.func45 #[.slice A0_0 l0_0.length c0_0] ?_;(with_reducible refine (table_may.calls k _ _ l0_0 true _ ?side1 ?side2 A2.out).mono ?_);(case side1 => exact zC (Kd.C_below HR0_0.out HB.1));(case side2 => exact HC0_0.out);rintro e w6 ⟨rfl,hb⟩;refine ⟨_,rfl,?_⟩;replace K235:=zB K235 hb;replace HB:=zS HB hb;(try clear hb)))
  go_ret
  exact ⟨by first|rfl|(simp [errW_none,errW_some] <;> rfl)|(simp [*,errW_none,errW_some] <;> rfl),zH HB⟩
 ·replace c3:=Bool.eq_false_iff.mpr c3
  subst c3
  have H1 : (some 1) = some r:=by rw [if_neg (show ¬ (false = true) by decide)] at H;exact H
  clear H
  have H:=H1
  clear H1
  obtain rfl:=Option.some.inj H
  go_enter Try.func19,Try.ntmps19
  go_wp2_with (first|((with_reducible refine gate_dst (N:=1) rfl ?_);refine zb (N:=1) (cs:=#[.slice A0_0 l0_0.length c0_0,.bool a0_1]) (t:=24) ?_;intro G235 hg w7 hbox hb;have K235:=Aside0.mk (hbox);have GW235:=zN HB hg;have GE235:=zN HB hg;replace HB:=zS HB hb;clear hb hbox hg;have hcz8_0 : w7.cell? ⟨G235,0,none⟩ = some (.slice A0_0 l0_0.length c0_0):=zk K235 0;have hcz8_1 : w7.cell? ⟨G235,1,none⟩ = some (.bool a0_1):=zk K235 1;have hfz8_0:=bF K235.1 0;have hfz8_1:=bF K235.1 1)|((with_reducible refine gate_callee (f:=45) rfl ?_);refine zg (some 5) Try.func45 #[.slice A0_0 l0_0.length c0_0] ?_;(with_reducible refine (table_may.calls k _ _ l0_0 false _ ?side1 ?side2 A2.out).mono ?_);(case side1 => exact zC (Kd.C_below HR0_0.out HB.1));(case side2 => exact HC0_0.out);rintro e w9 ⟨rfl,hb⟩;refine ⟨_,rfl,?_⟩;replace K235:=zB K235 hb;replace HB:=zS HB hb;(try clear hb)))
  go_ret
  exact ⟨by first|rfl|(simp [errW_none,errW_some] <;> rfl)|(simp [*,errW_none,errW_some] <;> rfl),zH HB⟩

end Go.Proofs.Ytgmjlhpigfaicaa.XA
