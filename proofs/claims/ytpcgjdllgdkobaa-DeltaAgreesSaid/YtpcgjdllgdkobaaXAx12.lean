/- Go functions of this seat as Lean functions, with proofs that the calls come to them. (Written by xprint.py, a program of this session, over the kit's print.) -/
import Derived.Test.YtpcgjdllgdkobaaXAx0
namespace Go.Proofs.Ytpcgjdllgdkobaa.XA
open Go.RowKit Go.Proofs.YtpcgjdllgdkobaaW.PrintWords Go.Proofs.YtpcgjdllgdkobaaW.PrintLast Go.Proofs.YtpcgjdllgdkobaaW.PrintMore
attribute [local go_sem] max2_int min2_int max_two min_two max_three min_three max_four min_four   -- for this text's walks alone
set_option linter.unusedVariables false
set_option linter.unusedSimpArgs false
open List renaming setIfInBounds_toArray → xA, set_cons_zero → xB, set_cons_succ → xC
open Go.Proofs.YtpcgjdllgdkobaaW.PrintWords renaming blk_drewN → bN, blk_drew → bD, blk_alloc → bA, below_set → bS, blk_frozen → bF, blk_cell → bC, cell_far → cF, blk_far → bZ, blk_below → bB, pw_below_drewN → bwN, below_drew1 → bw1, below_alloc → bwA
open Go.Proofs.YtpcgjdllgdkobaaW.PrintZ
open Bool renaming true → T,false → F

/-! ### beaconref06_Before: function 50 -/
def beaconref06_Before.f (a0_0 : Int) (a0_1 : Int) (a0_2 : Nat) (a0_3 : Nat) (a0_4 : Int) (a1_0 : Int) (a1_1 : Int) (a1_2 : Nat) (a1_3 : Nat) (a1_4 : Int) : Option (Bool) := if a0_1 < a1_1 then (some true) else (if a0_1 = a1_1 then (some (decide (a0_0 < a1_0))) else (some false))
set_option maxHeartbeats 8000000 in
set_option maxRecDepth 100000 in
theorem beaconref06_Before.calls (a0_0 : Int) (a0_1 : Int) (a0_2 : Nat) (a0_3 : Nat) (a0_4 : Int) (a1_0 : Int) (a1_1 : Int) (a1_2 : Nat) (a1_3 : Nat) (a1_4 : Int) (r : Bool) (w : World) (h : beaconref06_Before.f a0_0 a0_1 a0_2 a0_3 a0_4 a1_0 a1_1 a1_2 a1_3 a1_4 = some r) :
  Calls Try.prog 50 #[.agg #[.int .i64 a0_0,.int .i64 a0_1,.float .f64 a0_2,.float .f64 a0_3,.int .i64 a0_4],.agg #[.int .i64 a1_0,.int .i64 a1_1,.float .f64 a1_2,.float .f64 a1_3,.int .i64 a1_4]] w fun e w' => e = .returned (.bool r) ∧ Below w.heap.size w w':=by
 have hu61:=Try.underlying61;have HB:=zA (Below.refl w.heap.size w);have H : (if a0_1 < a1_1 then (some true) else (if a0_1 = a1_1 then (some (decide (a0_0 < a1_0))) else (some false))) = some r:=h;clear h;by_cases c3 : a0_1 < a1_1
 ·rw [if_pos c3] at H;have c3b0 : decide (a0_1 < a1_1) = true:=decide_eq_true c3;clear c3;obtain rfl:=Option.some.inj H;go_enter Try.func50,Try.ntmps50
  go_wp2_with (first|((with_reducible refine gate_dst (N:=2) rfl ?_);refine zb (N:=2) (cs:=#[.int .i64 a0_0,.int .i64 a0_1,.float .f64 a0_2,.float .f64 a0_3,.int .i64 a0_4]) (t:=61) ?_;intro G189 hg w4 hbox hb;have K189:=zA (hbox);have GW189:=zN HB hg;have GE189:=zN HB hg;replace HB:=zS HB hb;clear hb hbox hg)|((with_reducible refine gate_dst (N:=3) rfl ?_);refine zb (N:=3) (cs:=#[.int .i64 a1_0,.int .i64 a1_1,.float .f64 a1_2,.float .f64 a1_3,.int .i64 a1_4]) (t:=61) ?_;intro G190 hg w5 hbox hb;have K190:=zA (hbox);have GW190:=zN HB hg;have GE190:=zN HB hg;replace HB:=zS HB hb;have NB189_190:=zL K189 hg;have NB190_189:=zG K189 hg;replace K189:=zB K189 hb;clear hb hbox hg;have:=NB189_190.1;have:=NB190_189.1;obtain ⟨_,_,_,_,_,_,_,_,_,_⟩:=zc5 K189;obtain ⟨_,_,_,_,_,_,_,_,_,_⟩:=zc5 K190))
  go_ret
  exact ⟨zE,zH HB⟩
 ·rw [if_neg c3] at H;have c3b0 : decide (a0_1 < a1_1) = false:=decide_eq_false c3;clear c3;by_cases c9 : a0_1 = a1_1
  ·rw [if_pos c9] at H;have c9b0 : (a0_1 == a1_1) = true:=beq_iff_eq.mpr c9;have c9b1 : (a0_1 != a1_1) = false:=bne_eq_false_iff_eq.mpr c9;clear c9;obtain rfl:=Option.some.inj H;go_enter Try.func50,Try.ntmps50
   go_wp2_with (first|((with_reducible refine gate_dst (N:=2) rfl ?_);refine zb (N:=2) (cs:=#[.int .i64 a0_0,.int .i64 a0_1,.float .f64 a0_2,.float .f64 a0_3,.int .i64 a0_4]) (t:=61) ?_;intro G189 hg w10 hbox hb;have K189:=zA (hbox);have GW189:=zN HB hg;have GE189:=zN HB hg;replace HB:=zS HB hb;clear hb hbox hg)|((with_reducible refine gate_dst (N:=3) rfl ?_);refine zb (N:=3) (cs:=#[.int .i64 a1_0,.int .i64 a1_1,.float .f64 a1_2,.float .f64 a1_3,.int .i64 a1_4]) (t:=61) ?_;intro G190 hg w11 hbox hb;have K190:=zA (hbox);have GW190:=zN HB hg;have GE190:=zN HB hg;replace HB:=zS HB hb;have NB189_190:=zL K189 hg;have NB190_189:=zG K189 hg;replace K189:=zB K189 hb;clear hb hbox hg;have:=NB189_190.1;have:=NB190_189.1;obtain ⟨_,_,_,_,_,_,_,_,_,_⟩:=zc5 K189;obtain ⟨_,_,_,_,_,_,_,_,_,_⟩:=zc5 K190))
   go_ret
   exact ⟨zE,zH HB⟩
  ·rw [if_neg c9] at H;have c9b0 : (a0_1 == a1_1) = false:=beq_eq_false_iff_ne.mpr c9;have c9b1 : (a0_1 != a1_1) = true:=bne_iff_ne.mpr c9;obtain rfl:=Option.some.inj H;go_enter Try.func50,Try.ntmps50
   go_wp2_with (first|((with_reducible refine gate_dst (N:=2) rfl ?_);refine zb (N:=2) (cs:=#[.int .i64 a0_0,.int .i64 a0_1,.float .f64 a0_2,.float .f64 a0_3,.int .i64 a0_4]) (t:=61) ?_;intro G189 hg w15 hbox hb;have K189:=zA (hbox);have GW189:=zN HB hg;have GE189:=zN HB hg;replace HB:=zS HB hb;clear hb hbox hg)|((with_reducible refine gate_dst (N:=3) rfl ?_);refine zb (N:=3) (cs:=#[.int .i64 a1_0,.int .i64 a1_1,.float .f64 a1_2,.float .f64 a1_3,.int .i64 a1_4]) (t:=61) ?_;intro G190 hg w16 hbox hb;have K190:=zA (hbox);have GW190:=zN HB hg;have GE190:=zN HB hg;replace HB:=zS HB hb;have NB189_190:=zL K189 hg;have NB190_189:=zG K189 hg;replace K189:=zB K189 hb;clear hb hbox hg;have:=NB189_190.1;have:=NB190_189.1;obtain ⟨_,_,_,_,_,_,_,_,_,_⟩:=zc5 K189;obtain ⟨_,_,_,_,_,_,_,_,_,_⟩:=zc5 K190))
   go_ret
   exact ⟨zE,zH HB⟩

end Go.Proofs.Ytpcgjdllgdkobaa.XA
