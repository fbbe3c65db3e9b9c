/- Go functions of this seat as Lean functions, with proofs that the calls come to them. (Written by xprint.py, a program of this session, over the kit's print.) -/
import Derived.Test.YtajejidnidomgaaXRx0
import Derived.Test.YtajejidnidomgaaXRx1
namespace Go.Proofs.Ytajejidnidomgaa.XR
open Go.RowKit Go.Proofs.YtajejidnidomgaaW.PrintWords Go.Proofs.YtajejidnidomgaaW.PrintLast Go.Proofs.YtajejidnidomgaaW.PrintMore
attribute [local go_sem] max2_int min2_int max_two min_two max_three min_three max_four min_four   -- for this text's walks alone
set_option linter.unusedVariables false
set_option linter.unusedSimpArgs false
open Go.Proofs.YtajejidnidomgaaW.PrintWords renaming blk_drewN → bN, blk_drew → bD, blk_alloc → bA, below_set → bS, blk_frozen → bF, blk_cell → bC, cell_far → cF, blk_far → bZ, blk_below → bB, pw_below_drewN → bwN, below_drew1 → bw1, below_alloc → bwA

attribute [local go_sem high] eqA24
/-! ### beaconref01_Same: function 17 -/
def beaconref01_Same.f (a0 : Nat) (a1 : Nat) : Option (Bool) := some ((fbits a0) == (fbits a1))
set_option maxHeartbeats 2500000 in
set_option maxRecDepth 100000 in
theorem beaconref01_Same.calls (a0 : Nat) (a1 : Nat) (r : Bool) (w : World) (h : beaconref01_Same.f a0 a1 = some r) :
  Calls Try.prog 17 #[.float .f64 a0,.float .f64 a1] w fun e w' => e = .returned (.bool r) ∧ Drawn0 w w':=by
 have H : (some ((fbits a0) == (fbits a1))) = some r:=h
 clear h
 obtain rfl:=Option.some.inj H
 go_enter Try.func17,Try.ntmps17
 go_wp2
 go_ret
 exact ⟨by first|rfl|(simp;done)|(simp [*];done),by repeat (first|exact Drawn0.refl _|apply Drawn0.step)⟩

/-! ### beaconref05_Same: function 11 -/
def beaconref05_Same.f (a0_0 : Int) (a0_1 : Nat) (a0_2 : Nat) (a1_0 : Int) (a1_1 : Nat) (a1_2 : Nat) : Option (Bool) := if a0_0 = a1_0 then ((beaconref01_Same.f a0_1 a1_1).bind fun t103 => (if t103 = true then ((beaconref01_Same.f a0_2 a1_2).bind fun t104 => (some t104)) else (some false))) else (some false)
set_option maxHeartbeats 2500000 in
set_option maxRecDepth 100000 in
theorem beaconref05_Same.calls (a0_0 : Int) (a0_1 : Nat) (a0_2 : Nat) (a1_0 : Int) (a1_1 : Nat) (a1_2 : Nat) (r : Bool) (w : World) (h : beaconref05_Same.f a0_0 a0_1 a0_2 a1_0 a1_1 a1_2 = some r) :
  Calls Try.prog 11 #[.agg #[.int .i64 a0_0,.float .f64 a0_1,.float .f64 a0_2],.agg #[.int .i64 a1_0,.float .f64 a1_1,.float .f64 a1_2]] w fun e w' => e = .returned (.bool r) ∧ Below w.heap.size w w':=by
 have hu24:=Try.underlying24
 have HB:=Aside0.mk (Below.refl w.heap.size w)
 have H : (if a0_0 = a1_0 then ((beaconref01_Same.f a0_1 a1_1).bind fun t103 => (if t103 = true then ((beaconref01_Same.f a0_2 a1_2).bind fun t104 => (some t104)) else (some false))) else (some false)) = some r:=h
 clear h
 by_cases c3 : a0_0 = a1_0
 ·rw [if_pos c3] at H
  have c3b0 : (a0_0 == a1_0) = true:=beq_iff_eq.mpr c3
  have c3b1 : (a0_0 != a1_0) = false:=bne_eq_false_iff_eq.mpr c3
  clear c3
  replace H:=Option.bind_eq_some_iff.mp H
  obtain ⟨t103,A40,H⟩:=H
  replace H : (if t103 = true then ((beaconref01_Same.f a0_2 a1_2).bind fun t104 => (some t104)) else (some false)) = some r:=H
  have A4:=Aside0.mk A40
  clear A40
  by_cases c5 : t103 = true
  ·subst c5
   have H1 : ((beaconref01_Same.f a0_2 a1_2).bind fun t104 => (some t104)) = some r:=by rw [if_pos rfl] at H;exact H
   clear H
   have H:=H1
   clear H1
   replace H:=Option.bind_eq_some_iff.mp H
   obtain ⟨t104,A60,H⟩:=H
   replace H : (some t104) = some r:=H
   have A6:=Aside0.mk A60
   clear A60
   obtain rfl:=Option.some.inj H
   go_enter Try.func11,Try.ntmps11
   go_wp2_with (first|((with_reducible refine gate_dst (N:=2) rfl ?_);refine box_event ?hg (N:=2) ?hd (cs:=#[.int .i64 a0_0,.float .f64 a0_1,.float .f64 a0_2]) (t:=24) ?hr ?_;(case hd => rfl);(case hg => rfl);(case hr => first|(go_simp;done)|(go_simp;rfl));intro G101 hg w7 hbox hb;have n0_:=Aside0.mk (below_step (by repeat (first|(with_reducible first|exact HB.1|apply bwA|apply bwN|apply bw1)|exact HB.1)) hb);have n1_:=Aside0.mk (hbox);have n2_:=Aside0.mk ((by rw [hg];exact (below_size (by repeat (first|(with_reducible first|exact HB.1|apply bwA|apply bwN|apply bw1)|exact HB.1))) : w.heap.size ≤ G101));have n3_:=Aside0.mk ((by rw [hg];exact (below_size (by repeat (first|(with_reducible first|exact HB.1|apply bwA|apply bwN|apply bw1)|exact HB.1))) : w.heap.size ≤ G101));clear HB;have HB:=n0_;have K101:=n1_;have GW101:=n2_;have GE101:=n3_;clear n0_ n1_ n2_ n3_;clear hb hbox hg)|((with_reducible refine gate_dst (N:=3) rfl ?_);refine box_event ?hg (N:=3) ?hd (cs:=#[.int .i64 a1_0,.float .f64 a1_1,.float .f64 a1_2]) (t:=24) ?hr ?_;(case hd => rfl);(case hg => rfl);(case hr => first|(go_simp;done)|(go_simp;rfl));intro G102 hg w8 hbox hb;have n0_:=Aside0.mk (bB (g:=G101) (o:=.cells #[.int .i64 a0_0,.float .f64 a0_1,.float .f64 a0_2] 24 (0,0)) (by (with_reducible repeat first|apply bN|apply bD|apply bA);exact K101.1) hb);have n1_:=Aside0.mk (below_step (by repeat (first|(with_reducible first|exact HB.1|apply bwA|apply bwN|apply bw1|refine bS ?_ GE101.1)|exact HB.1)) hb);have n2_:=Aside0.mk (hbox);have n3_:=Aside0.mk ((by rw [hg];exact (below_size (by repeat (first|(with_reducible first|exact HB.1|apply bwA|apply bwN|apply bw1|refine bS ?_ GE101.1)|exact HB.1))) : w.heap.size ≤ G102));have n4_:=Aside0.mk ((by rw [hg];exact (below_size (by repeat (first|(with_reducible first|exact HB.1|apply bwA|apply bwN|apply bw1|refine bS ?_ GE101.1)|exact HB.1))) : w.heap.size ≤ G102));have n5_:=Aside0.mk ((by rw [hg];exact Nat.ne_of_lt (blk_lt (g:=G101) (o:=.cells #[.int .i64 a0_0,.float .f64 a0_1,.float .f64 a0_2] 24 (0,0)) (by (with_reducible repeat first|apply bN|apply bD|apply bA);exact K101.1)) : G101 ≠ G102));have n6_:=Aside0.mk ((by rw [hg];exact Nat.ne_of_gt (blk_lt (g:=G101) (o:=.cells #[.int .i64 a0_0,.float .f64 a0_1,.float .f64 a0_2] 24 (0,0)) (by (with_reducible repeat first|apply bN|apply bD|apply bA);exact K101.1)) : G102 ≠ G101));clear K101;clear HB;have K101:=n0_;have HB:=n1_;have K102:=n2_;have GW102:=n3_;have GE102:=n4_;have NB101_102:=n5_;have NB102_101:=n6_;clear n0_ n1_ n2_ n3_ n4_ n5_ n6_;clear hb hbox hg;have hnb9:=NB101_102.1;have hnc9:=NB102_101.1;have hcz10_0 : w8.cell? ⟨G101,0,none⟩ = some (.int .i64 a0_0):=(bC K101.1 0).trans rfl;have hcz10_1 : w8.cell? ⟨G101,1,none⟩ = some (.float .f64 a0_1):=(bC K101.1 1).trans rfl;have hcz10_2 : w8.cell? ⟨G101,2,none⟩ = some (.float .f64 a0_2):=(bC K101.1 2).trans rfl;have hfz10_0:=bF K101.1 0;have hfz10_1:=bF K101.1 1;have hfz10_2:=bF K101.1 2;have hcz11_0 : w8.cell? ⟨G102,0,none⟩ = some (.int .i64 a1_0):=(bC K102.1 0).trans rfl;have hcz11_1 : w8.cell? ⟨G102,1,none⟩ = some (.float .f64 a1_1):=(bC K102.1 1).trans rfl;have hcz11_2 : w8.cell? ⟨G102,2,none⟩ = some (.float .f64 a1_2):=(bC K102.1 2).trans rfl;have hfz11_0:=bF K102.1 0;have hfz11_1:=bF K102.1 1;have hfz11_2:=bF K102.1 2)|(go_at_call 17;(with_reducible refine (beaconref01_Same.calls a0_1 a1_1 true _ A4.out).mono ?_);rintro e w' ⟨rfl,⟨nd,rfl⟩⟩)|(go_at_call 17;(with_reducible refine (beaconref01_Same.calls a0_2 a1_2 t104 _ A6.out).mono ?_);rintro e w' ⟨rfl,⟨nd,rfl⟩⟩))
   go_ret
   exact ⟨by first|rfl|(simp [errW_none,errW_some] <;> rfl)|(simp [*,errW_none,errW_some] <;> rfl),by repeat (first|(with_reducible first|exact HB.1|apply bwA|apply bwN|apply bw1|refine bS ?_ GE101.1|refine bS ?_ GE102.1)|exact HB.1)⟩
  ·replace c5:=Bool.eq_false_iff.mpr c5
   subst c5
   have H1 : (some false) = some r:=by rw [if_neg (show ¬ (false = true) by decide)] at H;exact H
   clear H
   have H:=H1
   clear H1
   obtain rfl:=Option.some.inj H
   go_enter Try.func11,Try.ntmps11
   go_wp2_with (first|((with_reducible refine gate_dst (N:=2) rfl ?_);refine box_event ?hg (N:=2) ?hd (cs:=#[.int .i64 a0_0,.float .f64 a0_1,.float .f64 a0_2]) (t:=24) ?hr ?_;(case hd => rfl);(case hg => rfl);(case hr => first|(go_simp;done)|(go_simp;rfl));intro G101 hg w12 hbox hb;have n0_:=Aside0.mk (below_step (by repeat (first|(with_reducible first|exact HB.1|apply bwA|apply bwN|apply bw1)|exact HB.1)) hb);have n1_:=Aside0.mk (hbox);have n2_:=Aside0.mk ((by rw [hg];exact (below_size (by repeat (first|(with_reducible first|exact HB.1|apply bwA|apply bwN|apply bw1)|exact HB.1))) : w.heap.size ≤ G101));have n3_:=Aside0.mk ((by rw [hg];exact (below_size (by repeat (first|(with_reducible first|exact HB.1|apply bwA|apply bwN|apply bw1)|exact HB.1))) : w.heap.size ≤ G101));clear HB;have HB:=n0_;have K101:=n1_;have GW101:=n2_;have GE101:=n3_;clear n0_ n1_ n2_ n3_;clear hb hbox hg)|((with_reducible refine gate_dst (N:=3) rfl ?_);refine box_event ?hg (N:=3) ?hd (cs:=#[.int .i64 a1_0,.float .f64 a1_1,.float .f64 a1_2]) (t:=24) ?hr ?_;(case hd => rfl);(case hg => rfl);(case hr => first|(go_simp;done)|(go_simp;rfl));intro G102 hg w13 hbox hb;have n0_:=Aside0.mk (bB (g:=G101) (o:=.cells #[.int .i64 a0_0,.float .f64 a0_1,.float .f64 a0_2] 24 (0,0)) (by (with_reducible repeat first|apply bN|apply bD|apply bA);exact K101.1) hb);have n1_:=Aside0.mk (below_step (by repeat (first|(with_reducible first|exact HB.1|apply bwA|apply bwN|apply bw1|refine bS ?_ GE101.1)|exact HB.1)) hb);have n2_:=Aside0.mk (hbox);have n3_:=Aside0.mk ((by rw [hg];exact (below_size (by repeat (first|(with_reducible first|exact HB.1|apply bwA|apply bwN|apply bw1|refine bS ?_ GE101.1)|exact HB.1))) : w.heap.size ≤ G102));have n4_:=Aside0.mk ((by rw [hg];exact (below_size (by repeat (first|(with_reducible first|exact HB.1|apply bwA|apply bwN|apply bw1|refine bS ?_ GE101.1)|exact HB.1))) : w.heap.size ≤ G102));have n5_:=Aside0.mk ((by rw [hg];exact Nat.ne_of_lt (blk_lt (g:=G101) (o:=.cells #[.int .i64 a0_0,.float .f64 a0_1,.float .f64 a0_2] 24 (0,0)) (by (with_reducible repeat first|apply bN|apply bD|apply bA);exact K101.1)) : G101 ≠ G102));have n6_:=Aside0.mk ((by rw [hg];exact Nat.ne_of_gt (blk_lt (g:=G101) (o:=.cells #[.int .i64 a0_0,.float .f64 a0_1,.float .f64 a0_2] 24 (0,0)) (by (with_reducible repeat first|apply bN|apply bD|apply bA);exact K101.1)) : G102 ≠ G101));clear K101;clear HB;have K101:=n0_;have HB:=n1_;have K102:=n2_;have GW102:=n3_;have GE102:=n4_;have NB101_102:=n5_;have NB102_101:=n6_;clear n0_ n1_ n2_ n3_ n4_ n5_ n6_;clear hb hbox hg;have hnb14:=NB101_102.1;have hnc14:=NB102_101.1;have hcz15_0 : w13.cell? ⟨G101,0,none⟩ = some (.int .i64 a0_0):=(bC K101.1 0).trans rfl;have hcz15_1 : w13.cell? ⟨G101,1,none⟩ = some (.float .f64 a0_1):=(bC K101.1 1).trans rfl;have hcz15_2 : w13.cell? ⟨G101,2,none⟩ = some (.float .f64 a0_2):=(bC K101.1 2).trans rfl;have hfz15_0:=bF K101.1 0;have hfz15_1:=bF K101.1 1;have hfz15_2:=bF K101.1 2;have hcz16_0 : w13.cell? ⟨G102,0,none⟩ = some (.int .i64 a1_0):=(bC K102.1 0).trans rfl;have hcz16_1 : w13.cell? ⟨G102,1,none⟩ = some (.float .f64 a1_1):=(bC K102.1 1).trans rfl;have hcz16_2 : w13.cell? ⟨G102,2,none⟩ = some (.float .f64 a1_2):=(bC K102.1 2).trans rfl;have hfz16_0:=bF K102.1 0;have hfz16_1:=bF K102.1 1;have hfz16_2:=bF K102.1 2)|(go_at_call 17;(with_reducible refine (beaconref01_Same.calls a0_1 a1_1 false _ A4.out).mono ?_);rintro e w' ⟨rfl,⟨nd,rfl⟩⟩))
   go_ret
   exact ⟨by first|rfl|(simp [errW_none,errW_some] <;> rfl)|(simp [*,errW_none,errW_some] <;> rfl),by repeat (first|(with_reducible first|exact HB.1|apply bwA|apply bwN|apply bw1|refine bS ?_ GE101.1|refine bS ?_ GE102.1)|exact HB.1)⟩
 ·rw [if_neg c3] at H
  have c3b0 : (a0_0 == a1_0) = false:=beq_eq_false_iff_ne.mpr c3
  have c3b1 : (a0_0 != a1_0) = true:=bne_iff_ne.mpr c3
  obtain rfl:=Option.some.inj H
  go_enter Try.func11,Try.ntmps11
  go_wp2_with (first|((with_reducible refine gate_dst (N:=2) rfl ?_);refine box_event ?hg (N:=2) ?hd (cs:=#[.int .i64 a0_0,.float .f64 a0_1,.float .f64 a0_2]) (t:=24) ?hr ?_;(case hd => rfl);(case hg => rfl);(case hr => first|(go_simp;done)|(go_simp;rfl));intro G101 hg w17 hbox hb;have n0_:=Aside0.mk (below_step (by repeat (first|(with_reducible first|exact HB.1|apply bwA|apply bwN|apply bw1)|exact HB.1)) hb);have n1_:=Aside0.mk (hbox);have n2_:=Aside0.mk ((by rw [hg];exact (below_size (by repeat (first|(with_reducible first|exact HB.1|apply bwA|apply bwN|apply bw1)|exact HB.1))) : w.heap.size ≤ G101));have n3_:=Aside0.mk ((by rw [hg];exact (below_size (by repeat (first|(with_reducible first|exact HB.1|apply bwA|apply bwN|apply bw1)|exact HB.1))) : w.heap.size ≤ G101));clear HB;have HB:=n0_;have K101:=n1_;have GW101:=n2_;have GE101:=n3_;clear n0_ n1_ n2_ n3_;clear hb hbox hg)|((with_reducible refine gate_dst (N:=3) rfl ?_);refine box_event ?hg (N:=3) ?hd (cs:=#[.int .i64 a1_0,.float .f64 a1_1,.float .f64 a1_2]) (t:=24) ?hr ?_;(case hd => rfl);(case hg => rfl);(case hr => first|(go_simp;done)|(go_simp;rfl));intro G102 hg w18 hbox hb;have n0_:=Aside0.mk (bB (g:=G101) (o:=.cells #[.int .i64 a0_0,.float .f64 a0_1,.float .f64 a0_2] 24 (0,0)) (by (with_reducible repeat first|apply bN|apply bD|apply bA);exact K101.1) hb);have n1_:=Aside0.mk (below_step (by repeat (first|(with_reducible first|exact HB.1|apply bwA|apply bwN|apply bw1|refine bS ?_ GE101.1)|exact HB.1)) hb);have n2_:=Aside0.mk (hbox);have n3_:=Aside0.mk ((by rw [hg];exact (below_size (by repeat (first|(with_reducible first|exact HB.1|apply bwA|apply bwN|apply bw1|refine bS ?_ GE101.1)|exact HB.1))) : w.heap.size ≤ G102));have n4_:=Aside0.mk ((by rw [hg];exact (below_size (by repeat (first|(with_reducible first|exact HB.1|apply bwA|apply bwN|apply bw1|refine bS ?_ GE101.1)|exact HB.1))) : w.heap.size ≤ G102));have n5_:=Aside0.mk ((by rw [hg];exact Nat.ne_of_lt (blk_lt (g:=G101) (o:=.cells #[.int .i64 a0_0,.float .f64 a0_1,.float .f64 a0_2] 24 (0,0)) (by (with_reducible repeat first|apply bN|apply bD|apply bA);exact K101.1)) : G101 ≠ G102));have n6_:=Aside0.mk ((by rw [hg];exact Nat.ne_of_gt (blk_lt (g:=G101) (o:=.cells #[.int .i64 a0_0,.float .f64 a0_1,.float .f64 a0_2] 24 (0,0)) (by (with_reducible repeat first|apply bN|apply bD|apply bA);exact K101.1)) : G102 ≠ G101));clear K101;clear HB;have K101:=n0_;have HB:=n1_;have K102:=n2_;have GW102:=n3_;have GE102:=n4_;have NB101_102:=n5_;have NB102_101:=n6_;clear n0_ n1_ n2_ n3_ n4_ n5_ n6_;clear hb hbox hg;have hnb19:=NB101_102.1;have hnc19:=NB102_101.1;have hcz20_0 : w18.cell? ⟨G101,0,none⟩ = some (.int .i64 a0_0):=(bC K101.1 0).trans rfl;have hcz20_1 : w18.cell? ⟨G101,1,none⟩ = some (.float .f64 a0_1):=(bC K101.1 1).trans rfl;have hcz20_2 : w18.cell? ⟨G101,2,none⟩ = some (.float .f64 a0_2):=(bC K101.1 2).trans rfl;have hfz20_0:=bF K101.1 0;have hfz20_1:=bF K101.1 1;have hfz20_2:=bF K101.1 2;have hcz21_0 : w18.cell? ⟨G102,0,none⟩ = some (.int .i64 a1_0):=(bC K102.1 0).trans rfl;have hcz21_1 : w18.cell? ⟨G102,1,none⟩ = some (.float .f64 a1_1):=(bC K102.1 1).trans rfl;have hcz21_2 : w18.cell? ⟨G102,2,none⟩ = some (.float .f64 a1_2):=(bC K102.1 2).trans rfl;have hfz21_0:=bF K102.1 0;have hfz21_1:=bF K102.1 1;have hfz21_2:=bF K102.1 2))
  go_ret
  exact ⟨by first|rfl|(simp [errW_none,errW_some] <;> rfl)|(simp [*,errW_none,errW_some] <;> rfl),by repeat (first|(with_reducible first|exact HB.1|apply bwA|apply bwN|apply bw1|refine bS ?_ GE101.1|refine bS ?_ GE102.1)|exact HB.1)⟩

/-! ### math_IsNaN: function 37 -/
def math_IsNaN.f (a0 : Nat) : Option (Bool) := some (!(feq a0 a0))
set_option maxHeartbeats 2500000 in
set_option maxRecDepth 100000 in
theorem math_IsNaN.calls (a0 : Nat) (r : Bool) (w : World) (h : math_IsNaN.f a0 = some r) :
  Calls Try.prog 37 #[.float .f64 a0] w fun e w' => e = .returned (.bool r) ∧ Drawn0 w w':=by
 have H : (some (!(feq a0 a0))) = some r:=h
 clear h
 obtain rfl:=Option.some.inj H
 go_enter Try.func37,Try.ntmps37
 go_wp2
 go_ret
 exact ⟨by first|rfl|(simp;done)|(simp [*];done),by repeat (first|exact Drawn0.refl _|apply Drawn0.step)⟩

/-! ### math_Abs: function 25 -/
def math_Abs.f (a0 : Nat) : Option (Nat) := some (ffrom (Go.bits .andNot .u64 (fbits a0) 9223372036854775808))
set_option maxHeartbeats 2500000 in
set_option maxRecDepth 100000 in
theorem math_Abs.calls (a0 : Nat) (r : Nat) (w : World) (h : math_Abs.f a0 = some r) :
  Calls Try.prog 25 #[.float .f64 a0] w fun e w' => e = .returned (.float .f64 r) ∧ Drawn0 w w':=by
 have H : (some (ffrom (Go.bits .andNot .u64 (fbits a0) 9223372036854775808))) = some r:=h
 clear h
 obtain rfl:=Option.some.inj H
 go_enter Try.func25,Try.ntmps25
 go_wp2
 go_ret
 exact ⟨by first|rfl|(simp;done)|(simp [*];done),by repeat (first|exact Drawn0.refl _|apply Drawn0.step)⟩

/-! ### math_IsInf: function 38 -/
def math_IsInf.f (a0 : Nat) (a1 : Int) : Option (Bool) := if a1 = 0 then ((math_Abs.f a0).bind fun t105 => (some (flt 9218868437227405311 t105))) else (if a1 < 0 then (some (flt 9218868437227405311 (fneg a0))) else (some (flt 9218868437227405311 a0)))
set_option maxHeartbeats 2500000 in
set_option maxRecDepth 100000 in
theorem math_IsInf.calls (a0 : Nat) (a1 : Int) (r : Bool) (w : World) (h : math_IsInf.f a0 a1 = some r) :
  Calls Try.prog 38 #[.float .f64 a0,.int .i64 a1] w fun e w' => e = .returned (.bool r) ∧ Drawn0 w w':=by
 have H : (if a1 = 0 then ((math_Abs.f a0).bind fun t105 => (some (flt 9218868437227405311 t105))) else (if a1 < 0 then (some (flt 9218868437227405311 (fneg a0))) else (some (flt 9218868437227405311 a0)))) = some r:=h
 clear h
 by_cases c3 : a1 = 0
 ·rw [if_pos c3] at H
  have c3b0 : (a1 == 0) = true:=beq_iff_eq.mpr c3
  have c3b1 : (a1 != 0) = false:=bne_eq_false_iff_eq.mpr c3
  clear c3
  replace H:=Option.bind_eq_some_iff.mp H
  obtain ⟨t105,A40,H⟩:=H
  replace H : (some (flt 9218868437227405311 t105)) = some r:=H
  have A4:=Aside0.mk A40
  clear A40
  obtain rfl:=Option.some.inj H
  go_enter Try.func38,Try.ntmps38
  go_wp2_with (first|((with_reducible refine gate_callee (f:=25) rfl ?_);refine goesL_ (some 8) rfl rfl Try.func25 (by kernel_rfl) rfl #[.float .f64 a0] rfl (by (try simp only [List.map_toArray,List.map_cons,List.map_nil]);first|done|rfl|(simp only [List.length_drop,List.length_take];rfl)) ?_;(with_reducible refine (math_Abs.calls a0 t105 _ A4.out).mono ?_);rintro e w' ⟨rfl,⟨nd,rfl⟩⟩;refine ⟨_,rfl,?_⟩))
  go_ret
  exact ⟨by first|rfl|(simp;done)|(simp [*];done),by repeat (first|exact Drawn0.refl _|apply Drawn0.step)⟩
 ·rw [if_neg c3] at H
  have c3b0 : (a1 == 0) = false:=beq_eq_false_iff_ne.mpr c3
  have c3b1 : (a1 != 0) = true:=bne_iff_ne.mpr c3
  by_cases c5 : a1 < 0
  ·rw [if_pos c5] at H
   have c5b0 : decide (a1 < 0) = true:=decide_eq_true c5
   clear c5
   obtain rfl:=Option.some.inj H
   go_enter Try.func38,Try.ntmps38
   go_wp2
   go_ret
   exact ⟨by first|rfl|(simp;done)|(simp [*];done),by repeat (first|exact Drawn0.refl _|apply Drawn0.step)⟩
  ·rw [if_neg c5] at H
   have c5b0 : decide (a1 < 0) = false:=decide_eq_false c5
   clear c5
   obtain rfl:=Option.some.inj H
   go_enter Try.func38,Try.ntmps38
   go_wp2
   go_ret
   exact ⟨by first|rfl|(simp;done)|(simp [*];done),by repeat (first|exact Drawn0.refl _|apply Drawn0.step)⟩

/-! ### gauge_finite: function 27 -/
def gauge_finite.f (a0 : Nat) : Option (Bool) := (math_IsNaN.f a0).bind fun t106 => (if t106 = true then (some false) else ((math_IsInf.f a0 0).bind fun t107 => (some (!t107))))
set_option maxHeartbeats 2500000 in
set_option maxRecDepth 100000 in
theorem gauge_finite.calls (a0 : Nat) (r : Bool) (w : World) (h : gauge_finite.f a0 = some r) :
  Calls Try.prog 27 #[.float .f64 a0] w fun e w' => e = .returned (.bool r) ∧ Drawn0 w w':=by
 have H : ((math_IsNaN.f a0).bind fun t106 => (if t106 = true then (some false) else ((math_IsInf.f a0 0).bind fun t107 => (some (!t107))))) = some r:=h
 clear h
 replace H:=Option.bind_eq_some_iff.mp H
 obtain ⟨t106,A20,H⟩:=H
 replace H : (if t106 = true then (some false) else ((math_IsInf.f a0 0).bind fun t107 => (some (!t107)))) = some r:=H
 have A2:=Aside0.mk A20
 clear A20
 by_cases c3 : t106 = true
 ·subst c3
  have H1 : (some false) = some r:=by rw [if_pos rfl] at H;exact H
  clear H
  have H:=H1
  clear H1
  obtain rfl:=Option.some.inj H
  go_enter Try.func27,Try.ntmps27
  go_wp2_with (first|((with_reducible refine gate_callee (f:=37) rfl ?_);refine goesL_ (some 4) rfl rfl Try.func37 (by kernel_rfl) rfl #[.float .f64 a0] rfl (by (try simp only [List.map_toArray,List.map_cons,List.map_nil]);first|done|rfl|(simp only [List.length_drop,List.length_take];rfl)) ?_;(with_reducible refine (math_IsNaN.calls a0 true _ A2.out).mono ?_);rintro e w' ⟨rfl,⟨nd,rfl⟩⟩;refine ⟨_,rfl,?_⟩))
  go_ret
  exact ⟨by first|rfl|(simp;done)|(simp [*];done),by repeat (first|exact Drawn0.refl _|apply Drawn0.step)⟩
 ·replace c3:=Bool.eq_false_iff.mpr c3
  subst c3
  have H1 : ((math_IsInf.f a0 0).bind fun t107 => (some (!t107))) = some r:=by rw [if_neg (show ¬ (false = true) by decide)] at H;exact H
  clear H
  have H:=H1
  clear H1
  replace H:=Option.bind_eq_some_iff.mp H
  obtain ⟨t107,A40,H⟩:=H
  replace H : (some (!t107)) = some r:=H
  have A4:=Aside0.mk A40
  clear A40
  obtain rfl:=Option.some.inj H
  go_enter Try.func27,Try.ntmps27
  go_wp2_with (first|((with_reducible refine gate_callee (f:=37) rfl ?_);refine goesL_ (some 4) rfl rfl Try.func37 (by kernel_rfl) rfl #[.float .f64 a0] rfl (by (try simp only [List.map_toArray,List.map_cons,List.map_nil]);first|done|rfl|(simp only [List.length_drop,List.length_take];rfl)) ?_;(with_reducible refine (math_IsNaN.calls a0 false _ A2.out).mono ?_);rintro e w' ⟨rfl,⟨nd,rfl⟩⟩;refine ⟨_,rfl,?_⟩)|(go_at_call 38;(with_reducible refine (math_IsInf.calls a0 0 t107 _ A4.out).mono ?_);rintro e w' ⟨rfl,⟨nd,rfl⟩⟩))
  go_ret
  exact ⟨by first|rfl|(simp;done)|(simp [*];done),by repeat (first|exact Drawn0.refl _|apply Drawn0.step)⟩

/-! ### math_Signbit: function 28 -/
def math_Signbit.f (a0 : Nat) : Option (Bool) := some (decide ((wrap64 (fbits a0)) < 0))
set_option maxHeartbeats 2500000 in
set_option maxRecDepth 100000 in
theorem math_Signbit.calls (a0 : Nat) (r : Bool) (w : World) (h : math_Signbit.f a0 = some r) :
  Calls Try.prog 28 #[.float .f64 a0] w fun e w' => e = .returned (.bool r) ∧ Drawn0 w w':=by
 have H : (some (decide ((wrap64 (fbits a0)) < 0))) = some r:=h
 clear h
 obtain rfl:=Option.some.inj H
 go_enter Try.func28,Try.ntmps28
 go_wp2
 go_ret
 exact ⟨by first|rfl|(simp;done)|(simp [*];done),by repeat (first|exact Drawn0.refl _|apply Drawn0.step)⟩

/-! ### gauge_Check: function 12 -/
def gauge_Check.f (a0_0 : Int) (a0_1 : Nat) (a0_2 : Nat) : Option (Int) := if a0_0 ≥ 0 then ((gauge_finite.f a0_1).bind fun t109 => (if t109 = true then ((gauge_finite.f a0_2).bind fun t110 => (if t110 = true then ((math_Signbit.f a0_1).bind fun t111 => (if t111 = true then (some 1) else ((math_Signbit.f a0_2).bind fun t112 => (if t112 = true then (some 1) else (if a0_0 = 0 then (if (feq a0_1 0) = true then (if (feq a0_2 0) = true then (some 0) else (some 1)) else (some 1)) else (some 0)))))) else (some 1))) else (some 1))) else (some 1)
set_option maxHeartbeats 2500000 in
set_option maxRecDepth 100000 in
theorem gauge_Check.calls (a0_0 : Int) (a0_1 : Nat) (a0_2 : Nat) (r : Int) (w : World) (h : gauge_Check.f a0_0 a0_1 a0_2 = some r) :
  Calls Try.prog 12 #[.agg #[.int .i64 a0_0,.float .f64 a0_1,.float .f64 a0_2]] w fun e w' => e = .returned (.int .i64 r) ∧ Below w.heap.size w w':=by
 have hu24:=Try.underlying24
 have HB:=Aside0.mk (Below.refl w.heap.size w)
 have H : (if a0_0 ≥ 0 then ((gauge_finite.f a0_1).bind fun t109 => (if t109 = true then ((gauge_finite.f a0_2).bind fun t110 => (if t110 = true then ((math_Signbit.f a0_1).bind fun t111 => (if t111 = true then (some 1) else ((math_Signbit.f a0_2).bind fun t112 => (if t112 = true then (some 1) else (if a0_0 = 0 then (if (feq a0_1 0) = true then (if (feq a0_2 0) = true then (some 0) else (some 1)) else (some 1)) else (some 0)))))) else (some 1))) else (some 1))) else (some 1)) = some r:=h
 clear h
 by_cases c2 : a0_0 ≥ 0
 ·rw [if_pos c2] at H
  have c2b0 : decide (0 ≤ a0_0) = true:=decide_eq_true c2
  clear c2
  replace H:=Option.bind_eq_some_iff.mp H
  obtain ⟨t109,A30,H⟩:=H
  replace H : (if t109 = true then ((gauge_finite.f a0_2).bind fun t110 => (if t110 = true then ((math_Signbit.f a0_1).bind fun t111 => (if t111 = true then (some 1) else ((math_Signbit.f a0_2).bind fun t112 => (if t112 = true then (some 1) else (if a0_0 = 0 then (if (feq a0_1 0) = true then (if (feq a0_2 0) = true then (some 0) else (some 1)) else (some 1)) else (some 0)))))) else (some 1))) else (some 1)) = some r:=H
  have A3:=Aside0.mk A30
  clear A30
  by_cases c4 : t109 = true
  ·subst c4
   have H1 : ((gauge_finite.f a0_2).bind fun t110 => (if t110 = true then ((math_Signbit.f a0_1).bind fun t111 => (if t111 = true then (some 1) else ((math_Signbit.f a0_2).bind fun t112 => (if t112 = true then (some 1) else (if a0_0 = 0 then (if (feq a0_1 0) = true then (if (feq a0_2 0) = true then (some 0) else (some 1)) else (some 1)) else (some 0)))))) else (some 1))) = some r:=by rw [if_pos rfl] at H;exact H
   clear H
   have H:=H1
   clear H1
   replace H:=Option.bind_eq_some_iff.mp H
   obtain ⟨t110,A50,H⟩:=H
   replace H : (if t110 = true then ((math_Signbit.f a0_1).bind fun t111 => (if t111 = true then (some 1) else ((math_Signbit.f a0_2).bind fun t112 => (if t112 = true then (some 1) else (if a0_0 = 0 then (if (feq a0_1 0) = true then (if (feq a0_2 0) = true then (some 0) else (some 1)) else (some 1)) else (some 0)))))) else (some 1)) = some r:=H
   have A5:=Aside0.mk A50
   clear A50
   by_cases c6 : t110 = true
   ·subst c6
    have H1 : ((math_Signbit.f a0_1).bind fun t111 => (if t111 = true then (some 1) else ((math_Signbit.f a0_2).bind fun t112 => (if t112 = true then (some 1) else (if a0_0 = 0 then (if (feq a0_1 0) = true then (if (feq a0_2 0) = true then (some 0) else (some 1)) else (some 1)) else (some 0)))))) = some r:=by rw [if_pos rfl] at H;exact H
    clear H
    have H:=H1
    clear H1
    replace H:=Option.bind_eq_some_iff.mp H
    obtain ⟨t111,A70,H⟩:=H
    replace H : (if t111 = true then (some 1) else ((math_Signbit.f a0_2).bind fun t112 => (if t112 = true then (some 1) else (if a0_0 = 0 then (if (feq a0_1 0) = true then (if (feq a0_2 0) = true then (some 0) else (some 1)) else (some 1)) else (some 0))))) = some r:=H
    have A7:=Aside0.mk A70
    clear A70
    by_cases c8 : t111 = true
    ·subst c8
     have H1 : (some 1) = some r:=by rw [if_pos rfl] at H;exact H
     clear H
     have H:=H1
     clear H1
     obtain rfl:=Option.some.inj H
     go_enter Try.func12,Try.ntmps12
     go_wp2_with (first|((with_reducible refine gate_dst (N:=1) rfl ?_);refine box_event ?hg (N:=1) ?hd (cs:=#[.int .i64 a0_0,.float .f64 a0_1,.float .f64 a0_2]) (t:=24) ?hr ?_;(case hd => rfl);(case hg => rfl);(case hr => first|(go_simp;done)|(go_simp;rfl));intro G108 hg w9 hbox hb;have n0_:=Aside0.mk (below_step (by repeat (first|(with_reducible first|exact HB.1|apply bwA|apply bwN|apply bw1)|exact HB.1)) hb);have n1_:=Aside0.mk (hbox);have n2_:=Aside0.mk ((by rw [hg];exact (below_size (by repeat (first|(with_reducible first|exact HB.1|apply bwA|apply bwN|apply bw1)|exact HB.1))) : w.heap.size ≤ G108));have n3_:=Aside0.mk ((by rw [hg];exact (below_size (by repeat (first|(with_reducible first|exact HB.1|apply bwA|apply bwN|apply bw1)|exact HB.1))) : w.heap.size ≤ G108));clear HB;have HB:=n0_;have K108:=n1_;have GW108:=n2_;have GE108:=n3_;clear n0_ n1_ n2_ n3_;clear hb hbox hg;have hcz10_0 : w9.cell? ⟨G108,0,none⟩ = some (.int .i64 a0_0):=(bC K108.1 0).trans rfl;have hcz10_1 : w9.cell? ⟨G108,1,none⟩ = some (.float .f64 a0_1):=(bC K108.1 1).trans rfl;have hcz10_2 : w9.cell? ⟨G108,2,none⟩ = some (.float .f64 a0_2):=(bC K108.1 2).trans rfl;have hfz10_0:=bF K108.1 0;have hfz10_1:=bF K108.1 1;have hfz10_2:=bF K108.1 2)|(go_at_call 27;(with_reducible refine (gauge_finite.calls a0_1 true _ A3.out).mono ?_);rintro e w' ⟨rfl,⟨nd,rfl⟩⟩)|(go_at_call 27;(with_reducible refine (gauge_finite.calls a0_2 true _ A5.out).mono ?_);rintro e w' ⟨rfl,⟨nd,rfl⟩⟩)|(go_at_call 28;(with_reducible refine (math_Signbit.calls a0_1 true _ A7.out).mono ?_);rintro e w' ⟨rfl,⟨nd,rfl⟩⟩))
     go_ret
     exact ⟨by first|rfl|(simp [errW_none,errW_some] <;> rfl)|(simp [*,errW_none,errW_some] <;> rfl),by repeat (first|(with_reducible first|exact HB.1|apply bwA|apply bwN|apply bw1|refine bS ?_ GE108.1)|exact HB.1)⟩
    ·replace c8:=Bool.eq_false_iff.mpr c8
     subst c8
     have H1 : ((math_Signbit.f a0_2).bind fun t112 => (if t112 = true then (some 1) else (if a0_0 = 0 then (if (feq a0_1 0) = true then (if (feq a0_2 0) = true then (some 0) else (some 1)) else (some 1)) else (some 0)))) = some r:=by rw [if_neg (show ¬ (false = true) by decide)] at H;exact H
     clear H
     have H:=H1
     clear H1
     replace H:=Option.bind_eq_some_iff.mp H
     obtain ⟨t112,A110,H⟩:=H
     replace H : (if t112 = true then (some 1) else (if a0_0 = 0 then (if (feq a0_1 0) = true then (if (feq a0_2 0) = true then (some 0) else (some 1)) else (some 1)) else (some 0))) = some r:=H
     have A11:=Aside0.mk A110
     clear A110
     by_cases c12 : t112 = true
     ·subst c12
      have H1 : (some 1) = some r:=by rw [if_pos rfl] at H;exact H
      clear H
      have H:=H1
      clear H1
      obtain rfl:=Option.some.inj H
      go_enter Try.func12,Try.ntmps12
      go_wp2_with (first|((with_reducible refine gate_dst (N:=1) rfl ?_);refine box_event ?hg (N:=1) ?hd (cs:=#[.int .i64 a0_0,.float .f64 a0_1,.float .f64 a0_2]) (t:=24) ?hr ?_;(case hd => rfl);(case hg => rfl);(case hr => first|(go_simp;done)|(go_simp;rfl));intro G108 hg w13 hbox hb;have n0_:=Aside0.mk (below_step (by repeat (first|(with_reducible first|exact HB.1|apply bwA|apply bwN|apply bw1)|exact HB.1)) hb);have n1_:=Aside0.mk (hbox);have n2_:=Aside0.mk ((by rw [hg];exact (below_size (by repeat (first|(with_reducible first|exact HB.1|apply bwA|apply bwN|apply bw1)|exact HB.1))) : w.heap.size ≤ G108));have n3_:=Aside0.mk ((by rw [hg];exact (below_size (by repeat (first|(with_reducible first|exact HB.1|apply bwA|apply bwN|apply bw1)|exact HB.1))) : w.heap.size ≤ G108));clear HB;have HB:=n0_;have K108:=n1_;have GW108:=n2_;have GE108:=n3_;clear n0_ n1_ n2_ n3_;clear hb hbox hg;have hcz14_0 : w13.cell? ⟨G108,0,none⟩ = some (.int .i64 a0_0):=(bC K108.1 0).trans rfl;have hcz14_1 : w13.cell? ⟨G108,1,none⟩ = some (.float .f64 a0_1):=(bC K108.1 1).trans rfl;have hcz14_2 : w13.cell? ⟨G108,2,none⟩ = some (.float .f64 a0_2):=(bC K108.1 2).trans rfl;have hfz14_0:=bF K108.1 0;have hfz14_1:=bF K108.1 1;have hfz14_2:=bF K108.1 2)|(go_at_call 27;(with_reducible refine (gauge_finite.calls a0_1 true _ A3.out).mono ?_);rintro e w' ⟨rfl,⟨nd,rfl⟩⟩)|(go_at_call 27;(with_reducible refine (gauge_finite.calls a0_2 true _ A5.out).mono ?_);rintro e w' ⟨rfl,⟨nd,rfl⟩⟩)|(go_at_call 28;(with_reducible refine (math_Signbit.calls a0_1 false _ A7.out).mono ?_);rintro e w' ⟨rfl,⟨nd,rfl⟩⟩)|(go_at_call 28;(with_reducible refine (math_Signbit.calls a0_2 true _ A11.out).mono ?_);rintro e w' ⟨rfl,⟨nd,rfl⟩⟩))
      go_ret
      exact ⟨by first|rfl|(simp [errW_none,errW_some] <;> rfl)|(simp [*,errW_none,errW_some] <;> rfl),by repeat (first|(with_reducible first|exact HB.1|apply bwA|apply bwN|apply bw1|refine bS ?_ GE108.1)|exact HB.1)⟩
     ·replace c12:=Bool.eq_false_iff.mpr c12
      subst c12
      have H1 : (if a0_0 = 0 then (if (feq a0_1 0) = true then (if (feq a0_2 0) = true then (some 0) else (some 1)) else (some 1)) else (some 0)) = some r:=by rw [if_neg (show ¬ (false = true) by decide)] at H;exact H
      clear H
      have H:=H1
      clear H1
      by_cases c15 : a0_0 = 0
      ·rw [if_pos c15] at H
       have c15b0 : (a0_0 == 0) = true:=beq_iff_eq.mpr c15
       have c15b1 : (a0_0 != 0) = false:=bne_eq_false_iff_eq.mpr c15
       clear c15
       by_cases c16 : (feq a0_1 0) = true
       ·rw [if_pos c16] at H
        have c16b0 : (feq a0_1 0) = true:=c16
        clear c16
        by_cases c17 : (feq a0_2 0) = true
        ·rw [if_pos c17] at H
         have c17b0 : (feq a0_2 0) = true:=c17
         clear c17
         obtain rfl:=Option.some.inj H
         go_enter Try.func12,Try.ntmps12
         go_wp2_with (first|((with_reducible refine gate_dst (N:=1) rfl ?_);refine box_event ?hg (N:=1) ?hd (cs:=#[.int .i64 a0_0,.float .f64 a0_1,.float .f64 a0_2]) (t:=24) ?hr ?_;(case hd => rfl);(case hg => rfl);(case hr => first|(go_simp;done)|(go_simp;rfl));intro G108 hg w18 hbox hb;have n0_:=Aside0.mk (below_step (by repeat (first|(with_reducible first|exact HB.1|apply bwA|apply bwN|apply bw1)|exact HB.1)) hb);have n1_:=Aside0.mk (hbox);have n2_:=Aside0.mk ((by rw [hg];exact (below_size (by repeat (first|(with_reducible first|exact HB.1|apply bwA|apply bwN|apply bw1)|exact HB.1))) : w.heap.size ≤ G108));have n3_:=Aside0.mk ((by rw [hg];exact (below_size (by repeat (first|(with_reducible first|exact HB.1|apply bwA|apply bwN|apply bw1)|exact HB.1))) : w.heap.size ≤ G108));clear HB;have HB:=n0_;have K108:=n1_;have GW108:=n2_;have GE108:=n3_;clear n0_ n1_ n2_ n3_;clear hb hbox hg;have hcz19_0 : w18.cell? ⟨G108,0,none⟩ = some (.int .i64 a0_0):=(bC K108.1 0).trans rfl;have hcz19_1 : w18.cell? ⟨G108,1,none⟩ = some (.float .f64 a0_1):=(bC K108.1 1).trans rfl;have hcz19_2 : w18.cell? ⟨G108,2,none⟩ = some (.float .f64 a0_2):=(bC K108.1 2).trans rfl;have hfz19_0:=bF K108.1 0;have hfz19_1:=bF K108.1 1;have hfz19_2:=bF K108.1 2)|(go_at_call 27;(with_reducible refine (gauge_finite.calls a0_1 true _ A3.out).mono ?_);rintro e w' ⟨rfl,⟨nd,rfl⟩⟩)|(go_at_call 27;(with_reducible refine (gauge_finite.calls a0_2 true _ A5.out).mono ?_);rintro e w' ⟨rfl,⟨nd,rfl⟩⟩)|(go_at_call 28;(with_reducible refine (math_Signbit.calls a0_1 false _ A7.out).mono ?_);rintro e w' ⟨rfl,⟨nd,rfl⟩⟩)|(go_at_call 28;(with_reducible refine (math_Signbit.calls a0_2 false _ A11.out).mono ?_);rintro e w' ⟨rfl,⟨nd,rfl⟩⟩))
         go_ret
         exact ⟨by first|rfl|(simp [errW_none,errW_some] <;> rfl)|(simp [*,errW_none,errW_some] <;> rfl),by repeat (first|(with_reducible first|exact HB.1|apply bwA|apply bwN|apply bw1|refine bS ?_ GE108.1)|exact HB.1)⟩
        ·rw [if_neg c17] at H
         have c17b0 : (feq a0_2 0) = false:=by simpa using c17
         clear c17
         obtain rfl:=Option.some.inj H
         go_enter Try.func12,Try.ntmps12
         go_wp2_with (first|((with_reducible refine gate_dst (N:=1) rfl ?_);refine box_event ?hg (N:=1) ?hd (cs:=#[.int .i64 a0_0,.float .f64 a0_1,.float .f64 a0_2]) (t:=24) ?hr ?_;(case hd => rfl);(case hg => rfl);(case hr => first|(go_simp;done)|(go_simp;rfl));intro G108 hg w20 hbox hb;have n0_:=Aside0.mk (below_step (by repeat (first|(with_reducible first|exact HB.1|apply bwA|apply bwN|apply bw1)|exact HB.1)) hb);have n1_:=Aside0.mk (hbox);have n2_:=Aside0.mk ((by rw [hg];exact (below_size (by repeat (first|(with_reducible first|exact HB.1|apply bwA|apply bwN|apply bw1)|exact HB.1))) : w.heap.size ≤ G108));have n3_:=Aside0.mk ((by rw [hg];exact (below_size (by repeat (first|(with_reducible first|exact HB.1|apply bwA|apply bwN|apply bw1)|exact HB.1))) : w.heap.size ≤ G108));clear HB;have HB:=n0_;have K108:=n1_;have GW108:=n2_;have GE108:=n3_;clear n0_ n1_ n2_ n3_;clear hb hbox hg;have hcz21_0 : w20.cell? ⟨G108,0,none⟩ = some (.int .i64 a0_0):=(bC K108.1 0).trans rfl;have hcz21_1 : w20.cell? ⟨G108,1,none⟩ = some (.float .f64 a0_1):=(bC K108.1 1).trans rfl;have hcz21_2 : w20.cell? ⟨G108,2,none⟩ = some (.float .f64 a0_2):=(bC K108.1 2).trans rfl;have hfz21_0:=bF K108.1 0;have hfz21_1:=bF K108.1 1;have hfz21_2:=bF K108.1 2)|(go_at_call 27;(with_reducible refine (gauge_finite.calls a0_1 true _ A3.out).mono ?_);rintro e w' ⟨rfl,⟨nd,rfl⟩⟩)|(go_at_call 27;(with_reducible refine (gauge_finite.calls a0_2 true _ A5.out).mono ?_);rintro e w' ⟨rfl,⟨nd,rfl⟩⟩)|(go_at_call 28;(with_reducible refine (math_Signbit.calls a0_1 false _ A7.out).mono ?_);rintro e w' ⟨rfl,⟨nd,rfl⟩⟩)|(go_at_call 28;(with_reducible refine (math_Signbit.calls a0_2 false _ A11.out).mono ?_);rintro e w' ⟨rfl,⟨nd,rfl⟩⟩))
         go_ret
         exact ⟨by first|rfl|(simp [errW_none,errW_some] <;> rfl)|(simp [*,errW_none,errW_some] <;> rfl),by repeat (first|(with_reducible first|exact HB.1|apply bwA|apply bwN|apply bw1|refine bS ?_ GE108.1)|exact HB.1)⟩
       ·rw [if_neg c16] at H
        have c16b0 : (feq a0_1 0) = false:=by simpa using c16
        clear c16
        obtain rfl:=Option.some.inj H
        go_enter Try.func12,Try.ntmps12
        go_wp2_with (first|((with_reducible refine gate_dst (N:=1) rfl ?_);refine box_event ?hg (N:=1) ?hd (cs:=#[.int .i64 a0_0,.float .f64 a0_1,.float .f64 a0_2]) (t:=24) ?hr ?_;(case hd => rfl);(case hg => rfl);(case hr => first|(go_simp;done)|(go_simp;rfl));intro G108 hg w22 hbox hb;have n0_:=Aside0.mk (below_step (by repeat (first|(with_reducible first|exact HB.1|apply bwA|apply bwN|apply bw1)|exact HB.1)) hb);have n1_:=Aside0.mk (hbox);have n2_:=Aside0.mk ((by rw [hg];exact (below_size (by repeat (first|(with_reducible first|exact HB.1|apply bwA|apply bwN|apply bw1)|exact HB.1))) : w.heap.size ≤ G108));have n3_:=Aside0.mk ((by rw [hg];exact (below_size (by repeat (first|(with_reducible first|exact HB.1|apply bwA|apply bwN|apply bw1)|exact HB.1))) : w.heap.size ≤ G108));clear HB;have HB:=n0_;have K108:=n1_;have GW108:=n2_;have GE108:=n3_;clear n0_ n1_ n2_ n3_;clear hb hbox hg;have hcz23_0 : w22.cell? ⟨G108,0,none⟩ = some (.int .i64 a0_0):=(bC K108.1 0).trans rfl;have hcz23_1 : w22.cell? ⟨G108,1,none⟩ = some (.float .f64 a0_1):=(bC K108.1 1).trans rfl;have hcz23_2 : w22.cell? ⟨G108,2,none⟩ = some (.float .f64 a0_2):=(bC K108.1 2).trans rfl;have hfz23_0:=bF K108.1 0;have hfz23_1:=bF K108.1 1;have hfz23_2:=bF K108.1 2)|(go_at_call 27;(with_reducible refine (gauge_finite.calls a0_1 true _ A3.out).mono ?_);rintro e w' ⟨rfl,⟨nd,rfl⟩⟩)|(go_at_call 27;(with_reducible refine (gauge_finite.calls a0_2 true _ A5.out).mono ?_);rintro e w' ⟨rfl,⟨nd,rfl⟩⟩)|(go_at_call 28;(with_reducible refine (math_Signbit.calls a0_1 false _ A7.out).mono ?_);rintro e w' ⟨rfl,⟨nd,rfl⟩⟩)|(go_at_call 28;(with_reducible refine (math_Signbit.calls a0_2 false _ A11.out).mono ?_);rintro e w' ⟨rfl,⟨nd,rfl⟩⟩))
        go_ret
        exact ⟨by first|rfl|(simp [errW_none,errW_some] <;> rfl)|(simp [*,errW_none,errW_some] <;> rfl),by repeat (first|(with_reducible first|exact HB.1|apply bwA|apply bwN|apply bw1|refine bS ?_ GE108.1)|exact HB.1)⟩
      ·rw [if_neg c15] at H
       have c15b0 : (a0_0 == 0) = false:=beq_eq_false_iff_ne.mpr c15
       have c15b1 : (a0_0 != 0) = true:=bne_iff_ne.mpr c15
       obtain rfl:=Option.some.inj H
       go_enter Try.func12,Try.ntmps12
       go_wp2_with (first|((with_reducible refine gate_dst (N:=1) rfl ?_);refine box_event ?hg (N:=1) ?hd (cs:=#[.int .i64 a0_0,.float .f64 a0_1,.float .f64 a0_2]) (t:=24) ?hr ?_;(case hd => rfl);(case hg => rfl);(case hr => first|(go_simp;done)|(go_simp;rfl));intro G108 hg w24 hbox hb;have n0_:=Aside0.mk (below_step (by repeat (first|(with_reducible first|exact HB.1|apply bwA|apply bwN|apply bw1)|exact HB.1)) hb);have n1_:=Aside0.mk (hbox);have n2_:=Aside0.mk ((by rw [hg];exact (below_size (by repeat (first|(with_reducible first|exact HB.1|apply bwA|apply bwN|apply bw1)|exact HB.1))) : w.heap.size ≤ G108));have n3_:=Aside0.mk ((by rw [hg];exact (below_size (by repeat (first|(with_reducible first|exact HB.1|apply bwA|apply bwN|apply bw1)|exact HB.1))) : w.heap.size ≤ G108));clear HB;have HB:=n0_;have K108:=n1_;have GW108:=n2_;have GE108:=n3_;clear n0_ n1_ n2_ n3_;clear hb hbox hg;have hcz25_0 : w24.cell? ⟨G108,0,none⟩ = some (.int .i64 a0_0):=(bC K108.1 0).trans rfl;have hcz25_1 : w24.cell? ⟨G108,1,none⟩ = some (.float .f64 a0_1):=(bC K108.1 1).trans rfl;have hcz25_2 : w24.cell? ⟨G108,2,none⟩ = some (.float .f64 a0_2):=(bC K108.1 2).trans rfl;have hfz25_0:=bF K108.1 0;have hfz25_1:=bF K108.1 1;have hfz25_2:=bF K108.1 2)|(go_at_call 27;(with_reducible refine (gauge_finite.calls a0_1 true _ A3.out).mono ?_);rintro e w' ⟨rfl,⟨nd,rfl⟩⟩)|(go_at_call 27;(with_reducible refine (gauge_finite.calls a0_2 true _ A5.out).mono ?_);rintro e w' ⟨rfl,⟨nd,rfl⟩⟩)|(go_at_call 28;(with_reducible refine (math_Signbit.calls a0_1 false _ A7.out).mono ?_);rintro e w' ⟨rfl,⟨nd,rfl⟩⟩)|(go_at_call 28;(with_reducible refine (math_Signbit.calls a0_2 false _ A11.out).mono ?_);rintro e w' ⟨rfl,⟨nd,rfl⟩⟩))
       go_ret
       exact ⟨by first|rfl|(simp [errW_none,errW_some] <;> rfl)|(simp [*,errW_none,errW_some] <;> rfl),by repeat (first|(with_reducible first|exact HB.1|apply bwA|apply bwN|apply bw1|refine bS ?_ GE108.1)|exact HB.1)⟩
   ·replace c6:=Bool.eq_false_iff.mpr c6
    subst c6
    have H1 : (some 1) = some r:=by rw [if_neg (show ¬ (false = true) by decide)] at H;exact H
    clear H
    have H:=H1
    clear H1
    obtain rfl:=Option.some.inj H
    go_enter Try.func12,Try.ntmps12
    go_wp2_with (first|((with_reducible refine gate_dst (N:=1) rfl ?_);refine box_event ?hg (N:=1) ?hd (cs:=#[.int .i64 a0_0,.float .f64 a0_1,.float .f64 a0_2]) (t:=24) ?hr ?_;(case hd => rfl);(case hg => rfl);(case hr => first|(go_simp;done)|(go_simp;rfl));intro G108 hg w26 hbox hb;have n0_:=Aside0.mk (below_step (by repeat (first|(with_reducible first|exact HB.1|apply bwA|apply bwN|apply bw1)|exact HB.1)) hb);have n1_:=Aside0.mk (hbox);have n2_:=Aside0.mk ((by rw [hg];exact (below_size (by repeat (first|(with_reducible first|exact HB.1|apply bwA|apply bwN|apply bw1)|exact HB.1))) : w.heap.size ≤ G108));have n3_:=Aside0.mk ((by rw [hg];exact (below_size (by repeat (first|(with_reducible first|exact HB.1|apply bwA|apply bwN|apply bw1)|exact HB.1))) : w.heap.size ≤ G108));clear HB;have HB:=n0_;have K108:=n1_;have GW108:=n2_;have GE108:=n3_;clear n0_ n1_ n2_ n3_;clear hb hbox hg;have hcz27_0 : w26.cell? ⟨G108,0,none⟩ = some (.int .i64 a0_0):=(bC K108.1 0).trans rfl;have hcz27_1 : w26.cell? ⟨G108,1,none⟩ = some (.float .f64 a0_1):=(bC K108.1 1).trans rfl;have hcz27_2 : w26.cell? ⟨G108,2,none⟩ = some (.float .f64 a0_2):=(bC K108.1 2).trans rfl;have hfz27_0:=bF K108.1 0;have hfz27_1:=bF K108.1 1;have hfz27_2:=bF K108.1 2)|(go_at_call 27;(with_reducible refine (gauge_finite.calls a0_1 true _ A3.out).mono ?_);rintro e w' ⟨rfl,⟨nd,rfl⟩⟩)|(go_at_call 27;(with_reducible refine (gauge_finite.calls a0_2 false _ A5.out).mono ?_);rintro e w' ⟨rfl,⟨nd,rfl⟩⟩))
    go_ret
    exact ⟨by first|rfl|(simp [errW_none,errW_some] <;> rfl)|(simp [*,errW_none,errW_some] <;> rfl),by repeat (first|(with_reducible first|exact HB.1|apply bwA|apply bwN|apply bw1|refine bS ?_ GE108.1)|exact HB.1)⟩
  ·replace c4:=Bool.eq_false_iff.mpr c4
   subst c4
   have H1 : (some 1) = some r:=by rw [if_neg (show ¬ (false = true) by decide)] at H;exact H
   clear H
   have H:=H1
   clear H1
   obtain rfl:=Option.some.inj H
   go_enter Try.func12,Try.ntmps12
   go_wp2_with (first|((with_reducible refine gate_dst (N:=1) rfl ?_);refine box_event ?hg (N:=1) ?hd (cs:=#[.int .i64 a0_0,.float .f64 a0_1,.float .f64 a0_2]) (t:=24) ?hr ?_;(case hd => rfl);(case hg => rfl);(case hr => first|(go_simp;done)|(go_simp;rfl));intro G108 hg w28 hbox hb;have n0_:=Aside0.mk (below_step (by repeat (first|(with_reducible first|exact HB.1|apply bwA|apply bwN|apply bw1)|exact HB.1)) hb);have n1_:=Aside0.mk (hbox);have n2_:=Aside0.mk ((by rw [hg];exact (below_size (by repeat (first|(with_reducible first|exact HB.1|apply bwA|apply bwN|apply bw1)|exact HB.1))) : w.heap.size ≤ G108));have n3_:=Aside0.mk ((by rw [hg];exact (below_size (by repeat (first|(with_reducible first|exact HB.1|apply bwA|apply bwN|apply bw1)|exact HB.1))) : w.heap.size ≤ G108));clear HB;have HB:=n0_;have K108:=n1_;have GW108:=n2_;have GE108:=n3_;clear n0_ n1_ n2_ n3_;clear hb hbox hg;have hcz29_0 : w28.cell? ⟨G108,0,none⟩ = some (.int .i64 a0_0):=(bC K108.1 0).trans rfl;have hcz29_1 : w28.cell? ⟨G108,1,none⟩ = some (.float .f64 a0_1):=(bC K108.1 1).trans rfl;have hcz29_2 : w28.cell? ⟨G108,2,none⟩ = some (.float .f64 a0_2):=(bC K108.1 2).trans rfl;have hfz29_0:=bF K108.1 0;have hfz29_1:=bF K108.1 1;have hfz29_2:=bF K108.1 2)|(go_at_call 27;(with_reducible refine (gauge_finite.calls a0_1 false _ A3.out).mono ?_);rintro e w' ⟨rfl,⟨nd,rfl⟩⟩))
   go_ret
   exact ⟨by first|rfl|(simp [errW_none,errW_some] <;> rfl)|(simp [*,errW_none,errW_some] <;> rfl),by repeat (first|(with_reducible first|exact HB.1|apply bwA|apply bwN|apply bw1|refine bS ?_ GE108.1)|exact HB.1)⟩
 ·rw [if_neg c2] at H
  have c2b0 : decide (0 ≤ a0_0) = false:=decide_eq_false c2
  clear c2
  obtain rfl:=Option.some.inj H
  go_enter Try.func12,Try.ntmps12
  go_wp2_with (first|((with_reducible refine gate_dst (N:=1) rfl ?_);refine box_event ?hg (N:=1) ?hd (cs:=#[.int .i64 a0_0,.float .f64 a0_1,.float .f64 a0_2]) (t:=24) ?hr ?_;(case hd => rfl);(case hg => rfl);(case hr => first|(go_simp;done)|(go_simp;rfl));intro G108 hg w30 hbox hb;have n0_:=Aside0.mk (below_step (by repeat (first|(with_reducible first|exact HB.1|apply bwA|apply bwN|apply bw1)|exact HB.1)) hb);have n1_:=Aside0.mk (hbox);have n2_:=Aside0.mk ((by rw [hg];exact (below_size (by repeat (first|(with_reducible first|exact HB.1|apply bwA|apply bwN|apply bw1)|exact HB.1))) : w.heap.size ≤ G108));have n3_:=Aside0.mk ((by rw [hg];exact (below_size (by repeat (first|(with_reducible first|exact HB.1|apply bwA|apply bwN|apply bw1)|exact HB.1))) : w.heap.size ≤ G108));clear HB;have HB:=n0_;have K108:=n1_;have GW108:=n2_;have GE108:=n3_;clear n0_ n1_ n2_ n3_;clear hb hbox hg;have hcz31_0 : w30.cell? ⟨G108,0,none⟩ = some (.int .i64 a0_0):=(bC K108.1 0).trans rfl;have hcz31_1 : w30.cell? ⟨G108,1,none⟩ = some (.float .f64 a0_1):=(bC K108.1 1).trans rfl;have hcz31_2 : w30.cell? ⟨G108,2,none⟩ = some (.float .f64 a0_2):=(bC K108.1 2).trans rfl;have hfz31_0:=bF K108.1 0;have hfz31_1:=bF K108.1 1;have hfz31_2:=bF K108.1 2))
  go_ret
  exact ⟨by first|rfl|(simp [errW_none,errW_some] <;> rfl)|(simp [*,errW_none,errW_some] <;> rfl),by repeat (first|(with_reducible first|exact HB.1|apply bwA|apply bwN|apply bw1|refine bS ?_ GE108.1)|exact HB.1)⟩

/-! ### gauge_may: function 24 -/
def gauge_may.f (a0 : Nat) : Option (Bool) := (gauge_finite.f a0).bind fun t113 => (if t113 = true then (some (fle 0 a0)) else (some false))
set_option maxHeartbeats 2500000 in
set_option maxRecDepth 100000 in
theorem gauge_may.calls (a0 : Nat) (r : Bool) (w : World) (h : gauge_may.f a0 = some r) :
  Calls Try.prog 24 #[.float .f64 a0] w fun e w' => e = .returned (.bool r) ∧ Drawn0 w w':=by
 have H : ((gauge_finite.f a0).bind fun t113 => (if t113 = true then (some (fle 0 a0)) else (some false))) = some r:=h
 clear h
 replace H:=Option.bind_eq_some_iff.mp H
 obtain ⟨t113,A20,H⟩:=H
 replace H : (if t113 = true then (some (fle 0 a0)) else (some false)) = some r:=H
 have A2:=Aside0.mk A20
 clear A20
 by_cases c3 : t113 = true
 ·subst c3
  have H1 : (some (fle 0 a0)) = some r:=by rw [if_pos rfl] at H;exact H
  clear H
  have H:=H1
  clear H1
  obtain rfl:=Option.some.inj H
  go_enter Try.func24,Try.ntmps24
  go_wp2_with (first|((with_reducible refine gate_callee (f:=27) rfl ?_);refine goesL_ (some 4) rfl rfl Try.func27 (by kernel_rfl) rfl #[.float .f64 a0] rfl (by (try simp only [List.map_toArray,List.map_cons,List.map_nil]);first|done|rfl|(simp only [List.length_drop,List.length_take];rfl)) ?_;(with_reducible refine (gauge_finite.calls a0 true _ A2.out).mono ?_);rintro e w' ⟨rfl,⟨nd,rfl⟩⟩;refine ⟨_,rfl,?_⟩))
  go_ret
  exact ⟨by first|rfl|(simp;done)|(simp [*];done),by repeat (first|exact Drawn0.refl _|apply Drawn0.step)⟩
 ·replace c3:=Bool.eq_false_iff.mpr c3
  subst c3
  have H1 : (some false) = some r:=by rw [if_neg (show ¬ (false = true) by decide)] at H;exact H
  clear H
  have H:=H1
  clear H1
  obtain rfl:=Option.some.inj H
  go_enter Try.func24,Try.ntmps24
  go_wp2_with (first|((with_reducible refine gate_callee (f:=27) rfl ?_);refine goesL_ (some 4) rfl rfl Try.func27 (by kernel_rfl) rfl #[.float .f64 a0] rfl (by (try simp only [List.map_toArray,List.map_cons,List.map_nil]);first|done|rfl|(simp only [List.length_drop,List.length_take];rfl)) ?_;(with_reducible refine (gauge_finite.calls a0 false _ A2.out).mono ?_);rintro e w' ⟨rfl,⟨nd,rfl⟩⟩;refine ⟨_,rfl,?_⟩))
  go_ret
  exact ⟨by first|rfl|(simp;done)|(simp [*];done),by repeat (first|exact Drawn0.refl _|apply Drawn0.step)⟩

/-! ### gauge_Feed: function 9 -/
def gauge_Feed.f (a0_0 : Int) (a0_1 : Nat) (a0_2 : Nat) (a1 : Nat) : Option (Int × Nat × Nat × Int) := (gauge_Check.f a0_0 a0_1 a0_2).bind fun t116 => (if t116 = 0 then ((gauge_may.f a1).bind fun t117 => (if t117 = true then ((math_Abs.f a1).bind fun t118 => (if a0_0 = 0 then (if (fdivOk t118 4611686018427387904) = true then (some (1, t118, fdiv t118 4611686018427387904, 0)) else (none)) else (if a0_0 < 9223372036854775807 then (if (fsubOk a0_1 t118) = true then ((math_Abs.f (fsub a0_1 t118)).bind fun t119 => (if (fmulOk a0_2 4604930618986332160) = true then (if (fmulOk t119 4598175219545276416) = true then (if (faddOk (fmul a0_2 4604930618986332160) (fmul t119 4598175219545276416)) = true then (if (fmulOk a0_1 4606056518893174784) = true then (if (fmulOk t118 4593671619917905920) = true then (if (faddOk (fmul a0_1 4606056518893174784) (fmul t118 4593671619917905920)) = true then (some (wrap64 (a0_0 + 1), fadd (fmul a0_1 4606056518893174784) (fmul t118 4593671619917905920), fadd (fmul a0_2 4604930618986332160) (fmul t119 4598175219545276416), 0)) else (none)) else (none)) else (none)) else (none)) else (none)) else (none))) else (none)) else (if (fsubOk a0_1 t118) = true then ((math_Abs.f (fsub a0_1 t118)).bind fun t120 => (if (fmulOk a0_2 4604930618986332160) = true then (if (fmulOk t120 4598175219545276416) = true then (if (faddOk (fmul a0_2 4604930618986332160) (fmul t120 4598175219545276416)) = true then (if (fmulOk a0_1 4606056518893174784) = true then (if (fmulOk t118 4593671619917905920) = true then (if (faddOk (fmul a0_1 4606056518893174784) (fmul t118 4593671619917905920)) = true then (some (a0_0, fadd (fmul a0_1 4606056518893174784) (fmul t118 4593671619917905920), fadd (fmul a0_2 4604930618986332160) (fmul t120 4598175219545276416), 0)) else (none)) else (none)) else (none)) else (none)) else (none)) else (none))) else (none))))) else (some (0, 0, 0, 50)))) else (some (0, 0, 0, t116)))
set_option maxHeartbeats 2500000 in
set_option maxRecDepth 100000 in
theorem gauge_Feed.calls (a0_0 : Int) (a0_1 : Nat) (a0_2 : Nat) (a1 : Nat) (r1 : Int) (r2 : Nat) (r3 : Nat) (r4 : Int) (w : World) (h : gauge_Feed.f a0_0 a0_1 a0_2 a1 = some (r1, r2, r3, r4)) :
  Calls Try.prog 9 #[.agg #[.int .i64 a0_0,.float .f64 a0_1,.float .f64 a0_2],.float .f64 a1] w fun e w' => e = .returned (.tuple #[.agg #[.int .i64 r1,.float .f64 r2,.float .f64 r3],.int .i64 r4]) ∧ Below w.heap.size w w':=by
 have hu24:=Try.underlying24
 have HB:=Aside0.mk (Below.refl w.heap.size w)
 have H : ((gauge_Check.f a0_0 a0_1 a0_2).bind fun t116 => (if t116 = 0 then ((gauge_may.f a1).bind fun t117 => (if t117 = true then ((math_Abs.f a1).bind fun t118 => (if a0_0 = 0 then (if (fdivOk t118 4611686018427387904) = true then (some (1,t118,fdiv t118 4611686018427387904,0)) else (none)) else (if a0_0 < 9223372036854775807 then (if (fsubOk a0_1 t118) = true then ((math_Abs.f (fsub a0_1 t118)).bind fun t119 => (if (fmulOk a0_2 4604930618986332160) = true then (if (fmulOk t119 4598175219545276416) = true then (if (faddOk (fmul a0_2 4604930618986332160) (fmul t119 4598175219545276416)) = true then (if (fmulOk a0_1 4606056518893174784) = true then (if (fmulOk t118 4593671619917905920) = true then (if (faddOk (fmul a0_1 4606056518893174784) (fmul t118 4593671619917905920)) = true then (some (wrap64 (a0_0 + 1),fadd (fmul a0_1 4606056518893174784) (fmul t118 4593671619917905920),fadd (fmul a0_2 4604930618986332160) (fmul t119 4598175219545276416),0)) else (none)) else (none)) else (none)) else (none)) else (none)) else (none))) else (none)) else (if (fsubOk a0_1 t118) = true then ((math_Abs.f (fsub a0_1 t118)).bind fun t120 => (if (fmulOk a0_2 4604930618986332160) = true then (if (fmulOk t120 4598175219545276416) = true then (if (faddOk (fmul a0_2 4604930618986332160) (fmul t120 4598175219545276416)) = true then (if (fmulOk a0_1 4606056518893174784) = true then (if (fmulOk t118 4593671619917905920) = true then (if (faddOk (fmul a0_1 4606056518893174784) (fmul t118 4593671619917905920)) = true then (some (a0_0,fadd (fmul a0_1 4606056518893174784) (fmul t118 4593671619917905920),fadd (fmul a0_2 4604930618986332160) (fmul t120 4598175219545276416),0)) else (none)) else (none)) else (none)) else (none)) else (none)) else (none))) else (none))))) else (some (0,0,0,50)))) else (some (0,0,0,t116)))) = some (r1,r2,r3,r4):=h
 clear h
 replace H:=Option.bind_eq_some_iff.mp H
 obtain ⟨t116,A30,H⟩:=H
 replace H : (if t116 = 0 then ((gauge_may.f a1).bind fun t117 => (if t117 = true then ((math_Abs.f a1).bind fun t118 => (if a0_0 = 0 then (if (fdivOk t118 4611686018427387904) = true then (some (1,t118,fdiv t118 4611686018427387904,0)) else (none)) else (if a0_0 < 9223372036854775807 then (if (fsubOk a0_1 t118) = true then ((math_Abs.f (fsub a0_1 t118)).bind fun t119 => (if (fmulOk a0_2 4604930618986332160) = true then (if (fmulOk t119 4598175219545276416) = true then (if (faddOk (fmul a0_2 4604930618986332160) (fmul t119 4598175219545276416)) = true then (if (fmulOk a0_1 4606056518893174784) = true then (if (fmulOk t118 4593671619917905920) = true then (if (faddOk (fmul a0_1 4606056518893174784) (fmul t118 4593671619917905920)) = true then (some (wrap64 (a0_0 + 1),fadd (fmul a0_1 4606056518893174784) (fmul t118 4593671619917905920),fadd (fmul a0_2 4604930618986332160) (fmul t119 4598175219545276416),0)) else (none)) else (none)) else (none)) else (none)) else (none)) else (none))) else (none)) else (if (fsubOk a0_1 t118) = true then ((math_Abs.f (fsub a0_1 t118)).bind fun t120 => (if (fmulOk a0_2 4604930618986332160) = true then (if (fmulOk t120 4598175219545276416) = true then (if (faddOk (fmul a0_2 4604930618986332160) (fmul t120 4598175219545276416)) = true then (if (fmulOk a0_1 4606056518893174784) = true then (if (fmulOk t118 4593671619917905920) = true then (if (faddOk (fmul a0_1 4606056518893174784) (fmul t118 4593671619917905920)) = true then (some (a0_0,fadd (fmul a0_1 4606056518893174784) (fmul t118 4593671619917905920),fadd (fmul a0_2 4604930618986332160) (fmul t120 4598175219545276416),0)) else (none)) else (none)) else (none)) else (none)) else (none)) else (none))) else (none))))) else (some (0,0,0,50)))) else (some (0,0,0,t116))) = some (r1,r2,r3,r4):=H
 have A3:=Aside0.mk A30
 clear A30
 by_cases c4 : t116 = 0
 ·rw [if_pos c4] at H
  have c4b0 : (t116 == 0) = true:=beq_iff_eq.mpr c4
  have c4b1 : (t116 != 0) = false:=bne_eq_false_iff_eq.mpr c4
  clear c4
  replace H:=Option.bind_eq_some_iff.mp H
  obtain ⟨t117,A50,H⟩:=H
  replace H : (if t117 = true then ((math_Abs.f a1).bind fun t118 => (if a0_0 = 0 then (if (fdivOk t118 4611686018427387904) = true then (some (1,t118,fdiv t118 4611686018427387904,0)) else (none)) else (if a0_0 < 9223372036854775807 then (if (fsubOk a0_1 t118) = true then ((math_Abs.f (fsub a0_1 t118)).bind fun t119 => (if (fmulOk a0_2 4604930618986332160) = true then (if (fmulOk t119 4598175219545276416) = true then (if (faddOk (fmul a0_2 4604930618986332160) (fmul t119 4598175219545276416)) = true then (if (fmulOk a0_1 4606056518893174784) = true then (if (fmulOk t118 4593671619917905920) = true then (if (faddOk (fmul a0_1 4606056518893174784) (fmul t118 4593671619917905920)) = true then (some (wrap64 (a0_0 + 1),fadd (fmul a0_1 4606056518893174784) (fmul t118 4593671619917905920),fadd (fmul a0_2 4604930618986332160) (fmul t119 4598175219545276416),0)) else (none)) else (none)) else (none)) else (none)) else (none)) else (none))) else (none)) else (if (fsubOk a0_1 t118) = true then ((math_Abs.f (fsub a0_1 t118)).bind fun t120 => (if (fmulOk a0_2 4604930618986332160) = true then (if (fmulOk t120 4598175219545276416) = true then (if (faddOk (fmul a0_2 4604930618986332160) (fmul t120 4598175219545276416)) = true then (if (fmulOk a0_1 4606056518893174784) = true then (if (fmulOk t118 4593671619917905920) = true then (if (faddOk (fmul a0_1 4606056518893174784) (fmul t118 4593671619917905920)) = true then (some (a0_0,fadd (fmul a0_1 4606056518893174784) (fmul t118 4593671619917905920),fadd (fmul a0_2 4604930618986332160) (fmul t120 4598175219545276416),0)) else (none)) else (none)) else (none)) else (none)) else (none)) else (none))) else (none))))) else (some (0,0,0,50))) = some (r1,r2,r3,r4):=H
  have A5:=Aside0.mk A50
  clear A50
  by_cases c6 : t117 = true
  ·subst c6
   have H1 : ((math_Abs.f a1).bind fun t118 => (if a0_0 = 0 then (if (fdivOk t118 4611686018427387904) = true then (some (1,t118,fdiv t118 4611686018427387904,0)) else (none)) else (if a0_0 < 9223372036854775807 then (if (fsubOk a0_1 t118) = true then ((math_Abs.f (fsub a0_1 t118)).bind fun t119 => (if (fmulOk a0_2 4604930618986332160) = true then (if (fmulOk t119 4598175219545276416) = true then (if (faddOk (fmul a0_2 4604930618986332160) (fmul t119 4598175219545276416)) = true then (if (fmulOk a0_1 4606056518893174784) = true then (if (fmulOk t118 4593671619917905920) = true then (if (faddOk (fmul a0_1 4606056518893174784) (fmul t118 4593671619917905920)) = true then (some (wrap64 (a0_0 + 1),fadd (fmul a0_1 4606056518893174784) (fmul t118 4593671619917905920),fadd (fmul a0_2 4604930618986332160) (fmul t119 4598175219545276416),0)) else (none)) else (none)) else (none)) else (none)) else (none)) else (none))) else (none)) else (if (fsubOk a0_1 t118) = true then ((math_Abs.f (fsub a0_1 t118)).bind fun t120 => (if (fmulOk a0_2 4604930618986332160) = true then (if (fmulOk t120 4598175219545276416) = true then (if (faddOk (fmul a0_2 4604930618986332160) (fmul t120 4598175219545276416)) = true then (if (fmulOk a0_1 4606056518893174784) = true then (if (fmulOk t118 4593671619917905920) = true then (if (faddOk (fmul a0_1 4606056518893174784) (fmul t118 4593671619917905920)) = true then (some (a0_0,fadd (fmul a0_1 4606056518893174784) (fmul t118 4593671619917905920),fadd (fmul a0_2 4604930618986332160) (fmul t120 4598175219545276416),0)) else (none)) else (none)) else (none)) else (none)) else (none)) else (none))) else (none))))) = some (r1,r2,r3,r4):=by rw [if_pos rfl] at H;exact H
   clear H
   have H:=H1
   clear H1
   replace H:=Option.bind_eq_some_iff.mp H
   obtain ⟨t118,A70,H⟩:=H
   replace H : (if a0_0 = 0 then (if (fdivOk t118 4611686018427387904) = true then (some (1,t118,fdiv t118 4611686018427387904,0)) else (none)) else (if a0_0 < 9223372036854775807 then (if (fsubOk a0_1 t118) = true then ((math_Abs.f (fsub a0_1 t118)).bind fun t119 => (if (fmulOk a0_2 4604930618986332160) = true then (if (fmulOk t119 4598175219545276416) = true then (if (faddOk (fmul a0_2 4604930618986332160) (fmul t119 4598175219545276416)) = true then (if (fmulOk a0_1 4606056518893174784) = true then (if (fmulOk t118 4593671619917905920) = true then (if (faddOk (fmul a0_1 4606056518893174784) (fmul t118 4593671619917905920)) = true then (some (wrap64 (a0_0 + 1),fadd (fmul a0_1 4606056518893174784) (fmul t118 4593671619917905920),fadd (fmul a0_2 4604930618986332160) (fmul t119 4598175219545276416),0)) else (none)) else (none)) else (none)) else (none)) else (none)) else (none))) else (none)) else (if (fsubOk a0_1 t118) = true then ((math_Abs.f (fsub a0_1 t118)).bind fun t120 => (if (fmulOk a0_2 4604930618986332160) = true then (if (fmulOk t120 4598175219545276416) = true then (if (faddOk (fmul a0_2 4604930618986332160) (fmul t120 4598175219545276416)) = true then (if (fmulOk a0_1 4606056518893174784) = true then (if (fmulOk t118 4593671619917905920) = true then (if (faddOk (fmul a0_1 4606056518893174784) (fmul t118 4593671619917905920)) = true then (some (a0_0,fadd (fmul a0_1 4606056518893174784) (fmul t118 4593671619917905920),fadd (fmul a0_2 4604930618986332160) (fmul t120 4598175219545276416),0)) else (none)) else (none)) else (none)) else (none)) else (none)) else (none))) else (none)))) = some (r1,r2,r3,r4):=H
   have A7:=Aside0.mk A70
   clear A70
   by_cases c8 : a0_0 = 0
   ·rw [if_pos c8] at H
    have c8b0 : (a0_0 == 0) = true:=beq_iff_eq.mpr c8
    have c8b1 : (a0_0 != 0) = false:=bne_eq_false_iff_eq.mpr c8
    clear c8
    by_cases c9 : (fdivOk t118 4611686018427387904) = true
    ·rw [if_pos c9] at H
     have c9b0:=eq_true c9
     have c9b1 : decide ((fdivOk t118 4611686018427387904) = true) = true:=decide_eq_true c9
     clear c9
     simp only [Option.some.injEq,Prod.mk.injEq] at H
     obtain ⟨rfl,rfl,rfl,rfl⟩:=H
     go_enter Try.func9,Try.ntmps9
     go_wp2_with (first|((with_reducible refine gate_dst (N:=2) rfl ?_);refine box_event ?hg (N:=2) ?hd (cs:=#[.int .i64 a0_0,.float .f64 a0_1,.float .f64 a0_2]) (t:=24) ?hr ?_;(case hd => rfl);(case hg => rfl);(case hr => first|(go_simp;done)|(go_simp;rfl));intro G114 hg w10 hbox hb;have n0_:=Aside0.mk (below_step (by repeat (first|(with_reducible first|exact HB.1|apply bwA|apply bwN|apply bw1)|exact HB.1)) hb);have n1_:=Aside0.mk (hbox);have n2_:=Aside0.mk ((by rw [hg];exact (below_size (by repeat (first|(with_reducible first|exact HB.1|apply bwA|apply bwN|apply bw1)|exact HB.1))) : w.heap.size ≤ G114));have n3_:=Aside0.mk ((by rw [hg];exact (below_size (by repeat (first|(with_reducible first|exact HB.1|apply bwA|apply bwN|apply bw1)|exact HB.1))) : w.heap.size ≤ G114));clear HB;have HB:=n0_;have K114:=n1_;have GW114:=n2_;have GE114:=n3_;clear n0_ n1_ n2_ n3_;clear hb hbox hg)|((with_reducible refine gate_dst (N:=4) rfl ?_);refine box_event ?hg (N:=4) ?hd (cs:=#[.int .i64 0,.float .f64 0,.float .f64 0]) (t:=24) ?hr ?_;(case hd => rfl);(case hg => rfl);(case hr => first|(go_simp;done)|(go_simp;rfl));intro G115 hg w11 hbox hb;have n0_:=Aside0.mk (bB (g:=G114) (o:=.cells #[.int .i64 a0_0,.float .f64 a0_1,.float .f64 a0_2] 24 (0,0)) (by (with_reducible repeat first|apply bN|apply bD|apply bA);exact K114.1) hb);have n1_:=Aside0.mk (below_step (by repeat (first|(with_reducible first|exact HB.1|apply bwA|apply bwN|apply bw1|refine bS ?_ GE114.1)|exact HB.1)) hb);have n2_:=Aside0.mk (hbox);have n3_:=Aside0.mk ((by rw [hg];exact (below_size (by repeat (first|(with_reducible first|exact HB.1|apply bwA|apply bwN|apply bw1|refine bS ?_ GE114.1)|exact HB.1))) : w.heap.size ≤ G115));have n4_:=Aside0.mk ((by rw [hg];exact (below_size (by repeat (first|(with_reducible first|exact HB.1|apply bwA|apply bwN|apply bw1|refine bS ?_ GE114.1)|exact HB.1))) : w.heap.size ≤ G115));have n5_:=Aside0.mk ((by rw [hg];exact Nat.ne_of_lt (blk_lt (g:=G114) (o:=.cells #[.int .i64 a0_0,.float .f64 a0_1,.float .f64 a0_2] 24 (0,0)) (by (with_reducible repeat first|apply bN|apply bD|apply bA);exact K114.1)) : G114 ≠ G115));have n6_:=Aside0.mk ((by rw [hg];exact Nat.ne_of_gt (blk_lt (g:=G114) (o:=.cells #[.int .i64 a0_0,.float .f64 a0_1,.float .f64 a0_2] 24 (0,0)) (by (with_reducible repeat first|apply bN|apply bD|apply bA);exact K114.1)) : G115 ≠ G114));clear K114;clear HB;have K114:=n0_;have HB:=n1_;have K115:=n2_;have GW115:=n3_;have GE115:=n4_;have NB114_115:=n5_;have NB115_114:=n6_;clear n0_ n1_ n2_ n3_ n4_ n5_ n6_;clear hb hbox hg;have hnb12:=NB114_115.1;have hnc12:=NB115_114.1;have hcz13_0 : w11.cell? ⟨G114,0,none⟩ = some (.int .i64 a0_0):=(bC K114.1 0).trans rfl;have hcz13_1 : w11.cell? ⟨G114,1,none⟩ = some (.float .f64 a0_1):=(bC K114.1 1).trans rfl;have hcz13_2 : w11.cell? ⟨G114,2,none⟩ = some (.float .f64 a0_2):=(bC K114.1 2).trans rfl;have hfz13_0:=bF K114.1 0;have hfz13_1:=bF K114.1 1;have hfz13_2:=bF K114.1 2)|((with_reducible refine gate_callee (f:=12) rfl ?_);refine goesL_ (some 9) rfl rfl Try.func12 (by kernel_rfl) rfl #[.agg #[.int .i64 a0_0,.float .f64 a0_1,.float .f64 a0_2]] rfl (by (try simp only [List.map_toArray,List.map_cons,List.map_nil]);first|done|rfl|(simp only [List.length_drop,List.length_take];rfl)) ?_;(with_reducible refine (gauge_Check.calls a0_0 a0_1 a0_2 t116 _ A3.out).mono ?_);rintro e w14 ⟨rfl,hb⟩;refine ⟨_,rfl,?_⟩;have n0_:=Aside0.mk (bB (g:=G114) (o:=.cells #[.int .i64 a0_0,.float .f64 a0_1,.float .f64 a0_2] 24 (0,0)) (by (with_reducible repeat first|apply bN|apply bD|apply bA);exact K114.1) hb);have n1_:=Aside0.mk (bB (g:=G115) (o:=.cells #[.int .i64 0,.float .f64 0,.float .f64 0] 24 (0,0)) (by (with_reducible repeat first|apply bN|apply bD|apply bA);exact K115.1) hb);have n2_:=Aside0.mk (below_step (by repeat (first|(with_reducible first|exact HB.1|apply bwA|apply bwN|apply bw1|refine bS ?_ GE114.1|refine bS ?_ GE115.1)|exact HB.1)) hb);clear K114;clear K115;clear HB;have K114:=n0_;have K115:=n1_;have HB:=n2_;clear n0_ n1_ n2_;(try clear hb);(try clear hb2);(try clear hk);(try clear hi))|((with_reducible refine gate_callee (f:=24) rfl ?_);refine goesL_ (some 15) rfl rfl Try.func24 (by kernel_rfl) rfl #[.float .f64 a1] rfl (by (try simp only [List.map_toArray,List.map_cons,List.map_nil]);first|done|rfl|(simp only [List.length_drop,List.length_take];rfl)) ?_;(with_reducible refine (gauge_may.calls a1 true _ A5.out).mono ?_);rintro e w' ⟨rfl,⟨nd,rfl⟩⟩;refine ⟨_,rfl,?_⟩;(try (rw [drewN_self w14];generalize hq_ : World.drewN w14 _ = w14;have n0_ : Aside0 (w14.heap[G114]? = some (.cells #[.int .i64 a0_0,.float .f64 a0_1,.float .f64 a0_2] 24 (0,0))):=⟨by rw [← hq_];exact (by (with_reducible repeat first|apply bN|apply bD|apply bA);exact K114.1)⟩;have n1_ : Aside0 (w14.heap[G115]? = some (.cells #[.int .i64 0,.float .f64 0,.float .f64 0] 24 (0,0))):=⟨by rw [← hq_];exact (by (with_reducible repeat first|apply bN|apply bD|apply bA);exact K115.1)⟩;have n2_ : Aside0 (Below w.heap.size w w14):=⟨by rw [← hq_];exact (by repeat (first|(with_reducible first|exact HB.1|apply bwA|apply bwN|apply bw1|refine bS ?_ GE114.1|refine bS ?_ GE115.1)|exact HB.1))⟩;clear K114 K115 HB hq_;have K114:=n0_;have K115:=n1_;have HB:=n2_;clear n0_ n1_ n2_)))|((with_reducible refine gate_callee (f:=25) rfl ?_);refine goesL_ (some 19) rfl rfl Try.func25 (by kernel_rfl) rfl #[.float .f64 a1] rfl (by (try simp only [List.map_toArray,List.map_cons,List.map_nil]);first|done|rfl|(simp only [List.length_drop,List.length_take];rfl)) ?_;(with_reducible refine (math_Abs.calls a1 t118 _ A7.out).mono ?_);rintro e w' ⟨rfl,⟨nd,rfl⟩⟩;refine ⟨_,rfl,?_⟩;(try (rw [drewN_self w14];generalize hq_ : World.drewN w14 _ = w14;have n0_ : Aside0 (w14.heap[G114]? = some (.cells #[.int .i64 a0_0,.float .f64 a0_1,.float .f64 a0_2] 24 (0,0))):=⟨by rw [← hq_];exact (by (with_reducible repeat first|apply bN|apply bD|apply bA);exact K114.1)⟩;have n1_ : Aside0 (w14.heap[G115]? = some (.cells #[.int .i64 0,.float .f64 0,.float .f64 0] 24 (0,0))):=⟨by rw [← hq_];exact (by (with_reducible repeat first|apply bN|apply bD|apply bA);exact K115.1)⟩;have n2_ : Aside0 (Below w.heap.size w w14):=⟨by rw [← hq_];exact (by repeat (first|(with_reducible first|exact HB.1|apply bwA|apply bwN|apply bw1|refine bS ?_ GE114.1|refine bS ?_ GE115.1)|exact HB.1))⟩;clear K114 K115 HB hq_;have K114:=n0_;have K115:=n1_;have HB:=n2_;clear n0_ n1_ n2_));have hcz15_0 : w14.cell? ⟨G114,0,none⟩ = some (.int .i64 a0_0):=(bC K114.1 0).trans rfl;have hcz15_1 : w14.cell? ⟨G114,1,none⟩ = some (.float .f64 a0_1):=(bC K114.1 1).trans rfl;have hcz15_2 : w14.cell? ⟨G114,2,none⟩ = some (.float .f64 a0_2):=(bC K114.1 2).trans rfl;have hfz15_0:=bF K114.1 0;have hfz15_1:=bF K114.1 1;have hfz15_2:=bF K114.1 2;have hcz16_0 : w14.cell? ⟨G115,0,none⟩ = some (.int .i64 0):=(bC K115.1 0).trans rfl;have hcz16_1 : w14.cell? ⟨G115,1,none⟩ = some (.float .f64 0):=(bC K115.1 1).trans rfl;have hcz16_2 : w14.cell? ⟨G115,2,none⟩ = some (.float .f64 0):=(bC K115.1 2).trans rfl;have hfz16_0:=bF K115.1 0;have hfz16_1:=bF K115.1 1;have hfz16_2:=bF K115.1 2)|((with_reducible refine gate_store (t:=24) (p:=4) rfl ?_);refine store_event (t:=24) (p:=4) (v:=?vo_w17) (w1:=(((w14.setCell ⟨G115,0,none⟩ (.int .i64 1)).setCell ⟨G115,1,none⟩ (.float .f64 t118)).setCell ⟨G115,2,none⟩ (.float .f64 (fdiv t118 4611686018427387904)))) ?hg ?ho ?hn ?hr ?_;(case ho => rfl);(case hg => rfl);(case hn => rfl);(case hr => first|(go_simp;done)|(go_simp;rfl));intro w17 hw;have n0_ : Aside0 (w17.heap[G114]? = some (.cells #[.int .i64 a0_0,.float .f64 a0_1,.float .f64 a0_2] 24 (0,0))):=⟨(by rw [hw];exact (by (with_reducible repeat first|apply bN|apply bD|apply bA);refine bZ ?_ NB114_115.1 _;(with_reducible repeat first|apply bN|apply bD|apply bA);refine bZ ?_ NB114_115.1 _;(with_reducible repeat first|apply bN|apply bD|apply bA);refine bZ ?_ NB114_115.1 _;(with_reducible repeat first|apply bN|apply bD|apply bA);exact K114.1))⟩;have n1_ : Aside0 (w17.heap[G115]? = some (.cells #[.int .i64 1,.float .f64 t118,.float .f64 (fdiv t118 4611686018427387904)] 24 (0,0))):=⟨(by rw [hw];exact (by (with_reducible repeat first|apply bN|apply bD|apply bA);refine blk_put (cs:=#[.int .i64 1,.float .f64 t118,.float .f64 0]) ?_ 2 _ rfl;(with_reducible repeat first|apply bN|apply bD|apply bA);refine blk_put (cs:=#[.int .i64 1,.float .f64 0,.float .f64 0]) ?_ 1 _ rfl;(with_reducible repeat first|apply bN|apply bD|apply bA);refine blk_put (cs:=#[.int .i64 0,.float .f64 0,.float .f64 0]) ?_ 0 _ rfl;(with_reducible repeat first|apply bN|apply bD|apply bA);exact K115.1))⟩;have n2_ : Aside0 (Below w.heap.size w w17):=⟨(by rw [hw];exact (by repeat (first|(with_reducible first|exact HB.1|apply bwA|apply bwN|apply bw1|refine bS ?_ GE114.1|refine bS ?_ GE115.1)|exact HB.1)))⟩;clear hw;clear K114;clear K115;clear HB;have K114:=n0_;have K115:=n1_;have HB:=n2_;clear n0_ n1_ n2_))
     refine bodyPost_ret (results_ct rfl _ _ G115 24 #[.int .i64 1,.float .f64 t118,.float .f64 (fdiv t118 4611686018427387904)] (0,0) _ rfl (by (with_reducible repeat first|apply bN|apply bD|apply bA);exact K115.1) Try.underlying24 rfl (by kernel_rfl)) rfl ?_
     exact ⟨by first|rfl|(simp [errW_none,errW_some] <;> rfl)|(simp [*,errW_none,errW_some] <;> rfl),by repeat (first|(with_reducible first|exact HB.1|apply bwA|apply bwN|apply bw1|refine bS ?_ GE114.1|refine bS ?_ GE115.1)|exact HB.1)⟩
    ·rw [if_neg c9] at H
     exact absurd H (by simp)
   ·rw [if_neg c8] at H
    have c8b0 : (a0_0 == 0) = false:=beq_eq_false_iff_ne.mpr c8
    have c8b1 : (a0_0 != 0) = true:=bne_iff_ne.mpr c8
    by_cases c18 : a0_0 < 9223372036854775807
    ·rw [if_pos c18] at H
     have c18b0 : decide (a0_0 < 9223372036854775807) = true:=decide_eq_true c18
     clear c18
     by_cases c19 : (fsubOk a0_1 t118) = true
     ·rw [if_pos c19] at H
      have c19b0:=eq_true c19
      have c19b1 : decide ((fsubOk a0_1 t118) = true) = true:=decide_eq_true c19
      clear c19
      replace H:=Option.bind_eq_some_iff.mp H
      obtain ⟨t119,A200,H⟩:=H
      replace H : (if (fmulOk a0_2 4604930618986332160) = true then (if (fmulOk t119 4598175219545276416) = true then (if (faddOk (fmul a0_2 4604930618986332160) (fmul t119 4598175219545276416)) = true then (if (fmulOk a0_1 4606056518893174784) = true then (if (fmulOk t118 4593671619917905920) = true then (if (faddOk (fmul a0_1 4606056518893174784) (fmul t118 4593671619917905920)) = true then (some (wrap64 (a0_0 + 1),fadd (fmul a0_1 4606056518893174784) (fmul t118 4593671619917905920),fadd (fmul a0_2 4604930618986332160) (fmul t119 4598175219545276416),0)) else (none)) else (none)) else (none)) else (none)) else (none)) else (none)) = some (r1,r2,r3,r4):=H
      have A20:=Aside0.mk A200
      clear A200
      by_cases c21 : (fmulOk a0_2 4604930618986332160) = true
      ·rw [if_pos c21] at H
       have c21b0:=eq_true c21
       have c21b1 : decide ((fmulOk a0_2 4604930618986332160) = true) = true:=decide_eq_true c21
       clear c21
       by_cases c22 : (fmulOk t119 4598175219545276416) = true
       ·rw [if_pos c22] at H
        have c22b0:=eq_true c22
        have c22b1 : decide ((fmulOk t119 4598175219545276416) = true) = true:=decide_eq_true c22
        clear c22
        by_cases c23 : (faddOk (fmul a0_2 4604930618986332160) (fmul t119 4598175219545276416)) = true
        ·rw [if_pos c23] at H
         have c23b0:=eq_true c23
         have c23b1 : decide ((faddOk (fmul a0_2 4604930618986332160) (fmul t119 4598175219545276416)) = true) = true:=decide_eq_true c23
         clear c23
         by_cases c24 : (fmulOk a0_1 4606056518893174784) = true
         ·rw [if_pos c24] at H
          have c24b0:=eq_true c24
          have c24b1 : decide ((fmulOk a0_1 4606056518893174784) = true) = true:=decide_eq_true c24
          clear c24
          by_cases c25 : (fmulOk t118 4593671619917905920) = true
          ·rw [if_pos c25] at H
           have c25b0:=eq_true c25
           have c25b1 : decide ((fmulOk t118 4593671619917905920) = true) = true:=decide_eq_true c25
           clear c25
           by_cases c26 : (faddOk (fmul a0_1 4606056518893174784) (fmul t118 4593671619917905920)) = true
           ·rw [if_pos c26] at H
            have c26b0:=eq_true c26
            have c26b1 : decide ((faddOk (fmul a0_1 4606056518893174784) (fmul t118 4593671619917905920)) = true) = true:=decide_eq_true c26
            clear c26
            simp only [Option.some.injEq,Prod.mk.injEq] at H
            obtain ⟨rfl,rfl,rfl,rfl⟩:=H
            go_enter Try.func9,Try.ntmps9
            go_wp2_with (first|((with_reducible refine gate_dst (N:=2) rfl ?_);refine box_event ?hg (N:=2) ?hd (cs:=#[.int .i64 a0_0,.float .f64 a0_1,.float .f64 a0_2]) (t:=24) ?hr ?_;(case hd => rfl);(case hg => rfl);(case hr => first|(go_simp;done)|(go_simp;rfl));intro G114 hg w27 hbox hb;have n0_:=Aside0.mk (below_step (by repeat (first|(with_reducible first|exact HB.1|apply bwA|apply bwN|apply bw1)|exact HB.1)) hb);have n1_:=Aside0.mk (hbox);have n2_:=Aside0.mk ((by rw [hg];exact (below_size (by repeat (first|(with_reducible first|exact HB.1|apply bwA|apply bwN|apply bw1)|exact HB.1))) : w.heap.size ≤ G114));have n3_:=Aside0.mk ((by rw [hg];exact (below_size (by repeat (first|(with_reducible first|exact HB.1|apply bwA|apply bwN|apply bw1)|exact HB.1))) : w.heap.size ≤ G114));clear HB;have HB:=n0_;have K114:=n1_;have GW114:=n2_;have GE114:=n3_;clear n0_ n1_ n2_ n3_;clear hb hbox hg)|((with_reducible refine gate_dst (N:=4) rfl ?_);refine box_event ?hg (N:=4) ?hd (cs:=#[.int .i64 0,.float .f64 0,.float .f64 0]) (t:=24) ?hr ?_;(case hd => rfl);(case hg => rfl);(case hr => first|(go_simp;done)|(go_simp;rfl));intro G115 hg w28 hbox hb;have n0_:=Aside0.mk (bB (g:=G114) (o:=.cells #[.int .i64 a0_0,.float .f64 a0_1,.float .f64 a0_2] 24 (0,0)) (by (with_reducible repeat first|apply bN|apply bD|apply bA);exact K114.1) hb);have n1_:=Aside0.mk (below_step (by repeat (first|(with_reducible first|exact HB.1|apply bwA|apply bwN|apply bw1|refine bS ?_ GE114.1)|exact HB.1)) hb);have n2_:=Aside0.mk (hbox);have n3_:=Aside0.mk ((by rw [hg];exact (below_size (by repeat (first|(with_reducible first|exact HB.1|apply bwA|apply bwN|apply bw1|refine bS ?_ GE114.1)|exact HB.1))) : w.heap.size ≤ G115));have n4_:=Aside0.mk ((by rw [hg];exact (below_size (by repeat (first|(with_reducible first|exact HB.1|apply bwA|apply bwN|apply bw1|refine bS ?_ GE114.1)|exact HB.1))) : w.heap.size ≤ G115));have n5_:=Aside0.mk ((by rw [hg];exact Nat.ne_of_lt (blk_lt (g:=G114) (o:=.cells #[.int .i64 a0_0,.float .f64 a0_1,.float .f64 a0_2] 24 (0,0)) (by (with_reducible repeat first|apply bN|apply bD|apply bA);exact K114.1)) : G114 ≠ G115));have n6_:=Aside0.mk ((by rw [hg];exact Nat.ne_of_gt (blk_lt (g:=G114) (o:=.cells #[.int .i64 a0_0,.float .f64 a0_1,.float .f64 a0_2] 24 (0,0)) (by (with_reducible repeat first|apply bN|apply bD|apply bA);exact K114.1)) : G115 ≠ G114));clear K114;clear HB;have K114:=n0_;have HB:=n1_;have K115:=n2_;have GW115:=n3_;have GE115:=n4_;have NB114_115:=n5_;have NB115_114:=n6_;clear n0_ n1_ n2_ n3_ n4_ n5_ n6_;clear hb hbox hg;have hnb29:=NB114_115.1;have hnc29:=NB115_114.1;have hcz30_0 : w28.cell? ⟨G114,0,none⟩ = some (.int .i64 a0_0):=(bC K114.1 0).trans rfl;have hcz30_1 : w28.cell? ⟨G114,1,none⟩ = some (.float .f64 a0_1):=(bC K114.1 1).trans rfl;have hcz30_2 : w28.cell? ⟨G114,2,none⟩ = some (.float .f64 a0_2):=(bC K114.1 2).trans rfl;have hfz30_0:=bF K114.1 0;have hfz30_1:=bF K114.1 1;have hfz30_2:=bF K114.1 2)|((with_reducible refine gate_callee (f:=12) rfl ?_);refine goesL_ (some 9) rfl rfl Try.func12 (by kernel_rfl) rfl #[.agg #[.int .i64 a0_0,.float .f64 a0_1,.float .f64 a0_2]] rfl (by (try simp only [List.map_toArray,List.map_cons,List.map_nil]);first|done|rfl|(simp only [List.length_drop,List.length_take];rfl)) ?_;(with_reducible refine (gauge_Check.calls a0_0 a0_1 a0_2 t116 _ A3.out).mono ?_);rintro e w31 ⟨rfl,hb⟩;refine ⟨_,rfl,?_⟩;have n0_:=Aside0.mk (bB (g:=G114) (o:=.cells #[.int .i64 a0_0,.float .f64 a0_1,.float .f64 a0_2] 24 (0,0)) (by (with_reducible repeat first|apply bN|apply bD|apply bA);exact K114.1) hb);have n1_:=Aside0.mk (bB (g:=G115) (o:=.cells #[.int .i64 0,.float .f64 0,.float .f64 0] 24 (0,0)) (by (with_reducible repeat first|apply bN|apply bD|apply bA);exact K115.1) hb);have n2_:=Aside0.mk (below_step (by repeat (first|(with_reducible first|exact HB.1|apply bwA|apply bwN|apply bw1|refine bS ?_ GE114.1|refine bS ?_ GE115.1)|exact HB.1)) hb);clear K114;clear K115;clear HB;have K114:=n0_;have K115:=n1_;have HB:=n2_;clear n0_ n1_ n2_;(try clear hb);(try clear hb2);(try clear hk);(try clear hi))|((with_reducible refine gate_callee (f:=24) rfl ?_);refine goesL_ (some 15) rfl rfl Try.func24 (by kernel_rfl) rfl #[.float .f64 a1] rfl (by (try simp only [List.map_toArray,List.map_cons,List.map_nil]);first|done|rfl|(simp only [List.length_drop,List.length_take];rfl)) ?_;(with_reducible refine (gauge_may.calls a1 true _ A5.out).mono ?_);rintro e w' ⟨rfl,⟨nd,rfl⟩⟩;refine ⟨_,rfl,?_⟩;(try (rw [drewN_self w31];generalize hq_ : World.drewN w31 _ = w31;have n0_ : Aside0 (w31.heap[G114]? = some (.cells #[.int .i64 a0_0,.float .f64 a0_1,.float .f64 a0_2] 24 (0,0))):=⟨by rw [← hq_];exact (by (with_reducible repeat first|apply bN|apply bD|apply bA);exact K114.1)⟩;have n1_ : Aside0 (w31.heap[G115]? = some (.cells #[.int .i64 0,.float .f64 0,.float .f64 0] 24 (0,0))):=⟨by rw [← hq_];exact (by (with_reducible repeat first|apply bN|apply bD|apply bA);exact K115.1)⟩;have n2_ : Aside0 (Below w.heap.size w w31):=⟨by rw [← hq_];exact (by repeat (first|(with_reducible first|exact HB.1|apply bwA|apply bwN|apply bw1|refine bS ?_ GE114.1|refine bS ?_ GE115.1)|exact HB.1))⟩;clear K114 K115 HB hq_;have K114:=n0_;have K115:=n1_;have HB:=n2_;clear n0_ n1_ n2_)))|((with_reducible refine gate_callee (f:=25) rfl ?_);refine goesL_ (some 19) rfl rfl Try.func25 (by kernel_rfl) rfl #[.float .f64 a1] rfl (by (try simp only [List.map_toArray,List.map_cons,List.map_nil]);first|done|rfl|(simp only [List.length_drop,List.length_take];rfl)) ?_;(with_reducible refine (math_Abs.calls a1 t118 _ A7.out).mono ?_);rintro e w' ⟨rfl,⟨nd,rfl⟩⟩;refine ⟨_,rfl,?_⟩;(try (rw [drewN_self w31];generalize hq_ : World.drewN w31 _ = w31;have n0_ : Aside0 (w31.heap[G114]? = some (.cells #[.int .i64 a0_0,.float .f64 a0_1,.float .f64 a0_2] 24 (0,0))):=⟨by rw [← hq_];exact (by (with_reducible repeat first|apply bN|apply bD|apply bA);exact K114.1)⟩;have n1_ : Aside0 (w31.heap[G115]? = some (.cells #[.int .i64 0,.float .f64 0,.float .f64 0] 24 (0,0))):=⟨by rw [← hq_];exact (by (with_reducible repeat first|apply bN|apply bD|apply bA);exact K115.1)⟩;have n2_ : Aside0 (Below w.heap.size w w31):=⟨by rw [← hq_];exact (by repeat (first|(with_reducible first|exact HB.1|apply bwA|apply bwN|apply bw1|refine bS ?_ GE114.1|refine bS ?_ GE115.1)|exact HB.1))⟩;clear K114 K115 HB hq_;have K114:=n0_;have K115:=n1_;have HB:=n2_;clear n0_ n1_ n2_));have hcz32_0 : w31.cell? ⟨G114,0,none⟩ = some (.int .i64 a0_0):=(bC K114.1 0).trans rfl;have hcz32_1 : w31.cell? ⟨G114,1,none⟩ = some (.float .f64 a0_1):=(bC K114.1 1).trans rfl;have hcz32_2 : w31.cell? ⟨G114,2,none⟩ = some (.float .f64 a0_2):=(bC K114.1 2).trans rfl;have hfz32_0:=bF K114.1 0;have hfz32_1:=bF K114.1 1;have hfz32_2:=bF K114.1 2)|((with_reducible refine gate_callee (f:=25) rfl ?_);refine goesL_ (some 38) rfl rfl Try.func25 (by kernel_rfl) rfl #[.float .f64 (fsub a0_1 t118)] rfl (by (try simp only [List.map_toArray,List.map_cons,List.map_nil]);first|done|rfl|(simp only [List.length_drop,List.length_take];rfl)) ?_;(with_reducible refine (math_Abs.calls (fsub a0_1 t118) t119 _ A20.out).mono ?_);rintro e w' ⟨rfl,⟨nd,rfl⟩⟩;refine ⟨_,rfl,?_⟩;have hcz33_0 : w31.cell? ⟨G115,0,none⟩ = some (.int .i64 0):=(bC K115.1 0).trans rfl;have hcz33_1 : w31.cell? ⟨G115,1,none⟩ = some (.float .f64 0):=(bC K115.1 1).trans rfl;have hcz33_2 : w31.cell? ⟨G115,2,none⟩ = some (.float .f64 0):=(bC K115.1 2).trans rfl;have hfz33_0:=bF K115.1 0;have hfz33_1:=bF K115.1 1;have hfz33_2:=bF K115.1 2))
            refine bodyPost_ret (results_ct rfl _ _ G115 24 #[.int .i64 (wrap64 (a0_0 + 1)),.float .f64 (fadd (fmul a0_1 4606056518893174784) (fmul t118 4593671619917905920)),.float .f64 (fadd (fmul a0_2 4604930618986332160) (fmul t119 4598175219545276416))] (0,0) _ rfl (by (with_reducible repeat first|apply bN|apply bD|apply bA);refine blk_put (cs:=#[.int .i64 (wrap64 (a0_0 + 1)),.float .f64 (fadd (fmul a0_1 4606056518893174784) (fmul t118 4593671619917905920)),.float .f64 0]) ?_ 2 _ rfl;(with_reducible repeat first|apply bN|apply bD|apply bA);refine blk_put (cs:=#[.int .i64 (wrap64 (a0_0 + 1)),.float .f64 0,.float .f64 0]) ?_ 1 _ rfl;(with_reducible repeat first|apply bN|apply bD|apply bA);refine blk_put (cs:=#[.int .i64 0,.float .f64 0,.float .f64 0]) ?_ 0 _ rfl;(with_reducible repeat first|apply bN|apply bD|apply bA);refine bZ ?_ NB115_114.1 _;(with_reducible repeat first|apply bN|apply bD|apply bA);refine bZ ?_ NB115_114.1 _;(with_reducible repeat first|apply bN|apply bD|apply bA);refine bZ ?_ NB115_114.1 _;(with_reducible repeat first|apply bN|apply bD|apply bA);exact K115.1) Try.underlying24 rfl (by kernel_rfl)) rfl ?_
            exact ⟨by first|rfl|(simp [errW_none,errW_some] <;> rfl)|(simp [*,errW_none,errW_some] <;> rfl),by repeat (first|(with_reducible first|exact HB.1|apply bwA|apply bwN|apply bw1|refine bS ?_ GE114.1|refine bS ?_ GE115.1)|exact HB.1)⟩
           ·rw [if_neg c26] at H
            exact absurd H (by simp)
          ·rw [if_neg c25] at H
           exact absurd H (by simp)
         ·rw [if_neg c24] at H
          exact absurd H (by simp)
        ·rw [if_neg c23] at H
         exact absurd H (by simp)
       ·rw [if_neg c22] at H
        exact absurd H (by simp)
      ·rw [if_neg c21] at H
       exact absurd H (by simp)
     ·rw [if_neg c19] at H
      exact absurd H (by simp)
    ·rw [if_neg c18] at H
     have c18b0 : decide (a0_0 < 9223372036854775807) = false:=decide_eq_false c18
     clear c18
     by_cases c34 : (fsubOk a0_1 t118) = true
     ·rw [if_pos c34] at H
      have c34b0:=eq_true c34
      have c34b1 : decide ((fsubOk a0_1 t118) = true) = true:=decide_eq_true c34
      clear c34
      replace H:=Option.bind_eq_some_iff.mp H
      obtain ⟨t120,A350,H⟩:=H
      replace H : (if (fmulOk a0_2 4604930618986332160) = true then (if (fmulOk t120 4598175219545276416) = true then (if (faddOk (fmul a0_2 4604930618986332160) (fmul t120 4598175219545276416)) = true then (if (fmulOk a0_1 4606056518893174784) = true then (if (fmulOk t118 4593671619917905920) = true then (if (faddOk (fmul a0_1 4606056518893174784) (fmul t118 4593671619917905920)) = true then (some (a0_0,fadd (fmul a0_1 4606056518893174784) (fmul t118 4593671619917905920),fadd (fmul a0_2 4604930618986332160) (fmul t120 4598175219545276416),0)) else (none)) else (none)) else (none)) else (none)) else (none)) else (none)) = some (r1,r2,r3,r4):=H
      have A35:=Aside0.mk A350
      clear A350
      by_cases c36 : (fmulOk a0_2 4604930618986332160) = true
      ·rw [if_pos c36] at H
       have c36b0:=eq_true c36
       have c36b1 : decide ((fmulOk a0_2 4604930618986332160) = true) = true:=decide_eq_true c36
       clear c36
       by_cases c37 : (fmulOk t120 4598175219545276416) = true
       ·rw [if_pos c37] at H
        have c37b0:=eq_true c37
        have c37b1 : decide ((fmulOk t120 4598175219545276416) = true) = true:=decide_eq_true c37
        clear c37
        by_cases c38 : (faddOk (fmul a0_2 4604930618986332160) (fmul t120 4598175219545276416)) = true
        ·rw [if_pos c38] at H
         have c38b0:=eq_true c38
         have c38b1 : decide ((faddOk (fmul a0_2 4604930618986332160) (fmul t120 4598175219545276416)) = true) = true:=decide_eq_true c38
         clear c38
         by_cases c39 : (fmulOk a0_1 4606056518893174784) = true
         ·rw [if_pos c39] at H
          have c39b0:=eq_true c39
          have c39b1 : decide ((fmulOk a0_1 4606056518893174784) = true) = true:=decide_eq_true c39
          clear c39
          by_cases c40 : (fmulOk t118 4593671619917905920) = true
          ·rw [if_pos c40] at H
           have c40b0:=eq_true c40
           have c40b1 : decide ((fmulOk t118 4593671619917905920) = true) = true:=decide_eq_true c40
           clear c40
           by_cases c41 : (faddOk (fmul a0_1 4606056518893174784) (fmul t118 4593671619917905920)) = true
           ·rw [if_pos c41] at H
            have c41b0:=eq_true c41
            have c41b1 : decide ((faddOk (fmul a0_1 4606056518893174784) (fmul t118 4593671619917905920)) = true) = true:=decide_eq_true c41
            clear c41
            simp only [Option.some.injEq,Prod.mk.injEq] at H
            obtain ⟨rfl,rfl,rfl,rfl⟩:=H
            go_enter Try.func9,Try.ntmps9
            go_wp2_with (first|((with_reducible refine gate_dst (N:=2) rfl ?_);refine box_event ?hg (N:=2) ?hd (cs:=#[.int .i64 a0_0,.float .f64 a0_1,.float .f64 a0_2]) (t:=24) ?hr ?_;(case hd => rfl);(case hg => rfl);(case hr => first|(go_simp;done)|(go_simp;rfl));intro G114 hg w42 hbox hb;have n0_:=Aside0.mk (below_step (by repeat (first|(with_reducible first|exact HB.1|apply bwA|apply bwN|apply bw1)|exact HB.1)) hb);have n1_:=Aside0.mk (hbox);have n2_:=Aside0.mk ((by rw [hg];exact (below_size (by repeat (first|(with_reducible first|exact HB.1|apply bwA|apply bwN|apply bw1)|exact HB.1))) : w.heap.size ≤ G114));have n3_:=Aside0.mk ((by rw [hg];exact (below_size (by repeat (first|(with_reducible first|exact HB.1|apply bwA|apply bwN|apply bw1)|exact HB.1))) : w.heap.size ≤ G114));clear HB;have HB:=n0_;have K114:=n1_;have GW114:=n2_;have GE114:=n3_;clear n0_ n1_ n2_ n3_;clear hb hbox hg)|((with_reducible refine gate_dst (N:=4) rfl ?_);refine box_event ?hg (N:=4) ?hd (cs:=#[.int .i64 0,.float .f64 0,.float .f64 0]) (t:=24) ?hr ?_;(case hd => rfl);(case hg => rfl);(case hr => first|(go_simp;done)|(go_simp;rfl));intro G115 hg w43 hbox hb;have n0_:=Aside0.mk (bB (g:=G114) (o:=.cells #[.int .i64 a0_0,.float .f64 a0_1,.float .f64 a0_2] 24 (0,0)) (by (with_reducible repeat first|apply bN|apply bD|apply bA);exact K114.1) hb);have n1_:=Aside0.mk (below_step (by repeat (first|(with_reducible first|exact HB.1|apply bwA|apply bwN|apply bw1|refine bS ?_ GE114.1)|exact HB.1)) hb);have n2_:=Aside0.mk (hbox);have n3_:=Aside0.mk ((by rw [hg];exact (below_size (by repeat (first|(with_reducible first|exact HB.1|apply bwA|apply bwN|apply bw1|refine bS ?_ GE114.1)|exact HB.1))) : w.heap.size ≤ G115));have n4_:=Aside0.mk ((by rw [hg];exact (below_size (by repeat (first|(with_reducible first|exact HB.1|apply bwA|apply bwN|apply bw1|refine bS ?_ GE114.1)|exact HB.1))) : w.heap.size ≤ G115));have n5_:=Aside0.mk ((by rw [hg];exact Nat.ne_of_lt (blk_lt (g:=G114) (o:=.cells #[.int .i64 a0_0,.float .f64 a0_1,.float .f64 a0_2] 24 (0,0)) (by (with_reducible repeat first|apply bN|apply bD|apply bA);exact K114.1)) : G114 ≠ G115));have n6_:=Aside0.mk ((by rw [hg];exact Nat.ne_of_gt (blk_lt (g:=G114) (o:=.cells #[.int .i64 a0_0,.float .f64 a0_1,.float .f64 a0_2] 24 (0,0)) (by (with_reducible repeat first|apply bN|apply bD|apply bA);exact K114.1)) : G115 ≠ G114));clear K114;clear HB;have K114:=n0_;have HB:=n1_;have K115:=n2_;have GW115:=n3_;have GE115:=n4_;have NB114_115:=n5_;have NB115_114:=n6_;clear n0_ n1_ n2_ n3_ n4_ n5_ n6_;clear hb hbox hg;have hnb44:=NB114_115.1;have hnc44:=NB115_114.1;have hcz45_0 : w43.cell? ⟨G114,0,none⟩ = some (.int .i64 a0_0):=(bC K114.1 0).trans rfl;have hcz45_1 : w43.cell? ⟨G114,1,none⟩ = some (.float .f64 a0_1):=(bC K114.1 1).trans rfl;have hcz45_2 : w43.cell? ⟨G114,2,none⟩ = some (.float .f64 a0_2):=(bC K114.1 2).trans rfl;have hfz45_0:=bF K114.1 0;have hfz45_1:=bF K114.1 1;have hfz45_2:=bF K114.1 2)|((with_reducible refine gate_callee (f:=12) rfl ?_);refine goesL_ (some 9) rfl rfl Try.func12 (by kernel_rfl) rfl #[.agg #[.int .i64 a0_0,.float .f64 a0_1,.float .f64 a0_2]] rfl (by (try simp only [List.map_toArray,List.map_cons,List.map_nil]);first|done|rfl|(simp only [List.length_drop,List.length_take];rfl)) ?_;(with_reducible refine (gauge_Check.calls a0_0 a0_1 a0_2 t116 _ A3.out).mono ?_);rintro e w46 ⟨rfl,hb⟩;refine ⟨_,rfl,?_⟩;have n0_:=Aside0.mk (bB (g:=G114) (o:=.cells #[.int .i64 a0_0,.float .f64 a0_1,.float .f64 a0_2] 24 (0,0)) (by (with_reducible repeat first|apply bN|apply bD|apply bA);exact K114.1) hb);have n1_:=Aside0.mk (bB (g:=G115) (o:=.cells #[.int .i64 0,.float .f64 0,.float .f64 0] 24 (0,0)) (by (with_reducible repeat first|apply bN|apply bD|apply bA);exact K115.1) hb);have n2_:=Aside0.mk (below_step (by repeat (first|(with_reducible first|exact HB.1|apply bwA|apply bwN|apply bw1|refine bS ?_ GE114.1|refine bS ?_ GE115.1)|exact HB.1)) hb);clear K114;clear K115;clear HB;have K114:=n0_;have K115:=n1_;have HB:=n2_;clear n0_ n1_ n2_;(try clear hb);(try clear hb2);(try clear hk);(try clear hi))|((with_reducible refine gate_callee (f:=24) rfl ?_);refine goesL_ (some 15) rfl rfl Try.func24 (by kernel_rfl) rfl #[.float .f64 a1] rfl (by (try simp only [List.map_toArray,List.map_cons,List.map_nil]);first|done|rfl|(simp only [List.length_drop,List.length_take];rfl)) ?_;(with_reducible refine (gauge_may.calls a1 true _ A5.out).mono ?_);rintro e w' ⟨rfl,⟨nd,rfl⟩⟩;refine ⟨_,rfl,?_⟩;(try (rw [drewN_self w46];generalize hq_ : World.drewN w46 _ = w46;have n0_ : Aside0 (w46.heap[G114]? = some (.cells #[.int .i64 a0_0,.float .f64 a0_1,.float .f64 a0_2] 24 (0,0))):=⟨by rw [← hq_];exact (by (with_reducible repeat first|apply bN|apply bD|apply bA);exact K114.1)⟩;have n1_ : Aside0 (w46.heap[G115]? = some (.cells #[.int .i64 0,.float .f64 0,.float .f64 0] 24 (0,0))):=⟨by rw [← hq_];exact (by (with_reducible repeat first|apply bN|apply bD|apply bA);exact K115.1)⟩;have n2_ : Aside0 (Below w.heap.size w w46):=⟨by rw [← hq_];exact (by repeat (first|(with_reducible first|exact HB.1|apply bwA|apply bwN|apply bw1|refine bS ?_ GE114.1|refine bS ?_ GE115.1)|exact HB.1))⟩;clear K114 K115 HB hq_;have K114:=n0_;have K115:=n1_;have HB:=n2_;clear n0_ n1_ n2_)))|((with_reducible refine gate_callee (f:=25) rfl ?_);refine goesL_ (some 19) rfl rfl Try.func25 (by kernel_rfl) rfl #[.float .f64 a1] rfl (by (try simp only [List.map_toArray,List.map_cons,List.map_nil]);first|done|rfl|(simp only [List.length_drop,List.length_take];rfl)) ?_;(with_reducible refine (math_Abs.calls a1 t118 _ A7.out).mono ?_);rintro e w' ⟨rfl,⟨nd,rfl⟩⟩;refine ⟨_,rfl,?_⟩;(try (rw [drewN_self w46];generalize hq_ : World.drewN w46 _ = w46;have n0_ : Aside0 (w46.heap[G114]? = some (.cells #[.int .i64 a0_0,.float .f64 a0_1,.float .f64 a0_2] 24 (0,0))):=⟨by rw [← hq_];exact (by (with_reducible repeat first|apply bN|apply bD|apply bA);exact K114.1)⟩;have n1_ : Aside0 (w46.heap[G115]? = some (.cells #[.int .i64 0,.float .f64 0,.float .f64 0] 24 (0,0))):=⟨by rw [← hq_];exact (by (with_reducible repeat first|apply bN|apply bD|apply bA);exact K115.1)⟩;have n2_ : Aside0 (Below w.heap.size w w46):=⟨by rw [← hq_];exact (by repeat (first|(with_reducible first|exact HB.1|apply bwA|apply bwN|apply bw1|refine bS ?_ GE114.1|refine bS ?_ GE115.1)|exact HB.1))⟩;clear K114 K115 HB hq_;have K114:=n0_;have K115:=n1_;have HB:=n2_;clear n0_ n1_ n2_));have hcz47_0 : w46.cell? ⟨G114,0,none⟩ = some (.int .i64 a0_0):=(bC K114.1 0).trans rfl;have hcz47_1 : w46.cell? ⟨G114,1,none⟩ = some (.float .f64 a0_1):=(bC K114.1 1).trans rfl;have hcz47_2 : w46.cell? ⟨G114,2,none⟩ = some (.float .f64 a0_2):=(bC K114.1 2).trans rfl;have hfz47_0:=bF K114.1 0;have hfz47_1:=bF K114.1 1;have hfz47_2:=bF K114.1 2)|((with_reducible refine gate_callee (f:=25) rfl ?_);refine goesL_ (some 38) rfl rfl Try.func25 (by kernel_rfl) rfl #[.float .f64 (fsub a0_1 t118)] rfl (by (try simp only [List.map_toArray,List.map_cons,List.map_nil]);first|done|rfl|(simp only [List.length_drop,List.length_take];rfl)) ?_;(with_reducible refine (math_Abs.calls (fsub a0_1 t118) t120 _ A35.out).mono ?_);rintro e w' ⟨rfl,⟨nd,rfl⟩⟩;refine ⟨_,rfl,?_⟩;(try (rw [drewN_self w46];generalize hq_ : World.drewN w46 _ = w46;have n0_ : Aside0 (w46.heap[G114]? = some (.cells #[.int .i64 a0_0,.float .f64 a0_1,.float .f64 a0_2] 24 (0,0))):=⟨by rw [← hq_];exact (by (with_reducible repeat first|apply bN|apply bD|apply bA);exact K114.1)⟩;have n1_ : Aside0 (w46.heap[G115]? = some (.cells #[.int .i64 0,.float .f64 0,.float .f64 0] 24 (0,0))):=⟨by rw [← hq_];exact (by (with_reducible repeat first|apply bN|apply bD|apply bA);exact K115.1)⟩;have n2_ : Aside0 (Below w.heap.size w w46):=⟨by rw [← hq_];exact (by repeat (first|(with_reducible first|exact HB.1|apply bwA|apply bwN|apply bw1|refine bS ?_ GE114.1|refine bS ?_ GE115.1)|exact HB.1))⟩;clear K114 K115 HB hq_;have K114:=n0_;have K115:=n1_;have HB:=n2_;clear n0_ n1_ n2_));have hcz48_0 : w46.cell? ⟨G114,0,none⟩ = some (.int .i64 a0_0):=(bC K114.1 0).trans rfl;have hcz48_1 : w46.cell? ⟨G114,1,none⟩ = some (.float .f64 a0_1):=(bC K114.1 1).trans rfl;have hcz48_2 : w46.cell? ⟨G114,2,none⟩ = some (.float .f64 a0_2):=(bC K114.1 2).trans rfl;have hfz48_0:=bF K114.1 0;have hfz48_1:=bF K114.1 1;have hfz48_2:=bF K114.1 2;have hcz49_0 : w46.cell? ⟨G115,0,none⟩ = some (.int .i64 0):=(bC K115.1 0).trans rfl;have hcz49_1 : w46.cell? ⟨G115,1,none⟩ = some (.float .f64 0):=(bC K115.1 1).trans rfl;have hcz49_2 : w46.cell? ⟨G115,2,none⟩ = some (.float .f64 0):=(bC K115.1 2).trans rfl;have hfz49_0:=bF K115.1 0;have hfz49_1:=bF K115.1 1;have hfz49_2:=bF K115.1 2)|((with_reducible refine gate_store (t:=24) (p:=4) rfl ?_);refine store_event (t:=24) (p:=4) (v:=?vo_w50) (w1:=(((((w46.setCell ⟨G114,2,none⟩ (.float .f64 (fadd (fmul a0_2 4604930618986332160) (fmul t120 4598175219545276416)))).setCell ⟨G114,1,none⟩ (.float .f64 (fadd (fmul a0_1 4606056518893174784) (fmul t118 4593671619917905920)))).setCell ⟨G115,0,none⟩ (.int .i64 a0_0)).setCell ⟨G115,1,none⟩ (.float .f64 (fadd (fmul a0_1 4606056518893174784) (fmul t118 4593671619917905920)))).setCell ⟨G115,2,none⟩ (.float .f64 (fadd (fmul a0_2 4604930618986332160) (fmul t120 4598175219545276416))))) ?hg ?ho ?hn ?hr ?_;(case ho => rfl);(case hg => rfl);(case hn => rfl);(case hr => first|(go_simp;done)|(go_simp;rfl));intro w50 hw;have n0_ : Aside0 (w50.heap[G114]? = some (.cells #[.int .i64 a0_0,.float .f64 (fadd (fmul a0_1 4606056518893174784) (fmul t118 4593671619917905920)),.float .f64 (fadd (fmul a0_2 4604930618986332160) (fmul t120 4598175219545276416))] 24 (0,0))):=⟨(by rw [hw];exact (by (with_reducible repeat first|apply bN|apply bD|apply bA);refine bZ ?_ NB114_115.1 _;(with_reducible repeat first|apply bN|apply bD|apply bA);refine bZ ?_ NB114_115.1 _;(with_reducible repeat first|apply bN|apply bD|apply bA);refine bZ ?_ NB114_115.1 _;(with_reducible repeat first|apply bN|apply bD|apply bA);refine blk_put (cs:=#[.int .i64 a0_0,.float .f64 a0_1,.float .f64 (fadd (fmul a0_2 4604930618986332160) (fmul t120 4598175219545276416))]) ?_ 1 _ rfl;(with_reducible repeat first|apply bN|apply bD|apply bA);refine blk_put (cs:=#[.int .i64 a0_0,.float .f64 a0_1,.float .f64 a0_2]) ?_ 2 _ rfl;(with_reducible repeat first|apply bN|apply bD|apply bA);exact K114.1))⟩;have n1_ : Aside0 (w50.heap[G115]? = some (.cells #[.int .i64 a0_0,.float .f64 (fadd (fmul a0_1 4606056518893174784) (fmul t118 4593671619917905920)),.float .f64 (fadd (fmul a0_2 4604930618986332160) (fmul t120 4598175219545276416))] 24 (0,0))):=⟨(by rw [hw];exact (by (with_reducible repeat first|apply bN|apply bD|apply bA);refine blk_put (cs:=#[.int .i64 a0_0,.float .f64 (fadd (fmul a0_1 4606056518893174784) (fmul t118 4593671619917905920)),.float .f64 0]) ?_ 2 _ rfl;(with_reducible repeat first|apply bN|apply bD|apply bA);refine blk_put (cs:=#[.int .i64 a0_0,.float .f64 0,.float .f64 0]) ?_ 1 _ rfl;(with_reducible repeat first|apply bN|apply bD|apply bA);refine blk_put (cs:=#[.int .i64 0,.float .f64 0,.float .f64 0]) ?_ 0 _ rfl;(with_reducible repeat first|apply bN|apply bD|apply bA);refine bZ ?_ NB115_114.1 _;(with_reducible repeat first|apply bN|apply bD|apply bA);refine bZ ?_ NB115_114.1 _;(with_reducible repeat first|apply bN|apply bD|apply bA);exact K115.1))⟩;have n2_ : Aside0 (Below w.heap.size w w50):=⟨(by rw [hw];exact (by repeat (first|(with_reducible first|exact HB.1|apply bwA|apply bwN|apply bw1|refine bS ?_ GE114.1|refine bS ?_ GE115.1)|exact HB.1)))⟩;clear hw;clear K114;clear K115;clear HB;have K114:=n0_;have K115:=n1_;have HB:=n2_;clear n0_ n1_ n2_))
            refine bodyPost_ret (results_ct rfl _ _ G115 24 #[.int .i64 a0_0,.float .f64 (fadd (fmul a0_1 4606056518893174784) (fmul t118 4593671619917905920)),.float .f64 (fadd (fmul a0_2 4604930618986332160) (fmul t120 4598175219545276416))] (0,0) _ rfl (by (with_reducible repeat first|apply bN|apply bD|apply bA);exact K115.1) Try.underlying24 rfl (by kernel_rfl)) rfl ?_
            exact ⟨by first|rfl|(simp [errW_none,errW_some] <;> rfl)|(simp [*,errW_none,errW_some] <;> rfl),by repeat (first|(with_reducible first|exact HB.1|apply bwA|apply bwN|apply bw1|refine bS ?_ GE114.1|refine bS ?_ GE115.1)|exact HB.1)⟩
           ·rw [if_neg c41] at H
            exact absurd H (by simp)
          ·rw [if_neg c40] at H
           exact absurd H (by simp)
         ·rw [if_neg c39] at H
          exact absurd H (by simp)
        ·rw [if_neg c38] at H
         exact absurd H (by simp)
       ·rw [if_neg c37] at H
        exact absurd H (by simp)
      ·rw [if_neg c36] at H
       exact absurd H (by simp)
     ·rw [if_neg c34] at H
      exact absurd H (by simp)
  ·replace c6:=Bool.eq_false_iff.mpr c6
   subst c6
   have H1 : (some (0,0,0,50)) = some (r1,r2,r3,r4):=by rw [if_neg (show ¬ (false = true) by decide)] at H;exact H
   clear H
   have H:=H1
   clear H1
   simp only [Option.some.injEq,Prod.mk.injEq] at H
   obtain ⟨rfl,rfl,rfl,rfl⟩:=H
   go_enter Try.func9,Try.ntmps9
   go_wp2_with (first|((with_reducible refine gate_dst (N:=2) rfl ?_);refine box_event ?hg (N:=2) ?hd (cs:=#[.int .i64 a0_0,.float .f64 a0_1,.float .f64 a0_2]) (t:=24) ?hr ?_;(case hd => rfl);(case hg => rfl);(case hr => first|(go_simp;done)|(go_simp;rfl));intro G114 hg w51 hbox hb;have n0_:=Aside0.mk (below_step (by repeat (first|(with_reducible first|exact HB.1|apply bwA|apply bwN|apply bw1)|exact HB.1)) hb);have n1_:=Aside0.mk (hbox);have n2_:=Aside0.mk ((by rw [hg];exact (below_size (by repeat (first|(with_reducible first|exact HB.1|apply bwA|apply bwN|apply bw1)|exact HB.1))) : w.heap.size ≤ G114));have n3_:=Aside0.mk ((by rw [hg];exact (below_size (by repeat (first|(with_reducible first|exact HB.1|apply bwA|apply bwN|apply bw1)|exact HB.1))) : w.heap.size ≤ G114));clear HB;have HB:=n0_;have K114:=n1_;have GW114:=n2_;have GE114:=n3_;clear n0_ n1_ n2_ n3_;clear hb hbox hg)|((with_reducible refine gate_dst (N:=4) rfl ?_);refine box_event ?hg (N:=4) ?hd (cs:=#[.int .i64 0,.float .f64 0,.float .f64 0]) (t:=24) ?hr ?_;(case hd => rfl);(case hg => rfl);(case hr => first|(go_simp;done)|(go_simp;rfl));intro G115 hg w52 hbox hb;have n0_:=Aside0.mk (bB (g:=G114) (o:=.cells #[.int .i64 a0_0,.float .f64 a0_1,.float .f64 a0_2] 24 (0,0)) (by (with_reducible repeat first|apply bN|apply bD|apply bA);exact K114.1) hb);have n1_:=Aside0.mk (below_step (by repeat (first|(with_reducible first|exact HB.1|apply bwA|apply bwN|apply bw1|refine bS ?_ GE114.1)|exact HB.1)) hb);have n2_:=Aside0.mk (hbox);have n3_:=Aside0.mk ((by rw [hg];exact (below_size (by repeat (first|(with_reducible first|exact HB.1|apply bwA|apply bwN|apply bw1|refine bS ?_ GE114.1)|exact HB.1))) : w.heap.size ≤ G115));have n4_:=Aside0.mk ((by rw [hg];exact (below_size (by repeat (first|(with_reducible first|exact HB.1|apply bwA|apply bwN|apply bw1|refine bS ?_ GE114.1)|exact HB.1))) : w.heap.size ≤ G115));have n5_:=Aside0.mk ((by rw [hg];exact Nat.ne_of_lt (blk_lt (g:=G114) (o:=.cells #[.int .i64 a0_0,.float .f64 a0_1,.float .f64 a0_2] 24 (0,0)) (by (with_reducible repeat first|apply bN|apply bD|apply bA);exact K114.1)) : G114 ≠ G115));have n6_:=Aside0.mk ((by rw [hg];exact Nat.ne_of_gt (blk_lt (g:=G114) (o:=.cells #[.int .i64 a0_0,.float .f64 a0_1,.float .f64 a0_2] 24 (0,0)) (by (with_reducible repeat first|apply bN|apply bD|apply bA);exact K114.1)) : G115 ≠ G114));clear K114;clear HB;have K114:=n0_;have HB:=n1_;have K115:=n2_;have GW115:=n3_;have GE115:=n4_;have NB114_115:=n5_;have NB115_114:=n6_;clear n0_ n1_ n2_ n3_ n4_ n5_ n6_;clear hb hbox hg;have hnb53:=NB114_115.1;have hnc53:=NB115_114.1;have hcz54_0 : w52.cell? ⟨G114,0,none⟩ = some (.int .i64 a0_0):=(bC K114.1 0).trans rfl;have hcz54_1 : w52.cell? ⟨G114,1,none⟩ = some (.float .f64 a0_1):=(bC K114.1 1).trans rfl;have hcz54_2 : w52.cell? ⟨G114,2,none⟩ = some (.float .f64 a0_2):=(bC K114.1 2).trans rfl;have hfz54_0:=bF K114.1 0;have hfz54_1:=bF K114.1 1;have hfz54_2:=bF K114.1 2)|((with_reducible refine gate_callee (f:=12) rfl ?_);refine goesL_ (some 9) rfl rfl Try.func12 (by kernel_rfl) rfl #[.agg #[.int .i64 a0_0,.float .f64 a0_1,.float .f64 a0_2]] rfl (by (try simp only [List.map_toArray,List.map_cons,List.map_nil]);first|done|rfl|(simp only [List.length_drop,List.length_take];rfl)) ?_;(with_reducible refine (gauge_Check.calls a0_0 a0_1 a0_2 t116 _ A3.out).mono ?_);rintro e w55 ⟨rfl,hb⟩;refine ⟨_,rfl,?_⟩;have n0_:=Aside0.mk (bB (g:=G114) (o:=.cells #[.int .i64 a0_0,.float .f64 a0_1,.float .f64 a0_2] 24 (0,0)) (by (with_reducible repeat first|apply bN|apply bD|apply bA);exact K114.1) hb);have n1_:=Aside0.mk (bB (g:=G115) (o:=.cells #[.int .i64 0,.float .f64 0,.float .f64 0] 24 (0,0)) (by (with_reducible repeat first|apply bN|apply bD|apply bA);exact K115.1) hb);have n2_:=Aside0.mk (below_step (by repeat (first|(with_reducible first|exact HB.1|apply bwA|apply bwN|apply bw1|refine bS ?_ GE114.1|refine bS ?_ GE115.1)|exact HB.1)) hb);clear K114;clear K115;clear HB;have K114:=n0_;have K115:=n1_;have HB:=n2_;clear n0_ n1_ n2_;(try clear hb);(try clear hb2);(try clear hk);(try clear hi))|((with_reducible refine gate_callee (f:=24) rfl ?_);refine goesL_ (some 15) rfl rfl Try.func24 (by kernel_rfl) rfl #[.float .f64 a1] rfl (by (try simp only [List.map_toArray,List.map_cons,List.map_nil]);first|done|rfl|(simp only [List.length_drop,List.length_take];rfl)) ?_;(with_reducible refine (gauge_may.calls a1 false _ A5.out).mono ?_);rintro e w' ⟨rfl,⟨nd,rfl⟩⟩;refine ⟨_,rfl,?_⟩;(try (rw [drewN_self w55];generalize hq_ : World.drewN w55 _ = w55;have n0_ : Aside0 (w55.heap[G114]? = some (.cells #[.int .i64 a0_0,.float .f64 a0_1,.float .f64 a0_2] 24 (0,0))):=⟨by rw [← hq_];exact (by (with_reducible repeat first|apply bN|apply bD|apply bA);exact K114.1)⟩;have n1_ : Aside0 (w55.heap[G115]? = some (.cells #[.int .i64 0,.float .f64 0,.float .f64 0] 24 (0,0))):=⟨by rw [← hq_];exact (by (with_reducible repeat first|apply bN|apply bD|apply bA);exact K115.1)⟩;have n2_ : Aside0 (Below w.heap.size w w55):=⟨by rw [← hq_];exact (by repeat (first|(with_reducible first|exact HB.1|apply bwA|apply bwN|apply bw1|refine bS ?_ GE114.1|refine bS ?_ GE115.1)|exact HB.1))⟩;clear K114 K115 HB hq_;have K114:=n0_;have K115:=n1_;have HB:=n2_;clear n0_ n1_ n2_));have hcz56_0 : w55.cell? ⟨G115,0,none⟩ = some (.int .i64 0):=(bC K115.1 0).trans rfl;have hcz56_1 : w55.cell? ⟨G115,1,none⟩ = some (.float .f64 0):=(bC K115.1 1).trans rfl;have hcz56_2 : w55.cell? ⟨G115,2,none⟩ = some (.float .f64 0):=(bC K115.1 2).trans rfl;have hfz56_0:=bF K115.1 0;have hfz56_1:=bF K115.1 1;have hfz56_2:=bF K115.1 2)|((with_reducible refine gate_store (t:=24) (p:=4) rfl ?_);refine store_event (t:=24) (p:=4) (v:=?vo_w57) (w1:=(((w55.setCell ⟨G115,0,none⟩ (.int .i64 0)).setCell ⟨G115,1,none⟩ (.float .f64 0)).setCell ⟨G115,2,none⟩ (.float .f64 0))) ?hg ?ho ?hn ?hr ?_;(case ho => rfl);(case hg => rfl);(case hn => rfl);(case hr => first|(go_simp;done)|(go_simp;rfl));intro w57 hw;have n0_ : Aside0 (w57.heap[G114]? = some (.cells #[.int .i64 a0_0,.float .f64 a0_1,.float .f64 a0_2] 24 (0,0))):=⟨(by rw [hw];exact (by (with_reducible repeat first|apply bN|apply bD|apply bA);refine bZ ?_ NB114_115.1 _;(with_reducible repeat first|apply bN|apply bD|apply bA);refine bZ ?_ NB114_115.1 _;(with_reducible repeat first|apply bN|apply bD|apply bA);refine bZ ?_ NB114_115.1 _;(with_reducible repeat first|apply bN|apply bD|apply bA);exact K114.1))⟩;have n1_ : Aside0 (w57.heap[G115]? = some (.cells #[.int .i64 0,.float .f64 0,.float .f64 0] 24 (0,0))):=⟨(by rw [hw];exact (by (with_reducible repeat first|apply bN|apply bD|apply bA);refine blk_put (cs:=#[.int .i64 0,.float .f64 0,.float .f64 0]) ?_ 2 _ rfl;(with_reducible repeat first|apply bN|apply bD|apply bA);refine blk_put (cs:=#[.int .i64 0,.float .f64 0,.float .f64 0]) ?_ 1 _ rfl;(with_reducible repeat first|apply bN|apply bD|apply bA);refine blk_put (cs:=#[.int .i64 0,.float .f64 0,.float .f64 0]) ?_ 0 _ rfl;(with_reducible repeat first|apply bN|apply bD|apply bA);exact K115.1))⟩;have n2_ : Aside0 (Below w.heap.size w w57):=⟨(by rw [hw];exact (by repeat (first|(with_reducible first|exact HB.1|apply bwA|apply bwN|apply bw1|refine bS ?_ GE114.1|refine bS ?_ GE115.1)|exact HB.1)))⟩;clear hw;clear K114;clear K115;clear HB;have K114:=n0_;have K115:=n1_;have HB:=n2_;clear n0_ n1_ n2_))
   refine bodyPost_ret (results_ct rfl _ _ G115 24 #[.int .i64 0,.float .f64 0,.float .f64 0] (0,0) _ rfl (by (with_reducible repeat first|apply bN|apply bD|apply bA);exact K115.1) Try.underlying24 rfl (by kernel_rfl)) rfl ?_
   exact ⟨by first|rfl|(simp [errW_none,errW_some] <;> rfl)|(simp [*,errW_none,errW_some] <;> rfl),by repeat (first|(with_reducible first|exact HB.1|apply bwA|apply bwN|apply bw1|refine bS ?_ GE114.1|refine bS ?_ GE115.1)|exact HB.1)⟩
 ·rw [if_neg c4] at H
  have c4b0 : (t116 == 0) = false:=beq_eq_false_iff_ne.mpr c4
  have c4b1 : (t116 != 0) = true:=bne_iff_ne.mpr c4
  simp only [Option.some.injEq,Prod.mk.injEq] at H
  obtain ⟨rfl,rfl,rfl,rfl⟩:=H
  go_enter Try.func9,Try.ntmps9
  go_wp2_with (first|((with_reducible refine gate_dst (N:=2) rfl ?_);refine box_event ?hg (N:=2) ?hd (cs:=#[.int .i64 a0_0,.float .f64 a0_1,.float .f64 a0_2]) (t:=24) ?hr ?_;(case hd => rfl);(case hg => rfl);(case hr => first|(go_simp;done)|(go_simp;rfl));intro G114 hg w58 hbox hb;have n0_:=Aside0.mk (below_step (by repeat (first|(with_reducible first|exact HB.1|apply bwA|apply bwN|apply bw1)|exact HB.1)) hb);have n1_:=Aside0.mk (hbox);have n2_:=Aside0.mk ((by rw [hg];exact (below_size (by repeat (first|(with_reducible first|exact HB.1|apply bwA|apply bwN|apply bw1)|exact HB.1))) : w.heap.size ≤ G114));have n3_:=Aside0.mk ((by rw [hg];exact (below_size (by repeat (first|(with_reducible first|exact HB.1|apply bwA|apply bwN|apply bw1)|exact HB.1))) : w.heap.size ≤ G114));clear HB;have HB:=n0_;have K114:=n1_;have GW114:=n2_;have GE114:=n3_;clear n0_ n1_ n2_ n3_;clear hb hbox hg)|((with_reducible refine gate_dst (N:=4) rfl ?_);refine box_event ?hg (N:=4) ?hd (cs:=#[.int .i64 0,.float .f64 0,.float .f64 0]) (t:=24) ?hr ?_;(case hd => rfl);(case hg => rfl);(case hr => first|(go_simp;done)|(go_simp;rfl));intro G115 hg w59 hbox hb;have n0_:=Aside0.mk (bB (g:=G114) (o:=.cells #[.int .i64 a0_0,.float .f64 a0_1,.float .f64 a0_2] 24 (0,0)) (by (with_reducible repeat first|apply bN|apply bD|apply bA);exact K114.1) hb);have n1_:=Aside0.mk (below_step (by repeat (first|(with_reducible first|exact HB.1|apply bwA|apply bwN|apply bw1|refine bS ?_ GE114.1)|exact HB.1)) hb);have n2_:=Aside0.mk (hbox);have n3_:=Aside0.mk ((by rw [hg];exact (below_size (by repeat (first|(with_reducible first|exact HB.1|apply bwA|apply bwN|apply bw1|refine bS ?_ GE114.1)|exact HB.1))) : w.heap.size ≤ G115));have n4_:=Aside0.mk ((by rw [hg];exact (below_size (by repeat (first|(with_reducible first|exact HB.1|apply bwA|apply bwN|apply bw1|refine bS ?_ GE114.1)|exact HB.1))) : w.heap.size ≤ G115));have n5_:=Aside0.mk ((by rw [hg];exact Nat.ne_of_lt (blk_lt (g:=G114) (o:=.cells #[.int .i64 a0_0,.float .f64 a0_1,.float .f64 a0_2] 24 (0,0)) (by (with_reducible repeat first|apply bN|apply bD|apply bA);exact K114.1)) : G114 ≠ G115));have n6_:=Aside0.mk ((by rw [hg];exact Nat.ne_of_gt (blk_lt (g:=G114) (o:=.cells #[.int .i64 a0_0,.float .f64 a0_1,.float .f64 a0_2] 24 (0,0)) (by (with_reducible repeat first|apply bN|apply bD|apply bA);exact K114.1)) : G115 ≠ G114));clear K114;clear HB;have K114:=n0_;have HB:=n1_;have K115:=n2_;have GW115:=n3_;have GE115:=n4_;have NB114_115:=n5_;have NB115_114:=n6_;clear n0_ n1_ n2_ n3_ n4_ n5_ n6_;clear hb hbox hg;have hnb60:=NB114_115.1;have hnc60:=NB115_114.1;have hcz61_0 : w59.cell? ⟨G114,0,none⟩ = some (.int .i64 a0_0):=(bC K114.1 0).trans rfl;have hcz61_1 : w59.cell? ⟨G114,1,none⟩ = some (.float .f64 a0_1):=(bC K114.1 1).trans rfl;have hcz61_2 : w59.cell? ⟨G114,2,none⟩ = some (.float .f64 a0_2):=(bC K114.1 2).trans rfl;have hfz61_0:=bF K114.1 0;have hfz61_1:=bF K114.1 1;have hfz61_2:=bF K114.1 2)|((with_reducible refine gate_callee (f:=12) rfl ?_);refine goesL_ (some 9) rfl rfl Try.func12 (by kernel_rfl) rfl #[.agg #[.int .i64 a0_0,.float .f64 a0_1,.float .f64 a0_2]] rfl (by (try simp only [List.map_toArray,List.map_cons,List.map_nil]);first|done|rfl|(simp only [List.length_drop,List.length_take];rfl)) ?_;(with_reducible refine (gauge_Check.calls a0_0 a0_1 a0_2 t116 _ A3.out).mono ?_);rintro e w62 ⟨rfl,hb⟩;refine ⟨_,rfl,?_⟩;have n0_:=Aside0.mk (bB (g:=G114) (o:=.cells #[.int .i64 a0_0,.float .f64 a0_1,.float .f64 a0_2] 24 (0,0)) (by (with_reducible repeat first|apply bN|apply bD|apply bA);exact K114.1) hb);have n1_:=Aside0.mk (bB (g:=G115) (o:=.cells #[.int .i64 0,.float .f64 0,.float .f64 0] 24 (0,0)) (by (with_reducible repeat first|apply bN|apply bD|apply bA);exact K115.1) hb);have n2_:=Aside0.mk (below_step (by repeat (first|(with_reducible first|exact HB.1|apply bwA|apply bwN|apply bw1|refine bS ?_ GE114.1|refine bS ?_ GE115.1)|exact HB.1)) hb);clear K114;clear K115;clear HB;have K114:=n0_;have K115:=n1_;have HB:=n2_;clear n0_ n1_ n2_;(try clear hb);(try clear hb2);(try clear hk);(try clear hi);have hcz63_0 : w62.cell? ⟨G115,0,none⟩ = some (.int .i64 0):=(bC K115.1 0).trans rfl;have hcz63_1 : w62.cell? ⟨G115,1,none⟩ = some (.float .f64 0):=(bC K115.1 1).trans rfl;have hcz63_2 : w62.cell? ⟨G115,2,none⟩ = some (.float .f64 0):=(bC K115.1 2).trans rfl;have hfz63_0:=bF K115.1 0;have hfz63_1:=bF K115.1 1;have hfz63_2:=bF K115.1 2)|((with_reducible refine gate_store (t:=24) (p:=4) rfl ?_);refine store_event (t:=24) (p:=4) (v:=?vo_w64) (w1:=(((w62.setCell ⟨G115,0,none⟩ (.int .i64 0)).setCell ⟨G115,1,none⟩ (.float .f64 0)).setCell ⟨G115,2,none⟩ (.float .f64 0))) ?hg ?ho ?hn ?hr ?_;(case ho => rfl);(case hg => rfl);(case hn => rfl);(case hr => first|(go_simp;done)|(go_simp;rfl));intro w64 hw;have n0_ : Aside0 (w64.heap[G114]? = some (.cells #[.int .i64 a0_0,.float .f64 a0_1,.float .f64 a0_2] 24 (0,0))):=⟨(by rw [hw];exact (by (with_reducible repeat first|apply bN|apply bD|apply bA);refine bZ ?_ NB114_115.1 _;(with_reducible repeat first|apply bN|apply bD|apply bA);refine bZ ?_ NB114_115.1 _;(with_reducible repeat first|apply bN|apply bD|apply bA);refine bZ ?_ NB114_115.1 _;(with_reducible repeat first|apply bN|apply bD|apply bA);exact K114.1))⟩;have n1_ : Aside0 (w64.heap[G115]? = some (.cells #[.int .i64 0,.float .f64 0,.float .f64 0] 24 (0,0))):=⟨(by rw [hw];exact (by (with_reducible repeat first|apply bN|apply bD|apply bA);refine blk_put (cs:=#[.int .i64 0,.float .f64 0,.float .f64 0]) ?_ 2 _ rfl;(with_reducible repeat first|apply bN|apply bD|apply bA);refine blk_put (cs:=#[.int .i64 0,.float .f64 0,.float .f64 0]) ?_ 1 _ rfl;(with_reducible repeat first|apply bN|apply bD|apply bA);refine blk_put (cs:=#[.int .i64 0,.float .f64 0,.float .f64 0]) ?_ 0 _ rfl;(with_reducible repeat first|apply bN|apply bD|apply bA);exact K115.1))⟩;have n2_ : Aside0 (Below w.heap.size w w64):=⟨(by rw [hw];exact (by repeat (first|(with_reducible first|exact HB.1|apply bwA|apply bwN|apply bw1|refine bS ?_ GE114.1|refine bS ?_ GE115.1)|exact HB.1)))⟩;clear hw;clear K114;clear K115;clear HB;have K114:=n0_;have K115:=n1_;have HB:=n2_;clear n0_ n1_ n2_))
  refine bodyPost_ret (results_ct rfl _ _ G115 24 #[.int .i64 0,.float .f64 0,.float .f64 0] (0,0) _ rfl (by (with_reducible repeat first|apply bN|apply bD|apply bA);exact K115.1) Try.underlying24 rfl (by kernel_rfl)) rfl ?_
  exact ⟨by first|rfl|(simp [errW_none,errW_some] <;> rfl)|(simp [*,errW_none,errW_some] <;> rfl),by repeat (first|(with_reducible first|exact HB.1|apply bwA|apply bwN|apply bw1|refine bS ?_ GE114.1|refine bS ?_ GE115.1)|exact HB.1)⟩

/-! ### beaconlaw05_awake: function 14 -/
def beaconlaw05_awake.f  : Option (Bool) := (gauge_Feed.f 0 0 0 4620693217682128896).bind fun bt121 => (if bt121.2.2.2 = 0 then (some (bt121.1 == 1 && (feq bt121.2.1 4620693217682128896 && (feq bt121.2.2.1 4616189618054758400)))) else (some false))
set_option maxHeartbeats 2500000 in
set_option maxRecDepth 100000 in
theorem beaconlaw05_awake.calls  (r : Bool) (w : World) (h : beaconlaw05_awake.f  = some r) :
  Calls Try.prog 14 #[] w fun e w' => e = .returned (.bool r) ∧ Below w.heap.size w w':=by
 have hu24:=Try.underlying24
 have HB:=Aside0.mk (Below.refl w.heap.size w)
 have H : ((gauge_Feed.f 0 0 0 4620693217682128896).bind fun bt121 => (if bt121.2.2.2 = 0 then (some (bt121.1 == 1 && (feq bt121.2.1 4620693217682128896 && (feq bt121.2.2.1 4616189618054758400)))) else (some false))) = some r:=h
 clear h
 replace H:=Option.bind_eq_some_iff.mp H
 obtain ⟨⟨t121,t122,t123,t124⟩,A10,H⟩:=H
 replace H : (if t124 = 0 then (some (t121 == 1 && (feq t122 4620693217682128896 && (feq t123 4616189618054758400)))) else (some false)) = some r:=H
 have A1:=Aside0.mk A10
 clear A10
 by_cases c2 : t124 = 0
 ·rw [if_pos c2] at H
  have c2b0 : (t124 == 0) = true:=beq_iff_eq.mpr c2
  have c2b1 : (t124 != 0) = false:=bne_eq_false_iff_eq.mpr c2
  clear c2
  obtain rfl:=Option.some.inj H
  go_enter Try.func14,Try.ntmps14
  go_wp2_with (first|((with_reducible refine gate_callee (f:=9) rfl ?_);refine goesL_ (some 5) rfl rfl Try.func9 (by kernel_rfl) rfl #[.agg #[.int .i64 0,.float .f64 0,.float .f64 0],.float .f64 4620693217682128896] rfl (by (try simp only [List.map_toArray,List.map_cons,List.map_nil]);first|done|rfl|(simp only [List.length_drop,List.length_take];rfl)) ?_;(with_reducible refine (gauge_Feed.calls 0 0 0 4620693217682128896 t121 t122 t123 t124 _ A1.out).mono ?_);rintro e w3 ⟨rfl,hb⟩;refine ⟨_,rfl,?_⟩;have n0_:=Aside0.mk (below_step (by repeat (first|(with_reducible first|exact HB.1|apply bwA|apply bwN|apply bw1)|exact HB.1)) hb);clear HB;have HB:=n0_;clear n0_;(try clear hb);(try clear hb2);(try clear hk);(try clear hi))|((with_reducible refine gate_dst (N:=1) rfl ?_);refine box_event ?hg (N:=1) ?hd (cs:=#[.int .i64 0,.float .f64 0,.float .f64 0]) (t:=24) ?hr ?_;(case hd => rfl);(case hg => rfl);(case hr => first|(go_simp;done)|(go_simp;rfl));intro G125 hg w4 hbox hb;have n0_:=Aside0.mk (below_step (by repeat (first|(with_reducible first|exact HB.1|apply bwA|apply bwN|apply bw1)|exact HB.1)) hb);have n1_:=Aside0.mk (hbox);have n2_:=Aside0.mk ((by rw [hg];exact (below_size (by repeat (first|(with_reducible first|exact HB.1|apply bwA|apply bwN|apply bw1)|exact HB.1))) : w.heap.size ≤ G125));have n3_:=Aside0.mk ((by rw [hg];exact (below_size (by repeat (first|(with_reducible first|exact HB.1|apply bwA|apply bwN|apply bw1)|exact HB.1))) : w.heap.size ≤ G125));clear HB;have HB:=n0_;have K125:=n1_;have GW125:=n2_;have GE125:=n3_;clear n0_ n1_ n2_ n3_;clear hb hbox hg;have hcz5_0 : w4.cell? ⟨G125,0,none⟩ = some (.int .i64 0):=(bC K125.1 0).trans rfl;have hcz5_1 : w4.cell? ⟨G125,1,none⟩ = some (.float .f64 0):=(bC K125.1 1).trans rfl;have hcz5_2 : w4.cell? ⟨G125,2,none⟩ = some (.float .f64 0):=(bC K125.1 2).trans rfl;have hfz5_0:=bF K125.1 0;have hfz5_1:=bF K125.1 1;have hfz5_2:=bF K125.1 2)|((with_reducible refine gate_store (t:=24) (p:=1) rfl ?_);refine store_event (t:=24) (p:=1) (v:=?vo_w6) (w1:=(((w4.setCell ⟨G125,0,none⟩ (.int .i64 t121)).setCell ⟨G125,1,none⟩ (.float .f64 t122)).setCell ⟨G125,2,none⟩ (.float .f64 t123))) ?hg ?ho ?hn ?hr ?_;(case ho => rfl);(case hg => rfl);(case hn => rfl);(case hr => first|(go_simp;done)|(go_simp;rfl));intro w6 hw;have n0_ : Aside0 (w6.heap[G125]? = some (.cells #[.int .i64 t121,.float .f64 t122,.float .f64 t123] 24 (0,0))):=⟨(by rw [hw];exact (by (with_reducible repeat first|apply bN|apply bD|apply bA);refine blk_put (cs:=#[.int .i64 t121,.float .f64 t122,.float .f64 0]) ?_ 2 _ rfl;(with_reducible repeat first|apply bN|apply bD|apply bA);refine blk_put (cs:=#[.int .i64 t121,.float .f64 0,.float .f64 0]) ?_ 1 _ rfl;(with_reducible repeat first|apply bN|apply bD|apply bA);refine blk_put (cs:=#[.int .i64 0,.float .f64 0,.float .f64 0]) ?_ 0 _ rfl;(with_reducible repeat first|apply bN|apply bD|apply bA);exact K125.1))⟩;have n1_ : Aside0 (Below w.heap.size w w6):=⟨(by rw [hw];exact (by repeat (first|(with_reducible first|exact HB.1|apply bwA|apply bwN|apply bw1|refine bS ?_ GE125.1)|exact HB.1)))⟩;clear hw;clear K125;clear HB;have K125:=n0_;have HB:=n1_;clear n0_ n1_;have hcz7_0 : w6.cell? ⟨G125,0,none⟩ = some (.int .i64 t121):=(bC K125.1 0).trans rfl;have hcz7_1 : w6.cell? ⟨G125,1,none⟩ = some (.float .f64 t122):=(bC K125.1 1).trans rfl;have hcz7_2 : w6.cell? ⟨G125,2,none⟩ = some (.float .f64 t123):=(bC K125.1 2).trans rfl;have hfz7_0:=bF K125.1 0;have hfz7_1:=bF K125.1 1;have hfz7_2:=bF K125.1 2))
  go_ret
  exact ⟨by first|rfl|(simp [errW_none,errW_some] <;> rfl)|(simp [*,errW_none,errW_some] <;> rfl),by repeat (first|(with_reducible first|exact HB.1|apply bwA|apply bwN|apply bw1|refine bS ?_ GE125.1)|exact HB.1)⟩
 ·rw [if_neg c2] at H
  have c2b0 : (t124 == 0) = false:=beq_eq_false_iff_ne.mpr c2
  have c2b1 : (t124 != 0) = true:=bne_iff_ne.mpr c2
  obtain rfl:=Option.some.inj H
  go_enter Try.func14,Try.ntmps14
  go_wp2_with (first|((with_reducible refine gate_callee (f:=9) rfl ?_);refine goesL_ (some 5) rfl rfl Try.func9 (by kernel_rfl) rfl #[.agg #[.int .i64 0,.float .f64 0,.float .f64 0],.float .f64 4620693217682128896] rfl (by (try simp only [List.map_toArray,List.map_cons,List.map_nil]);first|done|rfl|(simp only [List.length_drop,List.length_take];rfl)) ?_;(with_reducible refine (gauge_Feed.calls 0 0 0 4620693217682128896 t121 t122 t123 t124 _ A1.out).mono ?_);rintro e w8 ⟨rfl,hb⟩;refine ⟨_,rfl,?_⟩;have n0_:=Aside0.mk (below_step (by repeat (first|(with_reducible first|exact HB.1|apply bwA|apply bwN|apply bw1)|exact HB.1)) hb);clear HB;have HB:=n0_;clear n0_;(try clear hb);(try clear hb2);(try clear hk);(try clear hi))|((with_reducible refine gate_dst (N:=1) rfl ?_);refine box_event ?hg (N:=1) ?hd (cs:=#[.int .i64 0,.float .f64 0,.float .f64 0]) (t:=24) ?hr ?_;(case hd => rfl);(case hg => rfl);(case hr => first|(go_simp;done)|(go_simp;rfl));intro G125 hg w9 hbox hb;have n0_:=Aside0.mk (below_step (by repeat (first|(with_reducible first|exact HB.1|apply bwA|apply bwN|apply bw1)|exact HB.1)) hb);have n1_:=Aside0.mk (hbox);have n2_:=Aside0.mk ((by rw [hg];exact (below_size (by repeat (first|(with_reducible first|exact HB.1|apply bwA|apply bwN|apply bw1)|exact HB.1))) : w.heap.size ≤ G125));have n3_:=Aside0.mk ((by rw [hg];exact (below_size (by repeat (first|(with_reducible first|exact HB.1|apply bwA|apply bwN|apply bw1)|exact HB.1))) : w.heap.size ≤ G125));clear HB;have HB:=n0_;have K125:=n1_;have GW125:=n2_;have GE125:=n3_;clear n0_ n1_ n2_ n3_;clear hb hbox hg;have hcz10_0 : w9.cell? ⟨G125,0,none⟩ = some (.int .i64 0):=(bC K125.1 0).trans rfl;have hcz10_1 : w9.cell? ⟨G125,1,none⟩ = some (.float .f64 0):=(bC K125.1 1).trans rfl;have hcz10_2 : w9.cell? ⟨G125,2,none⟩ = some (.float .f64 0):=(bC K125.1 2).trans rfl;have hfz10_0:=bF K125.1 0;have hfz10_1:=bF K125.1 1;have hfz10_2:=bF K125.1 2)|((with_reducible refine gate_store (t:=24) (p:=1) rfl ?_);refine store_event (t:=24) (p:=1) (v:=?vo_w11) (w1:=(((w9.setCell ⟨G125,0,none⟩ (.int .i64 t121)).setCell ⟨G125,1,none⟩ (.float .f64 t122)).setCell ⟨G125,2,none⟩ (.float .f64 t123))) ?hg ?ho ?hn ?hr ?_;(case ho => rfl);(case hg => rfl);(case hn => rfl);(case hr => first|(go_simp;done)|(go_simp;rfl));intro w11 hw;have n0_ : Aside0 (w11.heap[G125]? = some (.cells #[.int .i64 t121,.float .f64 t122,.float .f64 t123] 24 (0,0))):=⟨(by rw [hw];exact (by (with_reducible repeat first|apply bN|apply bD|apply bA);refine blk_put (cs:=#[.int .i64 t121,.float .f64 t122,.float .f64 0]) ?_ 2 _ rfl;(with_reducible repeat first|apply bN|apply bD|apply bA);refine blk_put (cs:=#[.int .i64 t121,.float .f64 0,.float .f64 0]) ?_ 1 _ rfl;(with_reducible repeat first|apply bN|apply bD|apply bA);refine blk_put (cs:=#[.int .i64 0,.float .f64 0,.float .f64 0]) ?_ 0 _ rfl;(with_reducible repeat first|apply bN|apply bD|apply bA);exact K125.1))⟩;have n1_ : Aside0 (Below w.heap.size w w11):=⟨(by rw [hw];exact (by repeat (first|(with_reducible first|exact HB.1|apply bwA|apply bwN|apply bw1|refine bS ?_ GE125.1)|exact HB.1)))⟩;clear hw;clear K125;clear HB;have K125:=n0_;have HB:=n1_;clear n0_ n1_))
  go_ret
  exact ⟨by first|rfl|(simp [errW_none,errW_some] <;> rfl)|(simp [*,errW_none,errW_some] <;> rfl),by repeat (first|(with_reducible first|exact HB.1|apply bwA|apply bwN|apply bw1|refine bS ?_ GE125.1)|exact HB.1)⟩

/-! ### math_Copysign: function 59 -/
def math_Copysign.f (a0 : Nat) (a1 : Nat) : Option (Nat) := some (ffrom (Go.bits .or .u64 (Go.bits .andNot .u64 (fbits a0) 9223372036854775808) (Go.bits .and .u64 (fbits a1) 9223372036854775808)))
set_option maxHeartbeats 2500000 in
set_option maxRecDepth 100000 in
theorem math_Copysign.calls (a0 : Nat) (a1 : Nat) (r : Nat) (w : World) (h : math_Copysign.f a0 a1 = some r) :
  Calls Try.prog 59 #[.float .f64 a0,.float .f64 a1] w fun e w' => e = .returned (.float .f64 r) ∧ Drawn0 w w':=by
 have H : (some (ffrom (Go.bits .or .u64 (Go.bits .andNot .u64 (fbits a0) 9223372036854775808) (Go.bits .and .u64 (fbits a1) 9223372036854775808)))) = some r:=h
 clear h
 obtain rfl:=Option.some.inj H
 go_enter Try.func59,Try.ntmps59
 go_wp2
 go_ret
 exact ⟨by first|rfl|(simp;done)|(simp [*];done),by repeat (first|exact Drawn0.refl _|apply Drawn0.step)⟩

/-! ### math_trunc: function 54 -/
def math_trunc.f (a0 : Nat) : Option (Nat) := (math_Abs.f a0).bind fun t126 => (if (flt t126 4607182418800017408) = true then ((math_Copysign.f 0 a0).bind fun t127 => (some t127)) else (if (IntKind.u64.wrap ((Go.bits .and .u64 ((fbits a0) / 4503599627370496) 2047) - 1023)) < 52 then (if 0 ≤ (IntKind.u64.wrap (52 - (IntKind.u64.wrap ((Go.bits .and .u64 ((fbits a0) / 4503599627370496) 2047) - 1023)))) then (some (ffrom (Go.bits .andNot .u64 (fbits a0) (IntKind.u64.wrap ((shl .u64 1 (IntKind.u64.wrap (52 - (IntKind.u64.wrap ((Go.bits .and .u64 ((fbits a0) / 4503599627370496) 2047) - 1023))))) - 1))))) else (none)) else (some (ffrom (fbits a0)))))
set_option maxHeartbeats 2500000 in
set_option maxRecDepth 100000 in
theorem math_trunc.calls (a0 : Nat) (r : Nat) (w : World) (h : math_trunc.f a0 = some r) :
  Calls Try.prog 54 #[.float .f64 a0] w fun e w' => e = .returned (.float .f64 r) ∧ Drawn0 w w':=by
 have H : ((math_Abs.f a0).bind fun t126 => (if (flt t126 4607182418800017408) = true then ((math_Copysign.f 0 a0).bind fun t127 => (some t127)) else (if (IntKind.u64.wrap ((Go.bits .and .u64 ((fbits a0) / 4503599627370496) 2047) - 1023)) < 52 then (if 0 ≤ (IntKind.u64.wrap (52 - (IntKind.u64.wrap ((Go.bits .and .u64 ((fbits a0) / 4503599627370496) 2047) - 1023)))) then (some (ffrom (Go.bits .andNot .u64 (fbits a0) (IntKind.u64.wrap ((shl .u64 1 (IntKind.u64.wrap (52 - (IntKind.u64.wrap ((Go.bits .and .u64 ((fbits a0) / 4503599627370496) 2047) - 1023))))) - 1))))) else (none)) else (some (ffrom (fbits a0)))))) = some r:=h
 clear h
 replace H:=Option.bind_eq_some_iff.mp H
 obtain ⟨t126,A20,H⟩:=H
 replace H : (if (flt t126 4607182418800017408) = true then ((math_Copysign.f 0 a0).bind fun t127 => (some t127)) else (if (IntKind.u64.wrap ((Go.bits .and .u64 ((fbits a0) / 4503599627370496) 2047) - 1023)) < 52 then (if 0 ≤ (IntKind.u64.wrap (52 - (IntKind.u64.wrap ((Go.bits .and .u64 ((fbits a0) / 4503599627370496) 2047) - 1023)))) then (some (ffrom (Go.bits .andNot .u64 (fbits a0) (IntKind.u64.wrap ((shl .u64 1 (IntKind.u64.wrap (52 - (IntKind.u64.wrap ((Go.bits .and .u64 ((fbits a0) / 4503599627370496) 2047) - 1023))))) - 1))))) else (none)) else (some (ffrom (fbits a0))))) = some r:=H
 have A2:=Aside0.mk A20
 clear A20
 by_cases c3 : (flt t126 4607182418800017408) = true
 ·rw [if_pos c3] at H
  have c3b0 : (flt t126 4607182418800017408) = true:=c3
  clear c3
  replace H:=Option.bind_eq_some_iff.mp H
  obtain ⟨t127,A40,H⟩:=H
  replace H : (some t127) = some r:=H
  have A4:=Aside0.mk A40
  clear A40
  obtain rfl:=Option.some.inj H
  go_enter Try.func54,Try.ntmps54
  go_wp2_with (first|((with_reducible refine gate_callee (f:=25) rfl ?_);refine goesL_ (some 6) rfl rfl Try.func25 (by kernel_rfl) rfl #[.float .f64 a0] rfl (by (try simp only [List.map_toArray,List.map_cons,List.map_nil]);first|done|rfl|(simp only [List.length_drop,List.length_take];rfl)) ?_;(with_reducible refine (math_Abs.calls a0 t126 _ A2.out).mono ?_);rintro e w' ⟨rfl,⟨nd,rfl⟩⟩;refine ⟨_,rfl,?_⟩)|((with_reducible refine gate_callee (f:=59) rfl ?_);refine goesL_ (some 9) rfl rfl Try.func59 (by kernel_rfl) rfl #[.float .f64 0,.float .f64 a0] rfl (by (try simp only [List.map_toArray,List.map_cons,List.map_nil]);first|done|rfl|(simp only [List.length_drop,List.length_take];rfl)) ?_;(with_reducible refine (math_Copysign.calls 0 a0 t127 _ A4.out).mono ?_);rintro e w' ⟨rfl,⟨nd,rfl⟩⟩;refine ⟨_,rfl,?_⟩))
  go_ret
  exact ⟨by first|rfl|(simp;done)|(simp [*];done),by repeat (first|exact Drawn0.refl _|apply Drawn0.step)⟩
 ·rw [if_neg c3] at H
  have c3b0 : (flt t126 4607182418800017408) = false:=by simpa using c3
  clear c3
  by_cases c5 : (IntKind.u64.wrap ((Go.bits .and .u64 ((fbits a0) / 4503599627370496) 2047) - 1023)) < 52
  ·rw [if_pos c5] at H
   have c5b0 : decide ((IntKind.u64.wrap ((Go.bits .and .u64 ((fbits a0) / 4503599627370496) 2047) - 1023)) < 52) = true:=decide_eq_true c5
   clear c5
   obtain ⟨ji6,hji6⟩ : ∃ j_ : Int,(IntKind.u64.wrap (52 - (IntKind.u64.wrap ((Go.bits .and .u64 ((fbits a0) / 4503599627370496) 2047) - 1023)))) = j_:=⟨_,rfl⟩
   replace H : (if 0 ≤ (ji6) then (some (ffrom (Go.bits .andNot .u64 (fbits a0) (IntKind.u64.wrap ((shl .u64 1 (ji6)) - 1))))) else (none)) = some r:=by first|(rw [hji6] at H;exact H)|(simp only [hji6] at H ⊢;exact H)
   (try rw [hji6] at A2)
   by_cases c7 : 0 ≤ (ji6)
   ·rw [if_pos c7] at H
    have c7b0:=eq_true c7
    have c7b1 : decide (0 ≤ (ji6)) = true:=decide_eq_true c7
    clear c7
    obtain ⟨ji8,hji8⟩ : ∃ j_ : Int,(shl .u64 1 (ji6)) = j_:=⟨_,rfl⟩
    replace H : (some (ffrom (Go.bits .andNot .u64 (fbits a0) (IntKind.u64.wrap ((ji8) - 1))))) = some r:=by first|(rw [hji8] at H;exact H)|(simp only [hji8] at H ⊢;exact H)
    (try rw [hji8] at A2)
    have hji8_ : (IntKind.u64.wrap (1 * 2 ^ min (ji6).toNat 64)) = ji8:=hji8
    have hji8z : (ji6) ≤ 64 → (IntKind.u64.wrap (1 * 2 ^ (ji6).toNat)) = ji8:=shl_small hji8
    have hji8u : (IntKind.u64.wrap (2 ^ min (ji6).toNat 64)) = ji8:=by have h_:=hji8_;rw [Int.one_mul] at h_;exact h_
    have hji8v : (ji6) ≤ 64 → (IntKind.u64.wrap (2 ^ (ji6).toNat)) = ji8:=fun hle_ => by have h_:=hji8z hle_;rw [Int.one_mul] at h_;exact h_
    obtain rfl:=Option.some.inj H
    go_enter Try.func54,Try.ntmps54
    go_wp2_with (first|((with_reducible refine gate_callee (f:=25) rfl ?_);refine goesL_ (some 6) rfl rfl Try.func25 (by kernel_rfl) rfl #[.float .f64 a0] rfl (by (try simp only [List.map_toArray,List.map_cons,List.map_nil]);first|done|rfl|(simp only [List.length_drop,List.length_take];rfl)) ?_;(with_reducible refine (math_Abs.calls a0 t126 _ A2.out).mono ?_);rintro e w' ⟨rfl,⟨nd,rfl⟩⟩;refine ⟨_,rfl,?_⟩))
    go_ret
    exact ⟨by first|rfl|(simp;done)|(simp only [← hji6,← hji8] <;> (first|rfl|simp))|(simp [*];done),by repeat (first|exact Drawn0.refl _|apply Drawn0.step)⟩
   ·rw [if_neg c7] at H
    exact absurd H (by simp)
  ·rw [if_neg c5] at H
   have c5b0 : decide ((IntKind.u64.wrap ((Go.bits .and .u64 ((fbits a0) / 4503599627370496) 2047) - 1023)) < 52) = false:=decide_eq_false c5
   clear c5
   obtain rfl:=Option.some.inj H
   go_enter Try.func54,Try.ntmps54
   go_wp2_with (first|((with_reducible refine gate_callee (f:=25) rfl ?_);refine goesL_ (some 6) rfl rfl Try.func25 (by kernel_rfl) rfl #[.float .f64 a0] rfl (by (try simp only [List.map_toArray,List.map_cons,List.map_nil]);first|done|rfl|(simp only [List.length_drop,List.length_take];rfl)) ?_;(with_reducible refine (math_Abs.calls a0 t126 _ A2.out).mono ?_);rintro e w' ⟨rfl,⟨nd,rfl⟩⟩;refine ⟨_,rfl,?_⟩))
   go_ret
   exact ⟨by first|rfl|(simp;done)|(simp [*];done),by repeat (first|exact Drawn0.refl _|apply Drawn0.step)⟩

/-! ### math_Trunc: function 48 -/
def math_Trunc.f (a0 : Nat) : Option (Nat) := if (froundOk a0) = true then (some (fround .zero a0)) else (none)
set_option maxHeartbeats 2500000 in
set_option maxRecDepth 100000 in
theorem math_Trunc.calls (a0 : Nat) (r : Nat) (w : World) (h : math_Trunc.f a0 = some r) :
  Calls Try.prog 48 #[.float .f64 a0] w fun e w' => e = .returned (.float .f64 r) ∧ Drawn0 w w':=by
 have H : (if (froundOk a0) = true then (some (fround .zero a0)) else (none)) = some r:=h
 clear h
 by_cases c2 : (froundOk a0) = true
 ·rw [if_pos c2] at H
  have c2b0:=eq_true c2
  have c2b1 : decide ((froundOk a0) = true) = true:=decide_eq_true c2
  clear c2
  obtain rfl:=Option.some.inj H
  go_enter Try.func48,Try.ntmps48
  go_wp2
  go_ret
  exact ⟨by first|rfl|(simp;done)|(simp [*];done),by repeat (first|exact Drawn0.refl _|apply Drawn0.step)⟩
 ·rw [if_neg c2] at H
  exact absurd H (by simp)

/-! ### metric_quarter: function 47 -/
def metric_quarter.f (a0 : Nat) : Option (Bool) := if (fmulOk a0 4616189618054758400) = true then ((math_Trunc.f (fmul a0 4616189618054758400)).bind fun t128 => (some (feq (fmul a0 4616189618054758400) t128))) else (none)
set_option maxHeartbeats 2500000 in
set_option maxRecDepth 100000 in
theorem metric_quarter.calls (a0 : Nat) (r : Bool) (w : World) (h : metric_quarter.f a0 = some r) :
  Calls Try.prog 47 #[.float .f64 a0] w fun e w' => e = .returned (.bool r) ∧ Drawn0 w w':=by
 have H : (if (fmulOk a0 4616189618054758400) = true then ((math_Trunc.f (fmul a0 4616189618054758400)).bind fun t128 => (some (feq (fmul a0 4616189618054758400) t128))) else (none)) = some r:=h
 clear h
 by_cases c2 : (fmulOk a0 4616189618054758400) = true
 ·rw [if_pos c2] at H
  have c2b0:=eq_true c2
  have c2b1 : decide ((fmulOk a0 4616189618054758400) = true) = true:=decide_eq_true c2
  clear c2
  replace H:=Option.bind_eq_some_iff.mp H
  obtain ⟨t128,A30,H⟩:=H
  replace H : (some (feq (fmul a0 4616189618054758400) t128)) = some r:=H
  have A3:=Aside0.mk A30
  clear A30
  obtain rfl:=Option.some.inj H
  go_enter Try.func47,Try.ntmps47
  go_wp2_with (first|((with_reducible refine gate_callee (f:=48) rfl ?_);refine goesL_ (some 8) rfl rfl Try.func48 (by kernel_rfl) rfl #[.float .f64 (fmul a0 4616189618054758400)] rfl (by (try simp only [List.map_toArray,List.map_cons,List.map_nil]);first|done|rfl|(simp only [List.length_drop,List.length_take];rfl)) ?_;(with_reducible refine (math_Trunc.calls (fmul a0 4616189618054758400) t128 _ A3.out).mono ?_);rintro e w' ⟨rfl,⟨nd,rfl⟩⟩;refine ⟨_,rfl,?_⟩))
  go_ret
  exact ⟨by first|rfl|(simp;done)|(simp [*];done),by repeat (first|exact Drawn0.refl _|apply Drawn0.step)⟩
 ·rw [if_neg c2] at H
  exact absurd H (by simp)

/-! ### metric_within: function 39 -/
def metric_within.f (a0 : Nat) (a1 : Nat) : Option (Int) := (math_IsNaN.f a0).bind fun t129 => (if t129 = true then (some 10) else ((math_IsInf.f a0 0).bind fun t130 => (if t130 = true then (some 11) else ((math_Signbit.f a0).bind fun t131 => (if t131 = true then (some 12) else (if (flt a0 4607182418800017408) = true then (some 13) else (if (flt a1 a0) = true then (some 14) else ((metric_quarter.f a0).bind fun t132 => (if t132 = true then (some 0) else (some 15))))))))))
set_option maxHeartbeats 2500000 in
set_option maxRecDepth 100000 in
theorem metric_within.calls (a0 : Nat) (a1 : Nat) (r : Int) (w : World) (h : metric_within.f a0 a1 = some r) :
  Calls Try.prog 39 #[.float .f64 a0,.float .f64 a1] w fun e w' => e = .returned (.int .i64 r) ∧ Drawn0 w w':=by
 have H : ((math_IsNaN.f a0).bind fun t129 => (if t129 = true then (some 10) else ((math_IsInf.f a0 0).bind fun t130 => (if t130 = true then (some 11) else ((math_Signbit.f a0).bind fun t131 => (if t131 = true then (some 12) else (if (flt a0 4607182418800017408) = true then (some 13) else (if (flt a1 a0) = true then (some 14) else ((metric_quarter.f a0).bind fun t132 => (if t132 = true then (some 0) else (some 15))))))))))) = some r:=h
 clear h
 replace H:=Option.bind_eq_some_iff.mp H
 obtain ⟨t129,A30,H⟩:=H
 replace H : (if t129 = true then (some 10) else ((math_IsInf.f a0 0).bind fun t130 => (if t130 = true then (some 11) else ((math_Signbit.f a0).bind fun t131 => (if t131 = true then (some 12) else (if (flt a0 4607182418800017408) = true then (some 13) else (if (flt a1 a0) = true then (some 14) else ((metric_quarter.f a0).bind fun t132 => (if t132 = true then (some 0) else (some 15)))))))))) = some r:=H
 have A3:=Aside0.mk A30
 clear A30
 by_cases c4 : t129 = true
 ·subst c4
  have H1 : (some 10) = some r:=by rw [if_pos rfl] at H;exact H
  clear H
  have H:=H1
  clear H1
  obtain rfl:=Option.some.inj H
  go_enter Try.func39,Try.ntmps39
  go_wp2_with (first|((with_reducible refine gate_callee (f:=37) rfl ?_);refine goesL_ (some 7) rfl rfl Try.func37 (by kernel_rfl) rfl #[.float .f64 a0] rfl (by (try simp only [List.map_toArray,List.map_cons,List.map_nil]);first|done|rfl|(simp only [List.length_drop,List.length_take];rfl)) ?_;(with_reducible refine (math_IsNaN.calls a0 true _ A3.out).mono ?_);rintro e w' ⟨rfl,⟨nd,rfl⟩⟩;refine ⟨_,rfl,?_⟩))
  go_ret
  exact ⟨by first|rfl|(simp;done)|(simp [*];done),by repeat (first|exact Drawn0.refl _|apply Drawn0.step)⟩
 ·replace c4:=Bool.eq_false_iff.mpr c4
  subst c4
  have H1 : ((math_IsInf.f a0 0).bind fun t130 => (if t130 = true then (some 11) else ((math_Signbit.f a0).bind fun t131 => (if t131 = true then (some 12) else (if (flt a0 4607182418800017408) = true then (some 13) else (if (flt a1 a0) = true then (some 14) else ((metric_quarter.f a0).bind fun t132 => (if t132 = true then (some 0) else (some 15))))))))) = some r:=by rw [if_neg (show ¬ (false = true) by decide)] at H;exact H
  clear H
  have H:=H1
  clear H1
  replace H:=Option.bind_eq_some_iff.mp H
  obtain ⟨t130,A50,H⟩:=H
  replace H : (if t130 = true then (some 11) else ((math_Signbit.f a0).bind fun t131 => (if t131 = true then (some 12) else (if (flt a0 4607182418800017408) = true then (some 13) else (if (flt a1 a0) = true then (some 14) else ((metric_quarter.f a0).bind fun t132 => (if t132 = true then (some 0) else (some 15)))))))) = some r:=H
  have A5:=Aside0.mk A50
  clear A50
  by_cases c6 : t130 = true
  ·subst c6
   have H1 : (some 11) = some r:=by rw [if_pos rfl] at H;exact H
   clear H
   have H:=H1
   clear H1
   obtain rfl:=Option.some.inj H
   go_enter Try.func39,Try.ntmps39
   go_wp2_with (first|((with_reducible refine gate_callee (f:=37) rfl ?_);refine goesL_ (some 7) rfl rfl Try.func37 (by kernel_rfl) rfl #[.float .f64 a0] rfl (by (try simp only [List.map_toArray,List.map_cons,List.map_nil]);first|done|rfl|(simp only [List.length_drop,List.length_take];rfl)) ?_;(with_reducible refine (math_IsNaN.calls a0 false _ A3.out).mono ?_);rintro e w' ⟨rfl,⟨nd,rfl⟩⟩;refine ⟨_,rfl,?_⟩)|((with_reducible refine gate_callee (f:=38) rfl ?_);refine goesL_ (some 10) rfl rfl Try.func38 (by kernel_rfl) rfl #[.float .f64 a0,.int .i64 0] rfl (by (try simp only [List.map_toArray,List.map_cons,List.map_nil]);first|done|rfl|(simp only [List.length_drop,List.length_take];rfl)) ?_;(with_reducible refine (math_IsInf.calls a0 0 true _ A5.out).mono ?_);rintro e w' ⟨rfl,⟨nd,rfl⟩⟩;refine ⟨_,rfl,?_⟩))
   go_ret
   exact ⟨by first|rfl|(simp;done)|(simp [*];done),by repeat (first|exact Drawn0.refl _|apply Drawn0.step)⟩
  ·replace c6:=Bool.eq_false_iff.mpr c6
   subst c6
   have H1 : ((math_Signbit.f a0).bind fun t131 => (if t131 = true then (some 12) else (if (flt a0 4607182418800017408) = true then (some 13) else (if (flt a1 a0) = true then (some 14) else ((metric_quarter.f a0).bind fun t132 => (if t132 = true then (some 0) else (some 15))))))) = some r:=by rw [if_neg (show ¬ (false = true) by decide)] at H;exact H
   clear H
   have H:=H1
   clear H1
   replace H:=Option.bind_eq_some_iff.mp H
   obtain ⟨t131,A70,H⟩:=H
   replace H : (if t131 = true then (some 12) else (if (flt a0 4607182418800017408) = true then (some 13) else (if (flt a1 a0) = true then (some 14) else ((metric_quarter.f a0).bind fun t132 => (if t132 = true then (some 0) else (some 15)))))) = some r:=H
   have A7:=Aside0.mk A70
   clear A70
   by_cases c8 : t131 = true
   ·subst c8
    have H1 : (some 12) = some r:=by rw [if_pos rfl] at H;exact H
    clear H
    have H:=H1
    clear H1
    obtain rfl:=Option.some.inj H
    go_enter Try.func39,Try.ntmps39
    go_wp2_with (first|((with_reducible refine gate_callee (f:=37) rfl ?_);refine goesL_ (some 7) rfl rfl Try.func37 (by kernel_rfl) rfl #[.float .f64 a0] rfl (by (try simp only [List.map_toArray,List.map_cons,List.map_nil]);first|done|rfl|(simp only [List.length_drop,List.length_take];rfl)) ?_;(with_reducible refine (math_IsNaN.calls a0 false _ A3.out).mono ?_);rintro e w' ⟨rfl,⟨nd,rfl⟩⟩;refine ⟨_,rfl,?_⟩)|((with_reducible refine gate_callee (f:=38) rfl ?_);refine goesL_ (some 10) rfl rfl Try.func38 (by kernel_rfl) rfl #[.float .f64 a0,.int .i64 0] rfl (by (try simp only [List.map_toArray,List.map_cons,List.map_nil]);first|done|rfl|(simp only [List.length_drop,List.length_take];rfl)) ?_;(with_reducible refine (math_IsInf.calls a0 0 false _ A5.out).mono ?_);rintro e w' ⟨rfl,⟨nd,rfl⟩⟩;refine ⟨_,rfl,?_⟩)|((with_reducible refine gate_callee (f:=28) rfl ?_);refine goesL_ (some 13) rfl rfl Try.func28 (by kernel_rfl) rfl #[.float .f64 a0] rfl (by (try simp only [List.map_toArray,List.map_cons,List.map_nil]);first|done|rfl|(simp only [List.length_drop,List.length_take];rfl)) ?_;(with_reducible refine (math_Signbit.calls a0 true _ A7.out).mono ?_);rintro e w' ⟨rfl,⟨nd,rfl⟩⟩;refine ⟨_,rfl,?_⟩))
    go_ret
    exact ⟨by first|rfl|(simp;done)|(simp [*];done),by repeat (first|exact Drawn0.refl _|apply Drawn0.step)⟩
   ·replace c8:=Bool.eq_false_iff.mpr c8
    subst c8
    have H1 : (if (flt a0 4607182418800017408) = true then (some 13) else (if (flt a1 a0) = true then (some 14) else ((metric_quarter.f a0).bind fun t132 => (if t132 = true then (some 0) else (some 15))))) = some r:=by rw [if_neg (show ¬ (false = true) by decide)] at H;exact H
    clear H
    have H:=H1
    clear H1
    by_cases c9 : (flt a0 4607182418800017408) = true
    ·rw [if_pos c9] at H
     have c9b0 : (flt a0 4607182418800017408) = true:=c9
     clear c9
     obtain rfl:=Option.some.inj H
     go_enter Try.func39,Try.ntmps39
     go_wp2_with (first|((with_reducible refine gate_callee (f:=37) rfl ?_);refine goesL_ (some 7) rfl rfl Try.func37 (by kernel_rfl) rfl #[.float .f64 a0] rfl (by (try simp only [List.map_toArray,List.map_cons,List.map_nil]);first|done|rfl|(simp only [List.length_drop,List.length_take];rfl)) ?_;(with_reducible refine (math_IsNaN.calls a0 false _ A3.out).mono ?_);rintro e w' ⟨rfl,⟨nd,rfl⟩⟩;refine ⟨_,rfl,?_⟩)|((with_reducible refine gate_callee (f:=38) rfl ?_);refine goesL_ (some 10) rfl rfl Try.func38 (by kernel_rfl) rfl #[.float .f64 a0,.int .i64 0] rfl (by (try simp only [List.map_toArray,List.map_cons,List.map_nil]);first|done|rfl|(simp only [List.length_drop,List.length_take];rfl)) ?_;(with_reducible refine (math_IsInf.calls a0 0 false _ A5.out).mono ?_);rintro e w' ⟨rfl,⟨nd,rfl⟩⟩;refine ⟨_,rfl,?_⟩)|((with_reducible refine gate_callee (f:=28) rfl ?_);refine goesL_ (some 13) rfl rfl Try.func28 (by kernel_rfl) rfl #[.float .f64 a0] rfl (by (try simp only [List.map_toArray,List.map_cons,List.map_nil]);first|done|rfl|(simp only [List.length_drop,List.length_take];rfl)) ?_;(with_reducible refine (math_Signbit.calls a0 false _ A7.out).mono ?_);rintro e w' ⟨rfl,⟨nd,rfl⟩⟩;refine ⟨_,rfl,?_⟩))
     go_ret
     exact ⟨by first|rfl|(simp;done)|(simp [*];done),by repeat (first|exact Drawn0.refl _|apply Drawn0.step)⟩
    ·rw [if_neg c9] at H
     have c9b0 : (flt a0 4607182418800017408) = false:=by simpa using c9
     clear c9
     by_cases c10 : (flt a1 a0) = true
     ·rw [if_pos c10] at H
      have c10b0 : (flt a1 a0) = true:=c10
      clear c10
      obtain rfl:=Option.some.inj H
      go_enter Try.func39,Try.ntmps39
      go_wp2_with (first|((with_reducible refine gate_callee (f:=37) rfl ?_);refine goesL_ (some 7) rfl rfl Try.func37 (by kernel_rfl) rfl #[.float .f64 a0] rfl (by (try simp only [List.map_toArray,List.map_cons,List.map_nil]);first|done|rfl|(simp only [List.length_drop,List.length_take];rfl)) ?_;(with_reducible refine (math_IsNaN.calls a0 false _ A3.out).mono ?_);rintro e w' ⟨rfl,⟨nd,rfl⟩⟩;refine ⟨_,rfl,?_⟩)|((with_reducible refine gate_callee (f:=38) rfl ?_);refine goesL_ (some 10) rfl rfl Try.func38 (by kernel_rfl) rfl #[.float .f64 a0,.int .i64 0] rfl (by (try simp only [List.map_toArray,List.map_cons,List.map_nil]);first|done|rfl|(simp only [List.length_drop,List.length_take];rfl)) ?_;(with_reducible refine (math_IsInf.calls a0 0 false _ A5.out).mono ?_);rintro e w' ⟨rfl,⟨nd,rfl⟩⟩;refine ⟨_,rfl,?_⟩)|((with_reducible refine gate_callee (f:=28) rfl ?_);refine goesL_ (some 13) rfl rfl Try.func28 (by kernel_rfl) rfl #[.float .f64 a0] rfl (by (try simp only [List.map_toArray,List.map_cons,List.map_nil]);first|done|rfl|(simp only [List.length_drop,List.length_take];rfl)) ?_;(with_reducible refine (math_Signbit.calls a0 false _ A7.out).mono ?_);rintro e w' ⟨rfl,⟨nd,rfl⟩⟩;refine ⟨_,rfl,?_⟩))
      go_ret
      exact ⟨by first|rfl|(simp;done)|(simp [*];done),by repeat (first|exact Drawn0.refl _|apply Drawn0.step)⟩
     ·rw [if_neg c10] at H
      have c10b0 : (flt a1 a0) = false:=by simpa using c10
      clear c10
      replace H:=Option.bind_eq_some_iff.mp H
      obtain ⟨t132,A110,H⟩:=H
      replace H : (if t132 = true then (some 0) else (some 15)) = some r:=H
      have A11:=Aside0.mk A110
      clear A110
      by_cases c12 : t132 = true
      ·subst c12
       have H1 : (some 0) = some r:=by rw [if_pos rfl] at H;exact H
       clear H
       have H:=H1
       clear H1
       obtain rfl:=Option.some.inj H
       go_enter Try.func39,Try.ntmps39
       go_wp2_with (first|((with_reducible refine gate_callee (f:=37) rfl ?_);refine goesL_ (some 7) rfl rfl Try.func37 (by kernel_rfl) rfl #[.float .f64 a0] rfl (by (try simp only [List.map_toArray,List.map_cons,List.map_nil]);first|done|rfl|(simp only [List.length_drop,List.length_take];rfl)) ?_;(with_reducible refine (math_IsNaN.calls a0 false _ A3.out).mono ?_);rintro e w' ⟨rfl,⟨nd,rfl⟩⟩;refine ⟨_,rfl,?_⟩)|((with_reducible refine gate_callee (f:=38) rfl ?_);refine goesL_ (some 10) rfl rfl Try.func38 (by kernel_rfl) rfl #[.float .f64 a0,.int .i64 0] rfl (by (try simp only [List.map_toArray,List.map_cons,List.map_nil]);first|done|rfl|(simp only [List.length_drop,List.length_take];rfl)) ?_;(with_reducible refine (math_IsInf.calls a0 0 false _ A5.out).mono ?_);rintro e w' ⟨rfl,⟨nd,rfl⟩⟩;refine ⟨_,rfl,?_⟩)|((with_reducible refine gate_callee (f:=28) rfl ?_);refine goesL_ (some 13) rfl rfl Try.func28 (by kernel_rfl) rfl #[.float .f64 a0] rfl (by (try simp only [List.map_toArray,List.map_cons,List.map_nil]);first|done|rfl|(simp only [List.length_drop,List.length_take];rfl)) ?_;(with_reducible refine (math_Signbit.calls a0 false _ A7.out).mono ?_);rintro e w' ⟨rfl,⟨nd,rfl⟩⟩;refine ⟨_,rfl,?_⟩)|((with_reducible refine gate_callee (f:=47) rfl ?_);refine goesL_ (some 23) rfl rfl Try.func47 (by kernel_rfl) rfl #[.float .f64 a0] rfl (by (try simp only [List.map_toArray,List.map_cons,List.map_nil]);first|done|rfl|(simp only [List.length_drop,List.length_take];rfl)) ?_;(with_reducible refine (metric_quarter.calls a0 true _ A11.out).mono ?_);rintro e w' ⟨rfl,⟨nd,rfl⟩⟩;refine ⟨_,rfl,?_⟩))
       go_ret
       exact ⟨by first|rfl|(simp;done)|(simp [*];done),by repeat (first|exact Drawn0.refl _|apply Drawn0.step)⟩
      ·replace c12:=Bool.eq_false_iff.mpr c12
       subst c12
       have H1 : (some 15) = some r:=by rw [if_neg (show ¬ (false = true) by decide)] at H;exact H
       clear H
       have H:=H1
       clear H1
       obtain rfl:=Option.some.inj H
       go_enter Try.func39,Try.ntmps39
       go_wp2_with (first|((with_reducible refine gate_callee (f:=37) rfl ?_);refine goesL_ (some 7) rfl rfl Try.func37 (by kernel_rfl) rfl #[.float .f64 a0] rfl (by (try simp only [List.map_toArray,List.map_cons,List.map_nil]);first|done|rfl|(simp only [List.length_drop,List.length_take];rfl)) ?_;(with_reducible refine (math_IsNaN.calls a0 false _ A3.out).mono ?_);rintro e w' ⟨rfl,⟨nd,rfl⟩⟩;refine ⟨_,rfl,?_⟩)|((with_reducible refine gate_callee (f:=38) rfl ?_);refine goesL_ (some 10) rfl rfl Try.func38 (by kernel_rfl) rfl #[.float .f64 a0,.int .i64 0] rfl (by (try simp only [List.map_toArray,List.map_cons,List.map_nil]);first|done|rfl|(simp only [List.length_drop,List.length_take];rfl)) ?_;(with_reducible refine (math_IsInf.calls a0 0 false _ A5.out).mono ?_);rintro e w' ⟨rfl,⟨nd,rfl⟩⟩;refine ⟨_,rfl,?_⟩)|((with_reducible refine gate_callee (f:=28) rfl ?_);refine goesL_ (some 13) rfl rfl Try.func28 (by kernel_rfl) rfl #[.float .f64 a0] rfl (by (try simp only [List.map_toArray,List.map_cons,List.map_nil]);first|done|rfl|(simp only [List.length_drop,List.length_take];rfl)) ?_;(with_reducible refine (math_Signbit.calls a0 false _ A7.out).mono ?_);rintro e w' ⟨rfl,⟨nd,rfl⟩⟩;refine ⟨_,rfl,?_⟩)|((with_reducible refine gate_callee (f:=47) rfl ?_);refine goesL_ (some 23) rfl rfl Try.func47 (by kernel_rfl) rfl #[.float .f64 a0] rfl (by (try simp only [List.map_toArray,List.map_cons,List.map_nil]);first|done|rfl|(simp only [List.length_drop,List.length_take];rfl)) ?_;(with_reducible refine (metric_quarter.calls a0 false _ A11.out).mono ?_);rintro e w' ⟨rfl,⟨nd,rfl⟩⟩;refine ⟨_,rfl,?_⟩))
       go_ret
       exact ⟨by first|rfl|(simp;done)|(simp [*];done),by repeat (first|exact Drawn0.refl _|apply Drawn0.step)⟩

/-! ### metric_Weight: function 31 -/
def metric_Weight.f (a0 : Nat) : Option (Int) := (metric_within.f a0 4697254411347427328).bind fun t133 => (some t133)
set_option maxHeartbeats 2500000 in
set_option maxRecDepth 100000 in
theorem metric_Weight.calls (a0 : Nat) (r : Int) (w : World) (h : metric_Weight.f a0 = some r) :
  Calls Try.prog 31 #[.float .f64 a0] w fun e w' => e = .returned (.int .i64 r) ∧ Drawn0 w w':=by
 have H : ((metric_within.f a0 4697254411347427328).bind fun t133 => (some t133)) = some r:=h
 clear h
 replace H:=Option.bind_eq_some_iff.mp H
 obtain ⟨t133,A20,H⟩:=H
 replace H : (some t133) = some r:=H
 have A2:=Aside0.mk A20
 clear A20
 obtain rfl:=Option.some.inj H
 go_enter Try.func31,Try.ntmps31
 go_wp2_with (first|((with_reducible refine gate_callee (f:=39) rfl ?_);refine goesL_ (some 4) rfl rfl Try.func39 (by kernel_rfl) rfl #[.float .f64 a0,.float .f64 4697254411347427328] rfl (by (try simp only [List.map_toArray,List.map_cons,List.map_nil]);first|done|rfl|(simp only [List.length_drop,List.length_take];rfl)) ?_;(with_reducible refine (metric_within.calls a0 4697254411347427328 t133 _ A2.out).mono ?_);rintro e w' ⟨rfl,⟨nd,rfl⟩⟩;refine ⟨_,rfl,?_⟩))
 go_ret
 exact ⟨by first|rfl|(simp;done)|(simp [*];done),by repeat (first|exact Drawn0.refl _|apply Drawn0.step)⟩

end Go.Proofs.Ytajejidnidomgaa.XR
