/- Go functions of this seat as Lean functions, with proofs that the calls come to them. (Written by xprint.py, a program of this session, over the kit's print.) -/
import Derived.Test.YtgmjlhpigfaicaaXAx0
import Derived.Test.YtgmjlhpigfaicaaXAx6
import Derived.Test.YtgmjlhpigfaicaaXAx8
import Derived.Test.YtgmjlhpigfaicaaXAx9
namespace Go.Proofs.Ytgmjlhpigfaicaa.XA
open Go.RowKit Go.Proofs.YtgmjlhpigfaicaaW.PrintWords Go.Proofs.YtgmjlhpigfaicaaW.PrintLast Go.Proofs.YtgmjlhpigfaicaaW.PrintMore
attribute [local go_sem] max2_int min2_int max_two min_two max_three min_three max_four min_four   -- for this text's walks alone
set_option linter.unusedVariables false
set_option linter.unusedSimpArgs false
open List renaming setIfInBounds_toArray → xA, set_cons_zero → xB, set_cons_succ → xC
open Go.Proofs.YtgmjlhpigfaicaaW.PrintWords renaming blk_drewN → bN, blk_drew → bD, blk_alloc → bA, below_set → bS, blk_frozen → bF, blk_cell → bC, cell_far → cF, blk_far → bZ, blk_below → bB, pw_below_drewN → bwN, below_drew1 → bw1, below_alloc → bwA
open Go.Proofs.YtgmjlhpigfaicaaW.PrintZ
open Bool renaming true → T,false → F

/-! ### beaconlaw17_TableSames: function 5 -/
def beaconlaw17_TableSames.f (k : Nat) (l0 : List (S39)) (l1 : List (S39)) : Option (Bool) := (table_Same.f k l0 l1).bind fun t185 => ((beaconref09_SameEntries.f k l0 l1).bind fun t186 => (if (t185 == t186) = true then ((table_Same.f k l0 l0).bind fun t187 => (if t187 = true then ((beaconlaw17_awake.f k).bind fun t188 => (some t188)) else (some false))) else (some false)))
theorem beaconlaw17_TableSames.mono : ∀ a0 a1 k, LeO (beaconlaw17_TableSames.f k a0 a1) (beaconlaw17_TableSames.f (k + 1) a0 a1) := by
 intro a0 a1 k
 unfold beaconlaw17_TableSames.f
 repeat' first
   | (with_reducible exact beaconlaw17_awake.mono _)
   | (with_reducible exact beaconref09_SameEntries.mono _ _ _)
   | (with_reducible exact table_Same.mono _ _ _)
   | (with_reducible exact LeO.refl _)
   | (with_reducible exact LeO.none _)
   | (with_reducible refine LeO.ite ?_ ?_)
   | (with_reducible refine LeO.bind ?_ (fun _ => ?_))
   | exact beaconlaw17_awake.mono _
   | exact beaconref09_SameEntries.mono _ _ _
   | exact table_Same.mono _ _ _
   | exact LeO.none _
   | refine LeO.ite ?_ ?_
   | refine LeO.bind ?_ (fun _ => ?_)
set_option maxHeartbeats 8000000 in
set_option maxRecDepth 100000 in
theorem beaconlaw17_TableSames.calls (k : Nat) (A0 : Option Addr) (c0 : Nat) (l0 : List (S39)) (A1 : Option Addr) (c1 : Nat) (l1 : List (S39)) (r : Bool) (w : World) (hr0 : Kd.C k39 w A0 l0.length l0) (hc0 : l0.length ≤ c0) (hr1 : Kd.C k39 w A1 l1.length l1) (hc1 : l1.length ≤ c1) (h : beaconlaw17_TableSames.f k l0 l1 = some r) :
  Calls Try.prog 5 #[.slice A0 l0.length c0,.slice A1 l1.length c1] w fun e w' => e = .returned (.bool r) ∧ Below w.heap.size w w':=by
 have HR0:=Aside0.mk hr0
 have HC0:=Aside0.mk hc0
 clear hr0 hc0
 have HR1:=Aside0.mk hr1
 have HC1:=Aside0.mk hc1
 clear hr1 hc1
 have HB:=Aside0.mk (Below.refl w.heap.size w)
 have H : ((table_Same.f k l0 l1).bind fun t185 => ((beaconref09_SameEntries.f k l0 l1).bind fun t186 => (if (t185 == t186) = true then ((table_Same.f k l0 l0).bind fun t187 => (if t187 = true then ((beaconlaw17_awake.f k).bind fun t188 => (some t188)) else (some false))) else (some false)))) = some r:=h
 clear h
 replace H:=Option.bind_eq_some_iff.mp H
 obtain ⟨t185,A30,H⟩:=H
 replace H : ((beaconref09_SameEntries.f k l0 l1).bind fun t186 => (if (t185 == t186) = true then ((table_Same.f k l0 l0).bind fun t187 => (if t187 = true then ((beaconlaw17_awake.f k).bind fun t188 => (some t188)) else (some false))) else (some false))) = some r:=H
 have A3:=Aside0.mk A30
 clear A30
 replace H:=Option.bind_eq_some_iff.mp H
 obtain ⟨t186,A40,H⟩:=H
 replace H : (if (t185 == t186) = true then ((table_Same.f k l0 l0).bind fun t187 => (if t187 = true then ((beaconlaw17_awake.f k).bind fun t188 => (some t188)) else (some false))) else (some false)) = some r:=H
 have A4:=Aside0.mk A40
 clear A40
 by_cases c5 : (t185 == t186) = true
 ·rw [if_pos c5] at H
  have c5b0 : (t185 == t186) = true:=c5
  (try (have c5b1 : decide (t185 = t186) = true:=by simpa using c5))
  (try (have c5b2 : (t185 == t186) = true:=by simpa using c5))
  clear c5
  replace H:=Option.bind_eq_some_iff.mp H
  obtain ⟨t187,A60,H⟩:=H
  replace H : (if t187 = true then ((beaconlaw17_awake.f k).bind fun t188 => (some t188)) else (some false)) = some r:=H
  have A6:=Aside0.mk A60
  clear A60
  by_cases c7 : t187 = true
  ·subst c7
   have H1 : ((beaconlaw17_awake.f k).bind fun t188 => (some t188)) = some r:=by rw [if_pos rfl] at H;exact H
   clear H
   have H:=H1
   clear H1
   replace H:=Option.bind_eq_some_iff.mp H
   obtain ⟨t188,A80,H⟩:=H
   replace H : (some t188) = some r:=H
   have A8:=Aside0.mk A80
   clear A80
   obtain rfl:=Option.some.inj H
   go_enter Try.func5,Try.ntmps5
   go_wp2_with (first|((with_reducible refine gate_callee (f:=20) rfl ?_);refine zg (some 7) Try.func20 #[.slice A0 l0.length c0,.slice A1 l1.length c1] ?_;(with_reducible refine (table_Same.calls k _ _ l0 _ _ l1 t185 _ ?side1 ?side2 ?side3 ?side4 A3.out).mono ?_);(case side1 => exact zC HR0.out);(case side2 => exact HC0.out);(case side3 => exact zC HR1.out);(case side4 => exact HC1.out);rintro e w9 ⟨rfl,hb⟩;refine ⟨_,rfl,?_⟩;replace HB:=zS HB hb;(try clear hb))|((with_reducible refine gate_callee (f:=21) rfl ?_);refine zg (some 10) Try.func21 #[.slice A0 l0.length c0,.slice A1 l1.length c1] ?_;(with_reducible refine (beaconref09_SameEntries.calls k _ _ l0 _ _ l1 t186 _ ?side1 ?side2 ?side3 ?side4 A4.out).mono ?_);(case side1 => exact zC (Kd.C_below HR0.out HB.1));(case side2 => exact HC0.out);(case side3 => exact zC (Kd.C_below HR1.out HB.1));(case side4 => exact HC1.out);rintro e w10 ⟨rfl,hb⟩;refine ⟨_,rfl,?_⟩;replace HB:=zS HB hb;(try clear hb))|(go_at_call 20;(with_reducible refine (table_Same.calls k _ _ l0 _ _ l0 true _ ?side1 ?side2 ?side3 ?side4 A6.out).mono ?_);(case side1 => exact zC (Kd.C_below HR0.out HB.1));(case side2 => exact HC0.out);(case side3 => exact zC (Kd.C_below HR0.out HB.1));(case side4 => exact HC0.out);rintro e w11 ⟨rfl,hb⟩;replace HB:=zS HB hb;(try clear hb))|(go_at_call 13;(with_reducible refine (beaconlaw17_awake.calls k  t188 _ A8.out).mono ?_);rintro e w12 ⟨rfl,hb⟩;replace HB:=zS HB hb;(try clear hb)))
   go_ret
   exact ⟨by first|rfl|(simp [errW_none,errW_some] <;> rfl)|(simp [*,errW_none,errW_some] <;> rfl),zH HB⟩
  ·replace c7:=Bool.eq_false_iff.mpr c7
   subst c7
   have H1 : (some false) = some r:=by rw [if_neg (show ¬ (false = true) by decide)] at H;exact H
   clear H
   have H:=H1
   clear H1
   obtain rfl:=Option.some.inj H
   go_enter Try.func5,Try.ntmps5
   go_wp2_with (first|((with_reducible refine gate_callee (f:=20) rfl ?_);refine zg (some 7) Try.func20 #[.slice A0 l0.length c0,.slice A1 l1.length c1] ?_;(with_reducible refine (table_Same.calls k _ _ l0 _ _ l1 t185 _ ?side1 ?side2 ?side3 ?side4 A3.out).mono ?_);(case side1 => exact zC HR0.out);(case side2 => exact HC0.out);(case side3 => exact zC HR1.out);(case side4 => exact HC1.out);rintro e w13 ⟨rfl,hb⟩;refine ⟨_,rfl,?_⟩;replace HB:=zS HB hb;(try clear hb))|((with_reducible refine gate_callee (f:=21) rfl ?_);refine zg (some 10) Try.func21 #[.slice A0 l0.length c0,.slice A1 l1.length c1] ?_;(with_reducible refine (beaconref09_SameEntries.calls k _ _ l0 _ _ l1 t186 _ ?side1 ?side2 ?side3 ?side4 A4.out).mono ?_);(case side1 => exact zC (Kd.C_below HR0.out HB.1));(case side2 => exact HC0.out);(case side3 => exact zC (Kd.C_below HR1.out HB.1));(case side4 => exact HC1.out);rintro e w14 ⟨rfl,hb⟩;refine ⟨_,rfl,?_⟩;replace HB:=zS HB hb;(try clear hb))|(go_at_call 20;(with_reducible refine (table_Same.calls k _ _ l0 _ _ l0 false _ ?side1 ?side2 ?side3 ?side4 A6.out).mono ?_);(case side1 => exact zC (Kd.C_below HR0.out HB.1));(case side2 => exact HC0.out);(case side3 => exact zC (Kd.C_below HR0.out HB.1));(case side4 => exact HC0.out);rintro e w15 ⟨rfl,hb⟩;replace HB:=zS HB hb;(try clear hb)))
   go_ret
   exact ⟨by first|rfl|(simp [errW_none,errW_some] <;> rfl)|(simp [*,errW_none,errW_some] <;> rfl),zH HB⟩
 ·rw [if_neg c5] at H
  have c5b0 : (t185 == t186) = false:=by simpa using c5
  (try (have c5b1 : decide (t185 = t186) = false:=by simpa using c5))
  (try (have c5b2 : (t185 == t186) = false:=by simpa using c5))
  (try (have c5b3 : ¬ (t185 = t186):=by simpa using c5))
  clear c5
  obtain rfl:=Option.some.inj H
  go_enter Try.func5,Try.ntmps5
  go_wp2_with (first|((with_reducible refine gate_callee (f:=20) rfl ?_);refine zg (some 7) Try.func20 #[.slice A0 l0.length c0,.slice A1 l1.length c1] ?_;(with_reducible refine (table_Same.calls k _ _ l0 _ _ l1 t185 _ ?side1 ?side2 ?side3 ?side4 A3.out).mono ?_);(case side1 => exact zC HR0.out);(case side2 => exact HC0.out);(case side3 => exact zC HR1.out);(case side4 => exact HC1.out);rintro e w16 ⟨rfl,hb⟩;refine ⟨_,rfl,?_⟩;replace HB:=zS HB hb;(try clear hb))|((with_reducible refine gate_callee (f:=21) rfl ?_);refine zg (some 10) Try.func21 #[.slice A0 l0.length c0,.slice A1 l1.length c1] ?_;(with_reducible refine (beaconref09_SameEntries.calls k _ _ l0 _ _ l1 t186 _ ?side1 ?side2 ?side3 ?side4 A4.out).mono ?_);(case side1 => exact zC (Kd.C_below HR0.out HB.1));(case side2 => exact HC0.out);(case side3 => exact zC (Kd.C_below HR1.out HB.1));(case side4 => exact HC1.out);rintro e w17 ⟨rfl,hb⟩;refine ⟨_,rfl,?_⟩;replace HB:=zS HB hb;(try clear hb)))
  go_ret
  exact ⟨by first|rfl|(simp [errW_none,errW_some] <;> rfl)|(simp [*,errW_none,errW_some] <;> rfl),zH HB⟩

/-! ### beaconref02_CheckId: function 58 -/
def beaconref02_CheckId.f (a0 : Int) : Option (Int) := if a0 < 1 then (some 20) else (if a0 > 2147483647 then (some 20) else (some 0))
set_option maxHeartbeats 8000000 in
set_option maxRecDepth 100000 in
theorem beaconref02_CheckId.calls (a0 : Int) (r : Int) (w : World) (h : beaconref02_CheckId.f a0 = some r) :
  Calls Try.prog 58 #[.int .i64 a0] w fun e w' => e = .returned (.int .i64 r) ∧ Drawn0 w w':=by
 have H : (if a0 < 1 then (some 20) else (if a0 > 2147483647 then (some 20) else (some 0))) = some r:=h
 clear h
 by_cases c2 : a0 < 1
 ·rw [if_pos c2] at H
  have c2b0 : decide (a0 < 1) = true:=decide_eq_true c2
  clear c2
  obtain rfl:=Option.some.inj H
  go_enter Try.func58,Try.ntmps58
  go_wp2
  go_ret
  exact ⟨by first|rfl|(simp;done)|(simp [*];done),by repeat (first|exact Drawn0.refl _|apply Drawn0.step)⟩
 ·rw [if_neg c2] at H
  have c2b0 : decide (a0 < 1) = false:=decide_eq_false c2
  clear c2
  by_cases c3 : a0 > 2147483647
  ·rw [if_pos c3] at H
   have c3b0 : decide (2147483647 < a0) = true:=decide_eq_true c3
   clear c3
   obtain rfl:=Option.some.inj H
   go_enter Try.func58,Try.ntmps58
   go_wp2
   go_ret
   exact ⟨by first|rfl|(simp;done)|(simp [*];done),by repeat (first|exact Drawn0.refl _|apply Drawn0.step)⟩
  ·rw [if_neg c3] at H
   have c3b0 : decide (2147483647 < a0) = false:=decide_eq_false c3
   clear c3
   obtain rfl:=Option.some.inj H
   go_enter Try.func58,Try.ntmps58
   go_wp2
   go_ret
   exact ⟨by first|rfl|(simp;done)|(simp [*];done),by repeat (first|exact Drawn0.refl _|apply Drawn0.step)⟩

/-! ### beaconref17_before: function 72 -/
def beaconref17_before.f (a0_0 : Int) (a0_1 : Int) (a0_2 : Nat) (a0_3 : Int) (a0_4 : Nat) (a0_5 : Int) (a1_0 : Int) (a1_1 : Int) (a1_2 : Nat) (a1_3 : Int) (a1_4 : Nat) (a1_5 : Int) : Option (Bool) := if a0_1 < a1_1 then (some true) else (if a0_1 = a1_1 then (some (decide (a0_0 < a1_0))) else (some false))
set_option maxHeartbeats 8000000 in
set_option maxRecDepth 100000 in
theorem beaconref17_before.calls (a0_0 : Int) (a0_1 : Int) (a0_2 : Nat) (a0_3 : Int) (a0_4 : Nat) (a0_5 : Int) (a1_0 : Int) (a1_1 : Int) (a1_2 : Nat) (a1_3 : Int) (a1_4 : Nat) (a1_5 : Int) (r : Bool) (w : World) (h : beaconref17_before.f a0_0 a0_1 a0_2 a0_3 a0_4 a0_5 a1_0 a1_1 a1_2 a1_3 a1_4 a1_5 = some r) :
  Calls Try.prog 72 #[.agg #[.int .i64 a0_0,.int .i64 a0_1,.float .f64 a0_2,.int .i64 a0_3,.float .f64 a0_4,.int .i64 a0_5],.agg #[.int .i64 a1_0,.int .i64 a1_1,.float .f64 a1_2,.int .i64 a1_3,.float .f64 a1_4,.int .i64 a1_5]] w fun e w' => e = .returned (.bool r) ∧ Below w.heap.size w w':=by
 have hu39:=Try.underlying39
 have HB:=Aside0.mk (Below.refl w.heap.size w)
 have H : (if a0_1 < a1_1 then (some true) else (if a0_1 = a1_1 then (some (decide (a0_0 < a1_0))) else (some false))) = some r:=h
 clear h
 by_cases c3 : a0_1 < a1_1
 ·rw [if_pos c3] at H
  have c3b0 : decide (a0_1 < a1_1) = true:=decide_eq_true c3
  clear c3
  obtain rfl:=Option.some.inj H
  go_enter Try.func72,Try.ntmps72
  go_wp2_with (first|((with_reducible refine gate_dst (N:=2) rfl ?_);refine zb (N:=2) (cs:=#[.int .i64 a0_0,.int .i64 a0_1,.float .f64 a0_2,.int .i64 a0_3,.float .f64 a0_4,.int .i64 a0_5]) (t:=39) ?_;intro G189 hg w4 hbox hb;have K189:=Aside0.mk (hbox);have GW189:=zN HB hg;have GE189:=zN HB hg;replace HB:=zS HB hb;clear hb hbox hg)|((with_reducible refine gate_dst (N:=3) rfl ?_);refine zb (N:=3) (cs:=#[.int .i64 a1_0,.int .i64 a1_1,.float .f64 a1_2,.int .i64 a1_3,.float .f64 a1_4,.int .i64 a1_5]) (t:=39) ?_;intro G190 hg w5 hbox hb;have K190:=Aside0.mk (hbox);have GW190:=zN HB hg;have GE190:=zN HB hg;replace HB:=zS HB hb;have NB189_190:=zL K189 hg;have NB190_189:=zG K189 hg;replace K189:=zB K189 hb;clear hb hbox hg;have hnb6:=NB189_190.1;have hnc6:=NB190_189.1;have hcz7_0 : w5.cell? ⟨G189,0,none⟩ = some (.int .i64 a0_0):=zk K189 0;have hcz7_1 : w5.cell? ⟨G189,1,none⟩ = some (.int .i64 a0_1):=zk K189 1;have hcz7_2 : w5.cell? ⟨G189,2,none⟩ = some (.float .f64 a0_2):=zk K189 2;have hcz7_3 : w5.cell? ⟨G189,3,none⟩ = some (.int .i64 a0_3):=zk K189 3;have hcz7_4 : w5.cell? ⟨G189,4,none⟩ = some (.float .f64 a0_4):=zk K189 4;have hcz7_5 : w5.cell? ⟨G189,5,none⟩ = some (.int .i64 a0_5):=zk K189 5;have hfz7_0:=bF K189.1 0;have hfz7_1:=bF K189.1 1;have hfz7_2:=bF K189.1 2;have hfz7_3:=bF K189.1 3;have hfz7_4:=bF K189.1 4;have hfz7_5:=bF K189.1 5;have hcz8_0 : w5.cell? ⟨G190,0,none⟩ = some (.int .i64 a1_0):=zk K190 0;have hcz8_1 : w5.cell? ⟨G190,1,none⟩ = some (.int .i64 a1_1):=zk K190 1;have hcz8_2 : w5.cell? ⟨G190,2,none⟩ = some (.float .f64 a1_2):=zk K190 2;have hcz8_3 : w5.cell? ⟨G190,3,none⟩ = some (.int .i64 a1_3):=zk K190 3;have hcz8_4 : w5.cell? ⟨G190,4,none⟩ = some (.float .f64 a1_4):=zk K190 4;have hcz8_5 : w5.cell? ⟨G190,5,none⟩ = some (.int .i64 a1_5):=zk K190 5;have hfz8_0:=bF K190.1 0;have hfz8_1:=bF K190.1 1;have hfz8_2:=bF K190.1 2;have hfz8_3:=bF K190.1 3;have hfz8_4:=bF K190.1 4;have hfz8_5:=bF K190.1 5))
  go_ret
  exact ⟨by first|rfl|(simp [errW_none,errW_some] <;> rfl)|(simp [*,errW_none,errW_some] <;> rfl),zH HB⟩
 ·rw [if_neg c3] at H
  have c3b0 : decide (a0_1 < a1_1) = false:=decide_eq_false c3
  clear c3
  by_cases c9 : a0_1 = a1_1
  ·rw [if_pos c9] at H
   have c9b0 : (a0_1 == a1_1) = true:=beq_iff_eq.mpr c9
   have c9b1 : (a0_1 != a1_1) = false:=bne_eq_false_iff_eq.mpr c9
   clear c9
   obtain rfl:=Option.some.inj H
   go_enter Try.func72,Try.ntmps72
   go_wp2_with (first|((with_reducible refine gate_dst (N:=2) rfl ?_);refine zb (N:=2) (cs:=#[.int .i64 a0_0,.int .i64 a0_1,.float .f64 a0_2,.int .i64 a0_3,.float .f64 a0_4,.int .i64 a0_5]) (t:=39) ?_;intro G189 hg w10 hbox hb;have K189:=Aside0.mk (hbox);have GW189:=zN HB hg;have GE189:=zN HB hg;replace HB:=zS HB hb;clear hb hbox hg)|((with_reducible refine gate_dst (N:=3) rfl ?_);refine zb (N:=3) (cs:=#[.int .i64 a1_0,.int .i64 a1_1,.float .f64 a1_2,.int .i64 a1_3,.float .f64 a1_4,.int .i64 a1_5]) (t:=39) ?_;intro G190 hg w11 hbox hb;have K190:=Aside0.mk (hbox);have GW190:=zN HB hg;have GE190:=zN HB hg;replace HB:=zS HB hb;have NB189_190:=zL K189 hg;have NB190_189:=zG K189 hg;replace K189:=zB K189 hb;clear hb hbox hg;have hnb12:=NB189_190.1;have hnc12:=NB190_189.1;have hcz13_0 : w11.cell? ⟨G189,0,none⟩ = some (.int .i64 a0_0):=zk K189 0;have hcz13_1 : w11.cell? ⟨G189,1,none⟩ = some (.int .i64 a0_1):=zk K189 1;have hcz13_2 : w11.cell? ⟨G189,2,none⟩ = some (.float .f64 a0_2):=zk K189 2;have hcz13_3 : w11.cell? ⟨G189,3,none⟩ = some (.int .i64 a0_3):=zk K189 3;have hcz13_4 : w11.cell? ⟨G189,4,none⟩ = some (.float .f64 a0_4):=zk K189 4;have hcz13_5 : w11.cell? ⟨G189,5,none⟩ = some (.int .i64 a0_5):=zk K189 5;have hfz13_0:=bF K189.1 0;have hfz13_1:=bF K189.1 1;have hfz13_2:=bF K189.1 2;have hfz13_3:=bF K189.1 3;have hfz13_4:=bF K189.1 4;have hfz13_5:=bF K189.1 5;have hcz14_0 : w11.cell? ⟨G190,0,none⟩ = some (.int .i64 a1_0):=zk K190 0;have hcz14_1 : w11.cell? ⟨G190,1,none⟩ = some (.int .i64 a1_1):=zk K190 1;have hcz14_2 : w11.cell? ⟨G190,2,none⟩ = some (.float .f64 a1_2):=zk K190 2;have hcz14_3 : w11.cell? ⟨G190,3,none⟩ = some (.int .i64 a1_3):=zk K190 3;have hcz14_4 : w11.cell? ⟨G190,4,none⟩ = some (.float .f64 a1_4):=zk K190 4;have hcz14_5 : w11.cell? ⟨G190,5,none⟩ = some (.int .i64 a1_5):=zk K190 5;have hfz14_0:=bF K190.1 0;have hfz14_1:=bF K190.1 1;have hfz14_2:=bF K190.1 2;have hfz14_3:=bF K190.1 3;have hfz14_4:=bF K190.1 4;have hfz14_5:=bF K190.1 5))
   go_ret
   exact ⟨by first|rfl|(simp [errW_none,errW_some] <;> rfl)|(simp [*,errW_none,errW_some] <;> rfl),zH HB⟩
  ·rw [if_neg c9] at H
   have c9b0 : (a0_1 == a1_1) = false:=beq_eq_false_iff_ne.mpr c9
   have c9b1 : (a0_1 != a1_1) = true:=bne_iff_ne.mpr c9
   obtain rfl:=Option.some.inj H
   go_enter Try.func72,Try.ntmps72
   go_wp2_with (first|((with_reducible refine gate_dst (N:=2) rfl ?_);refine zb (N:=2) (cs:=#[.int .i64 a0_0,.int .i64 a0_1,.float .f64 a0_2,.int .i64 a0_3,.float .f64 a0_4,.int .i64 a0_5]) (t:=39) ?_;intro G189 hg w15 hbox hb;have K189:=Aside0.mk (hbox);have GW189:=zN HB hg;have GE189:=zN HB hg;replace HB:=zS HB hb;clear hb hbox hg)|((with_reducible refine gate_dst (N:=3) rfl ?_);refine zb (N:=3) (cs:=#[.int .i64 a1_0,.int .i64 a1_1,.float .f64 a1_2,.int .i64 a1_3,.float .f64 a1_4,.int .i64 a1_5]) (t:=39) ?_;intro G190 hg w16 hbox hb;have K190:=Aside0.mk (hbox);have GW190:=zN HB hg;have GE190:=zN HB hg;replace HB:=zS HB hb;have NB189_190:=zL K189 hg;have NB190_189:=zG K189 hg;replace K189:=zB K189 hb;clear hb hbox hg;have hnb17:=NB189_190.1;have hnc17:=NB190_189.1;have hcz18_0 : w16.cell? ⟨G189,0,none⟩ = some (.int .i64 a0_0):=zk K189 0;have hcz18_1 : w16.cell? ⟨G189,1,none⟩ = some (.int .i64 a0_1):=zk K189 1;have hcz18_2 : w16.cell? ⟨G189,2,none⟩ = some (.float .f64 a0_2):=zk K189 2;have hcz18_3 : w16.cell? ⟨G189,3,none⟩ = some (.int .i64 a0_3):=zk K189 3;have hcz18_4 : w16.cell? ⟨G189,4,none⟩ = some (.float .f64 a0_4):=zk K189 4;have hcz18_5 : w16.cell? ⟨G189,5,none⟩ = some (.int .i64 a0_5):=zk K189 5;have hfz18_0:=bF K189.1 0;have hfz18_1:=bF K189.1 1;have hfz18_2:=bF K189.1 2;have hfz18_3:=bF K189.1 3;have hfz18_4:=bF K189.1 4;have hfz18_5:=bF K189.1 5;have hcz19_0 : w16.cell? ⟨G190,0,none⟩ = some (.int .i64 a1_0):=zk K190 0;have hcz19_1 : w16.cell? ⟨G190,1,none⟩ = some (.int .i64 a1_1):=zk K190 1;have hcz19_2 : w16.cell? ⟨G190,2,none⟩ = some (.float .f64 a1_2):=zk K190 2;have hcz19_3 : w16.cell? ⟨G190,3,none⟩ = some (.int .i64 a1_3):=zk K190 3;have hcz19_4 : w16.cell? ⟨G190,4,none⟩ = some (.float .f64 a1_4):=zk K190 4;have hcz19_5 : w16.cell? ⟨G190,5,none⟩ = some (.int .i64 a1_5):=zk K190 5;have hfz19_0:=bF K190.1 0;have hfz19_1:=bF K190.1 1;have hfz19_2:=bF K190.1 2;have hfz19_3:=bF K190.1 3;have hfz19_4:=bF K190.1 4;have hfz19_5:=bF K190.1 5))
   go_ret
   exact ⟨by first|rfl|(simp [errW_none,errW_some] <;> rfl)|(simp [*,errW_none,errW_some] <;> rfl),zH HB⟩

end Go.Proofs.Ytgmjlhpigfaicaa.XA
