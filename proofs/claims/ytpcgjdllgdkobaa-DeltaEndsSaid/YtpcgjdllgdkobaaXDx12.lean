/- Go functions of this seat as Lean functions, with proofs that the calls come to them. (Written by xprint.py, a program of this session, over the kit's print.) -/
import Derived.Test.YtpcgjdllgdkobaaXDx0
import Derived.Test.YtpcgjdllgdkobaaXDx8
import Derived.Test.YtpcgjdllgdkobaaXDx11
namespace Go.Proofs.Ytpcgjdllgdkobaa.XD
open Go.RowKit Go.Proofs.YtpcgjdllgdkobaaW.PrintWords Go.Proofs.YtpcgjdllgdkobaaW.PrintLast Go.Proofs.YtpcgjdllgdkobaaW.PrintMore
attribute [local go_sem] max2_int min2_int max_two min_two max_three min_three max_four min_four   -- for this text's walks alone
set_option linter.unusedVariables false
set_option linter.unusedSimpArgs false
open List renaming setIfInBounds_toArray → xA, set_cons_zero → xB, set_cons_succ → xC
open Go.Proofs.YtpcgjdllgdkobaaW.PrintWords renaming blk_drewN → bN, blk_drew → bD, blk_alloc → bA, below_set → bS, blk_frozen → bF, blk_cell → bC, cell_far → cF, blk_far → bZ, blk_below → bB, pw_below_drewN → bwN, below_drew1 → bw1, below_alloc → bwA
open Go.Proofs.YtpcgjdllgdkobaaW.PrintZ
open Bool renaming true → T,false → F

/-! ### delta_Diff: function 12 -/
def delta_Diff.f (k : Nat) (l0 : List (S61)) (l1 : List (S61)) : Option ((List (S61)) × Int) := (delta_list.f k l0).bind fun t159 => (if t159 = true then ((delta_list.f k l1).bind fun t160 => (if t160 = true then ((delta_diff.f l0 l1).bind fun t161 => (some (t161, 0))) else (some (([] : List (S61)), 1)))) else (some (([] : List (S61)), 1)))
theorem delta_Diff.mono : ∀ a0 a1 k, LeO (delta_Diff.f k a0 a1) (delta_Diff.f (k + 1) a0 a1) := by
 intro a0 a1 k
 unfold delta_Diff.f
 repeat' first
   | (with_reducible exact delta_list.mono _ _)
   | (with_reducible exact LeO.refl _)
   | (with_reducible exact LeO.none _)
   | (with_reducible refine LeO.ite ?_ ?_)
   | (with_reducible refine LeO.bind ?_ (fun _ => ?_))
   | exact delta_list.mono _ _
   | exact LeO.none _
   | refine LeO.ite ?_ ?_
   | refine LeO.bind ?_ (fun _ => ?_)
set_option maxHeartbeats 8000000 in
set_option maxRecDepth 100000 in
theorem delta_Diff.calls (k : Nat) (A0 : Option Addr) (c0 : Nat) (l0 : List (S61)) (A1 : Option Addr) (c1 : Nat) (l1 : List (S61)) (r1 : List (S61)) (r2 : Int) (w : World) (hr0 : Kd.C k61 w A0 l0.length l0) (hc0 : l0.length ≤ c0) (hr1 : Kd.C k61 w A1 l1.length l1) (hc1 : l1.length ≤ c1) (h : delta_Diff.f k l0 l1 = some (r1, r2)) :
  Calls Try.prog 12 #[.slice A0 l0.length c0,.slice A1 l1.length c1] w fun e w' => ∃ v0_ : Value,e = .returned (.tuple #[v0_,.int .i64 r2]) ∧ Kd.R k61 61 w' w.heap.size (fun _ => True) v0_ r1 ∧ Below w.heap.size w w':=by
 have HR0:=zA hr0
 have HC0:=zA hc0
 clear hr0 hc0
 have HR1:=zA hr1
 have HC1:=zA hc1
 clear hr1 hc1
 have HB:=zA (Below.refl w.heap.size w)
 have H : ((delta_list.f k l0).bind fun t159 => (if t159 = true then ((delta_list.f k l1).bind fun t160 => (if t160 = true then ((delta_diff.f l0 l1).bind fun t161 => (some (t161,0))) else (some (([] : List (S61)),1)))) else (some (([] : List (S61)),1)))) = some (r1,r2):=h
 clear h
 replace H:=Option.bind_eq_some_iff.mp H
 obtain ⟨t159,A30,H⟩:=H
 (try dsimp only at H)
 have A3:=zA A30
 clear A30
 by_cases c4 : t159 = true
 ·subst c4
  rw [if_pos rfl] at H
  replace H:=Option.bind_eq_some_iff.mp H
  obtain ⟨t160,A50,H⟩:=H
  (try dsimp only at H)
  have A5:=zA A50
  clear A50
  by_cases c6 : t160 = true
  ·subst c6
   rw [if_pos rfl] at H
   replace H:=Option.bind_eq_some_iff.mp H
   obtain ⟨t161,A70,H⟩:=H
   (try dsimp only at H)
   have A7:=zA A70
   clear A70
   simp only [Option.some.injEq,Prod.mk.injEq] at H
   obtain ⟨rfl,rfl⟩:=H
   go_enter Try.func12,Try.ntmps12
   go_wp2_with (first|((with_reducible refine gate_callee (f:=30) rfl ?_);refine zg (some 7) Try.func30 #[.slice A0 l0.length c0] ?_;(with_reducible refine (delta_list.calls k _ _ l0 true _ ?side1 ?side2 A3.out).mono ?_);(case side1 => exact zC HR0.out);(case side2 => exact HC0.out);rintro e w8 ⟨rfl,hb⟩;refine ⟨_,rfl,?_⟩;replace HB:=zS HB hb;(try clear hb))|(go_at_call 30;(with_reducible refine (delta_list.calls k _ _ l1 true _ ?side1 ?side2 A5.out).mono ?_);(case side1 => exact zC (Kd.C_below HR1.out HB.1));(case side2 => exact HC1.out);rintro e w9 ⟨rfl,hb⟩;replace HB:=zS HB hb;(try clear hb))|((with_reducible refine gate_callee (f:=31) rfl ?_);refine zg (some 16) Try.func31 #[.slice A0 l0.length c0,.slice A1 l1.length c1] ?_;(with_reducible refine (delta_diff.calls _ _ l0 _ _ l1 t161 _ ?side1 ?side2 ?side3 ?side4 A7.out).mono ?_);(case side1 => exact zC (Kd.C_below HR0.out HB.1));(case side2 => exact HC0.out);(case side3 => exact zC (Kd.C_below HR1.out HB.1));(case side4 => exact HC1.out);rintro e w10 ⟨v162,rfl,ho0,hb⟩;refine ⟨_,rfl,?_⟩;have HO163:=zA (Kd.R_lower ho0 (zW HB));replace HB:=zS HB hb;(try clear hb);(try clear ho0)))
   go_ret2
   exact ⟨_,by first|rfl|(simp [errW_none,errW_some] <;> rfl)|(simp [*,errW_none,errW_some] <;> rfl),by (with_reducible repeat (first|apply Kd.R_alloc|apply Kd.R_drewN|apply Kd.R_drew));exact HO163.out,zH HB⟩
  ·replace c6:=Bool.eq_false_iff.mpr c6
   subst c6
   rw [if_neg (show ¬ (false = true) by decide)] at H
   simp only [Option.some.injEq,Prod.mk.injEq] at H
   obtain ⟨rfl,rfl⟩:=H
   go_enter Try.func12,Try.ntmps12
   go_wp2_with (first|((with_reducible refine gate_callee (f:=30) rfl ?_);refine zg (some 7) Try.func30 #[.slice A0 l0.length c0] ?_;(with_reducible refine (delta_list.calls k _ _ l0 true _ ?side1 ?side2 A3.out).mono ?_);(case side1 => exact zC HR0.out);(case side2 => exact HC0.out);rintro e w11 ⟨rfl,hb⟩;refine ⟨_,rfl,?_⟩;replace HB:=zS HB hb;(try clear hb))|(go_at_call 30;(with_reducible refine (delta_list.calls k _ _ l1 false _ ?side1 ?side2 A5.out).mono ?_);(case side1 => exact zC (Kd.C_below HR1.out HB.1));(case side2 => exact HC1.out);rintro e w12 ⟨rfl,hb⟩;replace HB:=zS HB hb;(try clear hb)))
   go_ret2
   exact ⟨_,by first|rfl|(simp [errW_none,errW_some] <;> rfl)|(simp [*,errW_none,errW_some] <;> rfl),by first|exact Kd.R_nil _ _ _ _ _|exact Kd.N_nil _ _ _ _ _|exact Kd.V_nil _ _ _ _ _|exact Kd.Q_nil _ _ _ _ _|exact Kd.S_nil _ _ _ _ _,zH HB⟩
 ·replace c4:=Bool.eq_false_iff.mpr c4
  subst c4
  rw [if_neg (show ¬ (false = true) by decide)] at H
  simp only [Option.some.injEq,Prod.mk.injEq] at H
  obtain ⟨rfl,rfl⟩:=H
  go_enter Try.func12,Try.ntmps12
  go_wp2_with (first|((with_reducible refine gate_callee (f:=30) rfl ?_);refine zg (some 7) Try.func30 #[.slice A0 l0.length c0] ?_;(with_reducible refine (delta_list.calls k _ _ l0 false _ ?side1 ?side2 A3.out).mono ?_);(case side1 => exact zC HR0.out);(case side2 => exact HC0.out);rintro e w13 ⟨rfl,hb⟩;refine ⟨_,rfl,?_⟩;replace HB:=zS HB hb;(try clear hb)))
  go_ret2
  exact ⟨_,by first|rfl|(simp [errW_none,errW_some] <;> rfl)|(simp [*,errW_none,errW_some] <;> rfl),by first|exact Kd.R_nil _ _ _ _ _|exact Kd.N_nil _ _ _ _ _|exact Kd.V_nil _ _ _ _ _|exact Kd.Q_nil _ _ _ _ _|exact Kd.S_nil _ _ _ _ _,zH HB⟩

/-! ### beaconlaw14_awake: function 11 -/
def beaconlaw14_awake.f (k : Nat)  : Option (Bool) := (delta_Diff.f k (([(⟨1, 1, 4611686018427387904, 0, 0⟩ : S61)] : List (S61))) (([(⟨1, 1, 4613937818241073152, 0, 0⟩ : S61)] : List (S61)))).bind fun bt170 => (if bt170.2 = 0 then (if (bt170.1.length : Int) = 1 then (if 0 < (bt170.1.length : Int) then (if ((rd_T61 bt170.1 0).f0) = 1 then (some (feq ((rd_T61 bt170.1 0).f2) 4613937818241073152)) else (some false)) else (none)) else (some false)) else (some false))
theorem beaconlaw14_awake.mono : ∀ k, LeO (beaconlaw14_awake.f k ) (beaconlaw14_awake.f (k + 1) ) := by
 intro  k
 unfold beaconlaw14_awake.f
 repeat' first
   | (with_reducible exact delta_Diff.mono _ _ _)
   | (with_reducible exact LeO.refl _)
   | (with_reducible exact LeO.none _)
   | (with_reducible refine LeO.ite ?_ ?_)
   | (with_reducible refine LeO.bind ?_ (fun _ => ?_))
   | exact delta_Diff.mono _ _ _
   | exact LeO.none _
   | refine LeO.ite ?_ ?_
   | refine LeO.bind ?_ (fun _ => ?_)
set_option maxHeartbeats 8000000 in
set_option maxRecDepth 100000 in
theorem beaconlaw14_awake.calls (k : Nat)  (r : Bool) (w : World) (h : beaconlaw14_awake.f k  = some r) :
  Calls Try.prog 11 #[] w fun e w' => e = .returned (.bool r) ∧ Below w.heap.size w w':=by
 have hu61:=Try.underlying61
 have HB:=zA (Below.refl w.heap.size w)
 have H : ((delta_Diff.f k (([(⟨1,1,4611686018427387904,0,0⟩ : S61)] : List (S61))) (([(⟨1,1,4613937818241073152,0,0⟩ : S61)] : List (S61)))).bind fun bt170 => (if bt170.2 = 0 then (if (bt170.1.length : Int) = 1 then (if 0 < (bt170.1.length : Int) then (if ((rd_T61 bt170.1 0).f0) = 1 then (some (feq ((rd_T61 bt170.1 0).f2) 4613937818241073152)) else (some false)) else (none)) else (some false)) else (some false))) = some r:=h
 clear h
 obtain ⟨y164,hy164⟩ : ∃ y_ : List (S61),y_ = (([(⟨1,1,4611686018427387904,0,0⟩ : S61)] : List (S61))):=⟨_,rfl⟩
 replace H : ((delta_Diff.f k y164 (([(⟨1,1,4613937818241073152,0,0⟩ : S61)] : List (S61)))).bind fun bt170 => (if bt170.2 = 0 then (if (bt170.1.length : Int) = 1 then (if 0 < (bt170.1.length : Int) then (if ((rd_T61 bt170.1 0).f0) = 1 then (some (feq ((rd_T61 bt170.1 0).f2) 4613937818241073152)) else (some false)) else (none)) else (some false)) else (some false))) = some r:=by first|(rw [hy164];with_reducible exact H)|(have H2_:=(Option.bind_some _ _).symm.trans H;rw [hy164];with_reducible exact H2_)|(have H2_:=(Option.bind_some _ _).symm.trans H;with_reducible exact H2_)|with_reducible exact H|(rw [hy164];exact H)|exact H
 have Ny164:=zA hy164
 clear hy164
 obtain ⟨y167,hy167⟩ : ∃ y_ : List (S61),y_ = (([(⟨1,1,4613937818241073152,0,0⟩ : S61)] : List (S61))):=⟨_,rfl⟩
 replace H : ((delta_Diff.f k y164 y167).bind fun bt170 => (if bt170.2 = 0 then (if (bt170.1.length : Int) = 1 then (if 0 < (bt170.1.length : Int) then (if ((rd_T61 bt170.1 0).f0) = 1 then (some (feq ((rd_T61 bt170.1 0).f2) 4613937818241073152)) else (some false)) else (none)) else (some false)) else (some false))) = some r:=by first|(rw [hy167];with_reducible exact H)|(have H2_:=(Option.bind_some _ _).symm.trans H;rw [hy167];with_reducible exact H2_)|(have H2_:=(Option.bind_some _ _).symm.trans H;with_reducible exact H2_)|with_reducible exact H|(rw [hy167];exact H)|exact H
 have Ny167:=zA hy167
 clear hy167
 replace H:=Option.bind_eq_some_iff.mp H
 obtain ⟨⟨t170,t171⟩,A10,H⟩:=H
 (try dsimp only at H)
 have A1:=zA A10
 clear A10
 by_cases c2 : t171 = 0
 ·rw [if_pos c2] at H
  have c2b0 : (t171 == 0) = true:=beq_iff_eq.mpr c2
  have c2b1 : (t171 != 0) = false:=bne_eq_false_iff_eq.mpr c2
  clear c2
  by_cases c3 : (t170.length : Int) = 1
  ·rw [if_pos c3] at H
   have c3b0 : ((t170.length : Int) == 1) = true:=beq_iff_eq.mpr c3
   have c3b1 : ((t170.length : Int) != 1) = false:=bne_eq_false_iff_eq.mpr c3
   clear c3
   by_cases c4 : 0 < (t170.length : Int)
   ·rw [if_pos c4] at H
    have c4b0 : decide (0 < (t170.length : Int)) = true:=decide_eq_true c4
    have c4b1 : decide (0 < t170.length) = true:=decide_eq_true (by omega)
    clear c4
    by_cases c5 : ((rd_T61 t170 0).f0) = 1
    ·rw [if_pos c5] at H
     have c5b0 : (((rd_T61 t170 0).f0) == 1) = true:=beq_iff_eq.mpr c5
     have c5b1 : (((rd_T61 t170 0).f0) != 1) = false:=bne_eq_false_iff_eq.mpr c5
     clear c5
     obtain rfl:=Option.some.inj H
     go_enter Try.func11,Try.ntmps11
     go_wp2_with (first|((with_reducible refine gate_dst (N:=5) rfl ?_);(try (refine gate_guard (by rfl) ?_;dsimp only));refine Kd.R_lit k61 _ 61 ?hg (N:=5) ?hd (xs:=([(⟨1,1,4611686018427387904,0,0⟩ : S61)] : List (S61))) (inner:=[.int .i64 1,.int .i64 1,.float .f64 4611686018427387904,.float .f64 0,.int .i64 0]) (ok:=fun _ => True) (okp:=fun _ => True) ?hr ?hp (fun _ hk => hk) trivial (Below.refl _ _) (Nat.le_refl _) (by simp) ?_;(case hd => rfl);(case hg => rfl);(case hr => first|(go_simp;done)|(go_simp;rfl));(case hp => exact (Reps.c5 (show Kd.M k61 _ _ _ (⟨1,1,4611686018427387904,0,0⟩ : S61) [.int .i64 1,.int .i64 1,.float .f64 4611686018427387904,.float .f64 0,.int .i64 0] from (k61_mkM _ _ _ (⟨1,1,4611686018427387904,0,0⟩ : S61) )) (Reps.none _ _)));intro v165 w6 ho7 hb hg_ hnew_;clear hg_ hnew_;(first|rw [← Ny164.out] at ho7|(simp only [Int.reduceToNat] at ho7;rw [← Ny164.out] at ho7));have HO166:=zA (Kd.R_lower ho7 (zW HB));replace HB:=zS HB hb;clear hb ho7)|((with_reducible refine gate_dst (N:=7) rfl ?_);(try (refine gate_guard (by rfl) ?_;dsimp only));refine Kd.R_lit k61 _ 61 ?hg (N:=7) ?hd (xs:=([(⟨1,1,4613937818241073152,0,0⟩ : S61)] : List (S61))) (inner:=[.int .i64 1,.int .i64 1,.float .f64 4613937818241073152,.float .f64 0,.int .i64 0]) (ok:=fun _ => True) (okp:=fun _ => True) ?hr ?hp (fun _ hk => hk) trivial (Below.refl _ _) (Nat.le_refl _) (by simp) ?_;(case hd => rfl);(case hg => rfl);(case hr => first|(go_simp;done)|(go_simp;rfl));(case hp => exact (Reps.c5 (show Kd.M k61 _ _ _ (⟨1,1,4613937818241073152,0,0⟩ : S61) [.int .i64 1,.int .i64 1,.float .f64 4613937818241073152,.float .f64 0,.int .i64 0] from (k61_mkM _ _ _ (⟨1,1,4613937818241073152,0,0⟩ : S61) )) (Reps.none _ _)));intro v168 w8 ho9 hb hg_ hnew_;clear hg_ hnew_;(first|rw [← Ny167.out] at ho9|(simp only [Int.reduceToNat] at ho9;rw [← Ny167.out] at ho9));have HO169:=zA (Kd.R_lower (Kd.R_new' ho9 (Kd.R_lt (zR HO166))) (zW HB));replace HO166:=zA (Kd.R_elder' (zR HO166) (Kd.R_base ho9) hb);replace HB:=zS HB hb;clear hb ho9;obtain ⟨Ao10,co10,eo10⟩:=Kd.R_slice HO166.out;subst eo10;obtain ⟨Ao11,co11,eo11⟩:=Kd.R_slice HO169.out;subst eo11)|((with_reducible refine gate_callee (f:=12) rfl ?_);refine zg (some 8) Try.func12 #[.slice Ao10 y164.length co10,.slice Ao11 y167.length co11] ?_;(with_reducible refine (delta_Diff.calls k _ _ y164 _ _ y167 t170 t171 _ ?side1 ?side2 ?side3 ?side4 A1.out).mono ?_);(case side1 => exact zC ((Kd.R_reads' HO166.out).2.2));(case side2 => exact (Kd.R_reads' HO166.out).2.1);(case side3 => exact zC ((Kd.R_reads' HO169.out).2.2));(case side4 => exact (Kd.R_reads' HO169.out).2.1);rintro e w12 ⟨v172,rfl,ho0,hb⟩;refine ⟨_,rfl,?_⟩;have HO173:=zA (Kd.R_lower (Kd.R_new' (Kd.R_new' ho0 (Kd.R_lt (zR HO166))) (Kd.R_lt (zR HO169))) (zW HB));replace HO166:=zA (Kd.R_elder' (zR HO166) (Kd.R_base ho0) hb);replace HO169:=zA (Kd.R_elder' (zR HO169) (Kd.R_base ho0) hb);replace HB:=zS HB hb;(try clear hb);(try clear ho0);obtain ⟨Ao13,co13,eo13⟩:=Kd.R_slice HO173.out;subst eo13;have p174 : 0 ≤ (0 : Int):=(by omega);have q174 : 0 < (t170.length : Int):=zd;obtain ⟨ad174,e174,hx174_0,hx174_1,hx174_2,hx174_3,hx174_4⟩:=at_T61 (Kd.R_reads' HO173.out).2.2 0 p174 q174;cases e174;have qi174 : (0 < t170.length) = True:=eq_true (by omega);(try rw [show ((0 : Int)).toNat = 0 from rfl] at hx174_0);(try rw [show 0 * 5 = 0 from rfl] at hx174_0);(try rw [Addr.add_zero'] at hx174_0);(try rw [show ((0 : Int)).toNat = 0 from rfl] at hx174_1);(try rw [show 0 * 5 = 0 from rfl] at hx174_1);(try rw [Addr.add_zero'] at hx174_1);(try rw [show ((0 : Int)).toNat = 0 from rfl] at hx174_2);(try rw [show 0 * 5 = 0 from rfl] at hx174_2);(try rw [Addr.add_zero'] at hx174_2);(try rw [show ((0 : Int)).toNat = 0 from rfl] at hx174_3);(try rw [show 0 * 5 = 0 from rfl] at hx174_3);(try rw [Addr.add_zero'] at hx174_3);(try rw [show ((0 : Int)).toNat = 0 from rfl] at hx174_4);(try rw [show 0 * 5 = 0 from rfl] at hx174_4);(try rw [Addr.add_zero'] at hx174_4);replace p174:=eq_true p174;replace q174:=eq_true q174;have p175 : 0 ≤ (0 : Int):=(by omega);have q175 : 0 < (t170.length : Int):=zd;obtain ⟨ad175,e175,hx175_0,hx175_1,hx175_2,hx175_3,hx175_4⟩:=at_T61 (Kd.R_reads' HO173.out).2.2 0 p175 q175;obtain rfl : ad174 = ad175:=(by injection e175);have qi175 : (0 < t170.length) = True:=eq_true (by omega);(try rw [show ((0 : Int)).toNat = 0 from rfl] at hx175_0);(try rw [show 0 * 5 = 0 from rfl] at hx175_0);(try rw [Addr.add_zero'] at hx175_0);(try rw [show ((0 : Int)).toNat = 0 from rfl] at hx175_1);(try rw [show 0 * 5 = 0 from rfl] at hx175_1);(try rw [Addr.add_zero'] at hx175_1);(try rw [show ((0 : Int)).toNat = 0 from rfl] at hx175_2);(try rw [show 0 * 5 = 0 from rfl] at hx175_2);(try rw [Addr.add_zero'] at hx175_2);(try rw [show ((0 : Int)).toNat = 0 from rfl] at hx175_3);(try rw [show 0 * 5 = 0 from rfl] at hx175_3);(try rw [Addr.add_zero'] at hx175_3);(try rw [show ((0 : Int)).toNat = 0 from rfl] at hx175_4);(try rw [show 0 * 5 = 0 from rfl] at hx175_4);(try rw [Addr.add_zero'] at hx175_4);replace p175:=eq_true p175;replace q175:=eq_true q175))
     go_ret
     exact ⟨zE,zH HB⟩
    ·rw [if_neg c5] at H
     have c5b0 : (((rd_T61 t170 0).f0) == 1) = false:=beq_eq_false_iff_ne.mpr c5
     have c5b1 : (((rd_T61 t170 0).f0) != 1) = true:=bne_iff_ne.mpr c5
     obtain rfl:=Option.some.inj H
     go_enter Try.func11,Try.ntmps11
     go_wp2_with (first|((with_reducible refine gate_dst (N:=5) rfl ?_);(try (refine gate_guard (by rfl) ?_;dsimp only));refine Kd.R_lit k61 _ 61 ?hg (N:=5) ?hd (xs:=([(⟨1,1,4611686018427387904,0,0⟩ : S61)] : List (S61))) (inner:=[.int .i64 1,.int .i64 1,.float .f64 4611686018427387904,.float .f64 0,.int .i64 0]) (ok:=fun _ => True) (okp:=fun _ => True) ?hr ?hp (fun _ hk => hk) trivial (Below.refl _ _) (Nat.le_refl _) (by simp) ?_;(case hd => rfl);(case hg => rfl);(case hr => first|(go_simp;done)|(go_simp;rfl));(case hp => exact (Reps.c5 (show Kd.M k61 _ _ _ (⟨1,1,4611686018427387904,0,0⟩ : S61) [.int .i64 1,.int .i64 1,.float .f64 4611686018427387904,.float .f64 0,.int .i64 0] from (k61_mkM _ _ _ (⟨1,1,4611686018427387904,0,0⟩ : S61) )) (Reps.none _ _)));intro v165 w14 ho15 hb hg_ hnew_;clear hg_ hnew_;(first|rw [← Ny164.out] at ho15|(simp only [Int.reduceToNat] at ho15;rw [← Ny164.out] at ho15));have HO166:=zA (Kd.R_lower ho15 (zW HB));replace HB:=zS HB hb;clear hb ho15)|((with_reducible refine gate_dst (N:=7) rfl ?_);(try (refine gate_guard (by rfl) ?_;dsimp only));refine Kd.R_lit k61 _ 61 ?hg (N:=7) ?hd (xs:=([(⟨1,1,4613937818241073152,0,0⟩ : S61)] : List (S61))) (inner:=[.int .i64 1,.int .i64 1,.float .f64 4613937818241073152,.float .f64 0,.int .i64 0]) (ok:=fun _ => True) (okp:=fun _ => True) ?hr ?hp (fun _ hk => hk) trivial (Below.refl _ _) (Nat.le_refl _) (by simp) ?_;(case hd => rfl);(case hg => rfl);(case hr => first|(go_simp;done)|(go_simp;rfl));(case hp => exact (Reps.c5 (show Kd.M k61 _ _ _ (⟨1,1,4613937818241073152,0,0⟩ : S61) [.int .i64 1,.int .i64 1,.float .f64 4613937818241073152,.float .f64 0,.int .i64 0] from (k61_mkM _ _ _ (⟨1,1,4613937818241073152,0,0⟩ : S61) )) (Reps.none _ _)));intro v168 w16 ho17 hb hg_ hnew_;clear hg_ hnew_;(first|rw [← Ny167.out] at ho17|(simp only [Int.reduceToNat] at ho17;rw [← Ny167.out] at ho17));have HO169:=zA (Kd.R_lower (Kd.R_new' ho17 (Kd.R_lt (zR HO166))) (zW HB));replace HO166:=zA (Kd.R_elder' (zR HO166) (Kd.R_base ho17) hb);replace HB:=zS HB hb;clear hb ho17;obtain ⟨Ao18,co18,eo18⟩:=Kd.R_slice HO166.out;subst eo18;obtain ⟨Ao19,co19,eo19⟩:=Kd.R_slice HO169.out;subst eo19)|((with_reducible refine gate_callee (f:=12) rfl ?_);refine zg (some 8) Try.func12 #[.slice Ao18 y164.length co18,.slice Ao19 y167.length co19] ?_;(with_reducible refine (delta_Diff.calls k _ _ y164 _ _ y167 t170 t171 _ ?side1 ?side2 ?side3 ?side4 A1.out).mono ?_);(case side1 => exact zC ((Kd.R_reads' HO166.out).2.2));(case side2 => exact (Kd.R_reads' HO166.out).2.1);(case side3 => exact zC ((Kd.R_reads' HO169.out).2.2));(case side4 => exact (Kd.R_reads' HO169.out).2.1);rintro e w20 ⟨v172,rfl,ho0,hb⟩;refine ⟨_,rfl,?_⟩;have HO173:=zA (Kd.R_lower (Kd.R_new' (Kd.R_new' ho0 (Kd.R_lt (zR HO166))) (Kd.R_lt (zR HO169))) (zW HB));replace HO166:=zA (Kd.R_elder' (zR HO166) (Kd.R_base ho0) hb);replace HO169:=zA (Kd.R_elder' (zR HO169) (Kd.R_base ho0) hb);replace HB:=zS HB hb;(try clear hb);(try clear ho0);obtain ⟨Ao21,co21,eo21⟩:=Kd.R_slice HO173.out;subst eo21;have p174 : 0 ≤ (0 : Int):=(by omega);have q174 : 0 < (t170.length : Int):=zd;obtain ⟨ad174,e174,hx174_0,hx174_1,hx174_2,hx174_3,hx174_4⟩:=at_T61 (Kd.R_reads' HO173.out).2.2 0 p174 q174;cases e174;have qi174 : (0 < t170.length) = True:=eq_true (by omega);(try rw [show ((0 : Int)).toNat = 0 from rfl] at hx174_0);(try rw [show 0 * 5 = 0 from rfl] at hx174_0);(try rw [Addr.add_zero'] at hx174_0);(try rw [show ((0 : Int)).toNat = 0 from rfl] at hx174_1);(try rw [show 0 * 5 = 0 from rfl] at hx174_1);(try rw [Addr.add_zero'] at hx174_1);(try rw [show ((0 : Int)).toNat = 0 from rfl] at hx174_2);(try rw [show 0 * 5 = 0 from rfl] at hx174_2);(try rw [Addr.add_zero'] at hx174_2);(try rw [show ((0 : Int)).toNat = 0 from rfl] at hx174_3);(try rw [show 0 * 5 = 0 from rfl] at hx174_3);(try rw [Addr.add_zero'] at hx174_3);(try rw [show ((0 : Int)).toNat = 0 from rfl] at hx174_4);(try rw [show 0 * 5 = 0 from rfl] at hx174_4);(try rw [Addr.add_zero'] at hx174_4);replace p174:=eq_true p174;replace q174:=eq_true q174))
     go_ret
     exact ⟨zE,zH HB⟩
   ·rw [if_neg c4] at H
    exact absurd H (by simp)
  ·rw [if_neg c3] at H
   have c3b0 : ((t170.length : Int) == 1) = false:=beq_eq_false_iff_ne.mpr c3
   have c3b1 : ((t170.length : Int) != 1) = true:=bne_iff_ne.mpr c3
   obtain rfl:=Option.some.inj H
   go_enter Try.func11,Try.ntmps11
   go_wp2_with (first|((with_reducible refine gate_dst (N:=5) rfl ?_);(try (refine gate_guard (by rfl) ?_;dsimp only));refine Kd.R_lit k61 _ 61 ?hg (N:=5) ?hd (xs:=([(⟨1,1,4611686018427387904,0,0⟩ : S61)] : List (S61))) (inner:=[.int .i64 1,.int .i64 1,.float .f64 4611686018427387904,.float .f64 0,.int .i64 0]) (ok:=fun _ => True) (okp:=fun _ => True) ?hr ?hp (fun _ hk => hk) trivial (Below.refl _ _) (Nat.le_refl _) (by simp) ?_;(case hd => rfl);(case hg => rfl);(case hr => first|(go_simp;done)|(go_simp;rfl));(case hp => exact (Reps.c5 (show Kd.M k61 _ _ _ (⟨1,1,4611686018427387904,0,0⟩ : S61) [.int .i64 1,.int .i64 1,.float .f64 4611686018427387904,.float .f64 0,.int .i64 0] from (k61_mkM _ _ _ (⟨1,1,4611686018427387904,0,0⟩ : S61) )) (Reps.none _ _)));intro v165 w22 ho23 hb hg_ hnew_;clear hg_ hnew_;(first|rw [← Ny164.out] at ho23|(simp only [Int.reduceToNat] at ho23;rw [← Ny164.out] at ho23));have HO166:=zA (Kd.R_lower ho23 (zW HB));replace HB:=zS HB hb;clear hb ho23)|((with_reducible refine gate_dst (N:=7) rfl ?_);(try (refine gate_guard (by rfl) ?_;dsimp only));refine Kd.R_lit k61 _ 61 ?hg (N:=7) ?hd (xs:=([(⟨1,1,4613937818241073152,0,0⟩ : S61)] : List (S61))) (inner:=[.int .i64 1,.int .i64 1,.float .f64 4613937818241073152,.float .f64 0,.int .i64 0]) (ok:=fun _ => True) (okp:=fun _ => True) ?hr ?hp (fun _ hk => hk) trivial (Below.refl _ _) (Nat.le_refl _) (by simp) ?_;(case hd => rfl);(case hg => rfl);(case hr => first|(go_simp;done)|(go_simp;rfl));(case hp => exact (Reps.c5 (show Kd.M k61 _ _ _ (⟨1,1,4613937818241073152,0,0⟩ : S61) [.int .i64 1,.int .i64 1,.float .f64 4613937818241073152,.float .f64 0,.int .i64 0] from (k61_mkM _ _ _ (⟨1,1,4613937818241073152,0,0⟩ : S61) )) (Reps.none _ _)));intro v168 w24 ho25 hb hg_ hnew_;clear hg_ hnew_;(first|rw [← Ny167.out] at ho25|(simp only [Int.reduceToNat] at ho25;rw [← Ny167.out] at ho25));have HO169:=zA (Kd.R_lower (Kd.R_new' ho25 (Kd.R_lt (zR HO166))) (zW HB));replace HO166:=zA (Kd.R_elder' (zR HO166) (Kd.R_base ho25) hb);replace HB:=zS HB hb;clear hb ho25;obtain ⟨Ao26,co26,eo26⟩:=Kd.R_slice HO166.out;subst eo26;obtain ⟨Ao27,co27,eo27⟩:=Kd.R_slice HO169.out;subst eo27)|((with_reducible refine gate_callee (f:=12) rfl ?_);refine zg (some 8) Try.func12 #[.slice Ao26 y164.length co26,.slice Ao27 y167.length co27] ?_;(with_reducible refine (delta_Diff.calls k _ _ y164 _ _ y167 t170 t171 _ ?side1 ?side2 ?side3 ?side4 A1.out).mono ?_);(case side1 => exact zC ((Kd.R_reads' HO166.out).2.2));(case side2 => exact (Kd.R_reads' HO166.out).2.1);(case side3 => exact zC ((Kd.R_reads' HO169.out).2.2));(case side4 => exact (Kd.R_reads' HO169.out).2.1);rintro e w28 ⟨v172,rfl,ho0,hb⟩;refine ⟨_,rfl,?_⟩;have HO173:=zA (Kd.R_lower (Kd.R_new' (Kd.R_new' ho0 (Kd.R_lt (zR HO166))) (Kd.R_lt (zR HO169))) (zW HB));replace HO166:=zA (Kd.R_elder' (zR HO166) (Kd.R_base ho0) hb);replace HO169:=zA (Kd.R_elder' (zR HO169) (Kd.R_base ho0) hb);replace HB:=zS HB hb;(try clear hb);(try clear ho0);obtain ⟨Ao29,co29,eo29⟩:=Kd.R_slice HO173.out;subst eo29))
   go_ret
   exact ⟨zE,zH HB⟩
 ·rw [if_neg c2] at H
  have c2b0 : (t171 == 0) = false:=beq_eq_false_iff_ne.mpr c2
  have c2b1 : (t171 != 0) = true:=bne_iff_ne.mpr c2
  obtain rfl:=Option.some.inj H
  go_enter Try.func11,Try.ntmps11
  go_wp2_with (first|((with_reducible refine gate_dst (N:=5) rfl ?_);(try (refine gate_guard (by rfl) ?_;dsimp only));refine Kd.R_lit k61 _ 61 ?hg (N:=5) ?hd (xs:=([(⟨1,1,4611686018427387904,0,0⟩ : S61)] : List (S61))) (inner:=[.int .i64 1,.int .i64 1,.float .f64 4611686018427387904,.float .f64 0,.int .i64 0]) (ok:=fun _ => True) (okp:=fun _ => True) ?hr ?hp (fun _ hk => hk) trivial (Below.refl _ _) (Nat.le_refl _) (by simp) ?_;(case hd => rfl);(case hg => rfl);(case hr => first|(go_simp;done)|(go_simp;rfl));(case hp => exact (Reps.c5 (show Kd.M k61 _ _ _ (⟨1,1,4611686018427387904,0,0⟩ : S61) [.int .i64 1,.int .i64 1,.float .f64 4611686018427387904,.float .f64 0,.int .i64 0] from (k61_mkM _ _ _ (⟨1,1,4611686018427387904,0,0⟩ : S61) )) (Reps.none _ _)));intro v165 w30 ho31 hb hg_ hnew_;clear hg_ hnew_;(first|rw [← Ny164.out] at ho31|(simp only [Int.reduceToNat] at ho31;rw [← Ny164.out] at ho31));have HO166:=zA (Kd.R_lower ho31 (zW HB));replace HB:=zS HB hb;clear hb ho31)|((with_reducible refine gate_dst (N:=7) rfl ?_);(try (refine gate_guard (by rfl) ?_;dsimp only));refine Kd.R_lit k61 _ 61 ?hg (N:=7) ?hd (xs:=([(⟨1,1,4613937818241073152,0,0⟩ : S61)] : List (S61))) (inner:=[.int .i64 1,.int .i64 1,.float .f64 4613937818241073152,.float .f64 0,.int .i64 0]) (ok:=fun _ => True) (okp:=fun _ => True) ?hr ?hp (fun _ hk => hk) trivial (Below.refl _ _) (Nat.le_refl _) (by simp) ?_;(case hd => rfl);(case hg => rfl);(case hr => first|(go_simp;done)|(go_simp;rfl));(case hp => exact (Reps.c5 (show Kd.M k61 _ _ _ (⟨1,1,4613937818241073152,0,0⟩ : S61) [.int .i64 1,.int .i64 1,.float .f64 4613937818241073152,.float .f64 0,.int .i64 0] from (k61_mkM _ _ _ (⟨1,1,4613937818241073152,0,0⟩ : S61) )) (Reps.none _ _)));intro v168 w32 ho33 hb hg_ hnew_;clear hg_ hnew_;(first|rw [← Ny167.out] at ho33|(simp only [Int.reduceToNat] at ho33;rw [← Ny167.out] at ho33));have HO169:=zA (Kd.R_lower (Kd.R_new' ho33 (Kd.R_lt (zR HO166))) (zW HB));replace HO166:=zA (Kd.R_elder' (zR HO166) (Kd.R_base ho33) hb);replace HB:=zS HB hb;clear hb ho33;obtain ⟨Ao34,co34,eo34⟩:=Kd.R_slice HO166.out;subst eo34;obtain ⟨Ao35,co35,eo35⟩:=Kd.R_slice HO169.out;subst eo35)|((with_reducible refine gate_callee (f:=12) rfl ?_);refine zg (some 8) Try.func12 #[.slice Ao34 y164.length co34,.slice Ao35 y167.length co35] ?_;(with_reducible refine (delta_Diff.calls k _ _ y164 _ _ y167 t170 t171 _ ?side1 ?side2 ?side3 ?side4 A1.out).mono ?_);(case side1 => exact zC ((Kd.R_reads' HO166.out).2.2));(case side2 => exact (Kd.R_reads' HO166.out).2.1);(case side3 => exact zC ((Kd.R_reads' HO169.out).2.2));(case side4 => exact (Kd.R_reads' HO169.out).2.1);rintro e w36 ⟨v172,rfl,ho0,hb⟩;refine ⟨_,rfl,?_⟩;have HO173:=zA (Kd.R_lower (Kd.R_new' (Kd.R_new' ho0 (Kd.R_lt (zR HO166))) (Kd.R_lt (zR HO169))) (zW HB));replace HO166:=zA (Kd.R_elder' (zR HO166) (Kd.R_base ho0) hb);replace HO169:=zA (Kd.R_elder' (zR HO169) (Kd.R_base ho0) hb);replace HB:=zS HB hb;(try clear hb);(try clear ho0)))
  go_ret
  exact ⟨zE,zH HB⟩

end Go.Proofs.Ytpcgjdllgdkobaa.XD
