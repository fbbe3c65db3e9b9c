/- Go functions of this seat as Lean functions, with proofs that the calls come to them. (Written by xprint.py, a program of this session, over the kit's print.) -/
import Derived.Test.YtpcgjdllgdkobaaXPx0
import Derived.Test.YtpcgjdllgdkobaaXPx7
import Derived.Test.YtpcgjdllgdkobaaXPx10
namespace Go.Proofs.Ytpcgjdllgdkobaa.XP
open Go.RowKit Go.Proofs.YtpcgjdllgdkobaaW.PrintWords Go.Proofs.YtpcgjdllgdkobaaW.PrintLast Go.Proofs.YtpcgjdllgdkobaaW.PrintMore
attribute [local go_sem] max2_int min2_int max_two min_two max_three min_three max_four min_four   -- for this text's walks alone
set_option linter.unusedVariables false
set_option linter.unusedSimpArgs false
open List renaming setIfInBounds_toArray → xA, set_cons_zero → xB, set_cons_succ → xC
open Go.Proofs.YtpcgjdllgdkobaaW.PrintWords renaming blk_drewN → bN, blk_drew → bD, blk_alloc → bA, below_set → bS, blk_frozen → bF, blk_cell → bC, cell_far → cF, blk_far → bZ, blk_below → bB, pw_below_drewN → bwN, below_drew1 → bw1, below_alloc → bwA
open Go.Proofs.YtpcgjdllgdkobaaW.PrintZ
open Bool renaming true → T,false → F

/-! ### delta_Diff: function 12 -/
def delta_Diff.f (k : Nat) (l0 : List (S61)) (l1 : List (S61)) : Option ((List (S61)) × Int) := (delta_list.f k l0).bind fun t155 => (if t155 = true then ((delta_list.f k l1).bind fun t156 => (if t156 = true then ((delta_diff.f l0 l1).bind fun t157 => (some (t157, 0))) else (some (([] : List (S61)), 1)))) else (some (([] : List (S61)), 1)))
theorem delta_Diff.mono : ∀ a0 a1 k, LeO (delta_Diff.f k a0 a1) (delta_Diff.f (k + 1) a0 a1) := by
 intro a0 a1 k
 unfold delta_Diff.f
 repeat' first
   | (with_reducible exact delta_list.mono _ _)
   | (with_reducible exact LeO.refl _)
   | (with_reducible exact LeO.none _)
   | (with_reducible refine LeO.ite ?_ ?_)
   | (with_reducible refine LeO.bind ?_ (fun _ => ?_))
   | exact delta_list.mono _ _
   | exact LeO.none _
   | refine LeO.ite ?_ ?_
   | refine LeO.bind ?_ (fun _ => ?_)
set_option maxHeartbeats 8000000 in
set_option maxRecDepth 100000 in
theorem delta_Diff.calls (k : Nat) (A0 : Option Addr) (c0 : Nat) (l0 : List (S61)) (A1 : Option Addr) (c1 : Nat) (l1 : List (S61)) (r1 : List (S61)) (r2 : Int) (w : World) (hr0 : Kd.C k61 w A0 l0.length l0) (hc0 : l0.length ≤ c0) (hr1 : Kd.C k61 w A1 l1.length l1) (hc1 : l1.length ≤ c1) (h : delta_Diff.f k l0 l1 = some (r1, r2)) :
  Calls Try.prog 12 #[.slice A0 l0.length c0,.slice A1 l1.length c1] w fun e w' => ∃ v0_ : Value,e = .returned (.tuple #[v0_,.int .i64 r2]) ∧ Kd.R k61 61 w' w.heap.size (fun _ => True) v0_ r1 ∧ Below w.heap.size w w':=by
 have HR0:=zA hr0;have HC0:=zA hc0;clear hr0 hc0;have HR1:=zA hr1;have HC1:=zA hc1;clear hr1 hc1;have HB:=zA (Below.refl w.heap.size w);have H : ((delta_list.f k l0).bind fun t155 => (if t155 = true then ((delta_list.f k l1).bind fun t156 => (if t156 = true then ((delta_diff.f l0 l1).bind fun t157 => (some (t157,0))) else (some (([] : List (S61)),1)))) else (some (([] : List (S61)),1)))) = some (r1,r2):=h;clear h;replace H:=Option.bind_eq_some_iff.mp H;obtain ⟨t155,A30,H⟩:=H;(try dsimp only at H);have A3:=zA A30;clear A30;by_cases c4 : t155 = true
 ·subst c4;rw [if_pos rfl] at H;replace H:=Option.bind_eq_some_iff.mp H;obtain ⟨t156,A50,H⟩:=H;(try dsimp only at H);have A5:=zA A50;clear A50;by_cases c6 : t156 = true
  ·subst c6;rw [if_pos rfl] at H;replace H:=Option.bind_eq_some_iff.mp H;obtain ⟨t157,A70,H⟩:=H;(try dsimp only at H);have A7:=zA A70;clear A70;simp only [Option.some.injEq,Prod.mk.injEq] at H;obtain ⟨rfl,rfl⟩:=H;go_enter Try.func12,Try.ntmps12
   go_wp2_with (first|((with_reducible refine gate_callee (f:=30) rfl ?_);refine zg (some 7) Try.func30 #[.slice A0 l0.length c0] ?_;(with_reducible refine (delta_list.calls k _ _ l0 true _ ?side1 ?side2 A3.out).mono ?_);(case side1 => exact zC HR0.out);(case side2 => exact HC0.out);rintro e w8 ⟨rfl,hb⟩;refine ⟨_,rfl,?_⟩;replace HB:=zS HB hb;(try clear hb))|(go_at_call 30;(with_reducible refine (delta_list.calls k _ _ l1 true _ ?side1 ?side2 A5.out).mono ?_);(case side1 => exact zC (Kd.C_below HR1.out HB.1));(case side2 => exact HC1.out);rintro e w9 ⟨rfl,hb⟩;replace HB:=zS HB hb;(try clear hb))|((with_reducible refine gate_callee (f:=31) rfl ?_);refine zg (some 16) Try.func31 #[.slice A0 l0.length c0,.slice A1 l1.length c1] ?_;(with_reducible refine (delta_diff.calls _ _ l0 _ _ l1 t157 _ ?side1 ?side2 ?side3 ?side4 A7.out).mono ?_);(case side1 => exact zC (Kd.C_below HR0.out HB.1));(case side2 => exact HC0.out);(case side3 => exact zC (Kd.C_below HR1.out HB.1));(case side4 => exact HC1.out);rintro e w10 ⟨v158,rfl,ho0,hb⟩;refine ⟨_,rfl,?_⟩;have HO159:=zA (Kd.R_lower ho0 (zW HB));replace HB:=zS HB hb;(try clear hb);(try clear ho0)))
   go_ret2
   exact ⟨_,by first|rfl|(simp [errW_none,errW_some] <;> rfl)|(simp [*,errW_none,errW_some] <;> rfl),by (with_reducible repeat (first|apply Kd.R_alloc|apply Kd.R_drewN|apply Kd.R_drew));exact HO159.out,zH HB⟩
  ·replace c6:=Bool.eq_false_iff.mpr c6;subst c6;rw [if_neg (show ¬ (false = true) by decide)] at H;simp only [Option.some.injEq,Prod.mk.injEq] at H;obtain ⟨rfl,rfl⟩:=H;go_enter Try.func12,Try.ntmps12
   go_wp2_with (first|((with_reducible refine gate_callee (f:=30) rfl ?_);refine zg (some 7) Try.func30 #[.slice A0 l0.length c0] ?_;(with_reducible refine (delta_list.calls k _ _ l0 true _ ?side1 ?side2 A3.out).mono ?_);(case side1 => exact zC HR0.out);(case side2 => exact HC0.out);rintro e w11 ⟨rfl,hb⟩;refine ⟨_,rfl,?_⟩;replace HB:=zS HB hb;(try clear hb))|(go_at_call 30;(with_reducible refine (delta_list.calls k _ _ l1 false _ ?side1 ?side2 A5.out).mono ?_);(case side1 => exact zC (Kd.C_below HR1.out HB.1));(case side2 => exact HC1.out);rintro e w12 ⟨rfl,hb⟩;replace HB:=zS HB hb;(try clear hb)))
   go_ret2
   exact ⟨_,by first|rfl|(simp [errW_none,errW_some] <;> rfl)|(simp [*,errW_none,errW_some] <;> rfl),by first|exact Kd.R_nil _ _ _ _ _|exact Kd.N_nil _ _ _ _ _|exact Kd.V_nil _ _ _ _ _|exact Kd.Q_nil _ _ _ _ _|exact Kd.S_nil _ _ _ _ _,zH HB⟩
 ·replace c4:=Bool.eq_false_iff.mpr c4;subst c4;rw [if_neg (show ¬ (false = true) by decide)] at H;simp only [Option.some.injEq,Prod.mk.injEq] at H;obtain ⟨rfl,rfl⟩:=H;go_enter Try.func12,Try.ntmps12
  go_wp2_with (first|((with_reducible refine gate_callee (f:=30) rfl ?_);refine zg (some 7) Try.func30 #[.slice A0 l0.length c0] ?_;(with_reducible refine (delta_list.calls k _ _ l0 false _ ?side1 ?side2 A3.out).mono ?_);(case side1 => exact zC HR0.out);(case side2 => exact HC0.out);rintro e w13 ⟨rfl,hb⟩;refine ⟨_,rfl,?_⟩;replace HB:=zS HB hb;(try clear hb)))
  go_ret2
  exact ⟨_,by first|rfl|(simp [errW_none,errW_some] <;> rfl)|(simp [*,errW_none,errW_some] <;> rfl),by first|exact Kd.R_nil _ _ _ _ _|exact Kd.N_nil _ _ _ _ _|exact Kd.V_nil _ _ _ _ _|exact Kd.Q_nil _ _ _ _ _|exact Kd.S_nil _ _ _ _ _,zH HB⟩

/-! ### beaconlaw14_awake: function 11 -/
def beaconlaw14_awake.f (k : Nat)  : Option (Bool) := (delta_Diff.f k (([(⟨1, 1, 4611686018427387904, 0, 0⟩ : S61)] : List (S61))) (([(⟨1, 1, 4613937818241073152, 0, 0⟩ : S61)] : List (S61)))).bind fun bt166 => (if bt166.2 = 0 then (if (bt166.1.length : Int) = 1 then (if 0 < (bt166.1.length : Int) then (if ((rd_T61 bt166.1 0).f0) = 1 then (some (feq ((rd_T61 bt166.1 0).f2) 4613937818241073152)) else (some false)) else (none)) else (some false)) else (some false))
theorem beaconlaw14_awake.mono : ∀ k, LeO (beaconlaw14_awake.f k ) (beaconlaw14_awake.f (k + 1) ) := by
 intro  k
 unfold beaconlaw14_awake.f
 repeat' first
   | (with_reducible exact delta_Diff.mono _ _ _)
   | (with_reducible exact LeO.refl _)
   | (with_reducible exact LeO.none _)
   | (with_reducible refine LeO.ite ?_ ?_)
   | (with_reducible refine LeO.bind ?_ (fun _ => ?_))
   | exact delta_Diff.mono _ _ _
   | exact LeO.none _
   | refine LeO.ite ?_ ?_
   | refine LeO.bind ?_ (fun _ => ?_)
set_option maxHeartbeats 8000000 in
set_option maxRecDepth 100000 in
theorem beaconlaw14_awake.calls (k : Nat)  (r : Bool) (w : World) (h : beaconlaw14_awake.f k  = some r) (hr_ : r = true) :
  Calls Try.prog 11 #[] w fun e w' => e = .returned (.bool r) ∧ Below w.heap.size w w':=by
 have hu61:=Try.underlying61;have HB:=zA (Below.refl w.heap.size w);have H : ((delta_Diff.f k (([(⟨1,1,4611686018427387904,0,0⟩ : S61)] : List (S61))) (([(⟨1,1,4613937818241073152,0,0⟩ : S61)] : List (S61)))).bind fun bt166 => (if bt166.2 = 0 then (if (bt166.1.length : Int) = 1 then (if 0 < (bt166.1.length : Int) then (if ((rd_T61 bt166.1 0).f0) = 1 then (some (feq ((rd_T61 bt166.1 0).f2) 4613937818241073152)) else (some false)) else (none)) else (some false)) else (some false))) = some r:=h;clear h;obtain ⟨y160,hy160⟩ : ∃ y_ : List (S61),y_ = (([(⟨1,1,4611686018427387904,0,0⟩ : S61)] : List (S61))):=⟨_,rfl⟩;replace H : ((delta_Diff.f k y160 (([(⟨1,1,4613937818241073152,0,0⟩ : S61)] : List (S61)))).bind fun bt166 => (if bt166.2 = 0 then (if (bt166.1.length : Int) = 1 then (if 0 < (bt166.1.length : Int) then (if ((rd_T61 bt166.1 0).f0) = 1 then (some (feq ((rd_T61 bt166.1 0).f2) 4613937818241073152)) else (some false)) else (none)) else (some false)) else (some false))) = some r:=by first|(rw [hy160];with_reducible exact H)|(have H2_:=(Option.bind_some _ _).symm.trans H;rw [hy160];with_reducible exact H2_)|(have H2_:=(Option.bind_some _ _).symm.trans H;with_reducible exact H2_)|with_reducible exact H|(rw [hy160];exact H)|exact H
 have Ny160:=zA hy160;clear hy160;obtain ⟨y163,hy163⟩ : ∃ y_ : List (S61),y_ = (([(⟨1,1,4613937818241073152,0,0⟩ : S61)] : List (S61))):=⟨_,rfl⟩;replace H : ((delta_Diff.f k y160 y163).bind fun bt166 => (if bt166.2 = 0 then (if (bt166.1.length : Int) = 1 then (if 0 < (bt166.1.length : Int) then (if ((rd_T61 bt166.1 0).f0) = 1 then (some (feq ((rd_T61 bt166.1 0).f2) 4613937818241073152)) else (some false)) else (none)) else (some false)) else (some false))) = some r:=by first|(rw [hy163];with_reducible exact H)|(have H2_:=(Option.bind_some _ _).symm.trans H;rw [hy163];with_reducible exact H2_)|(have H2_:=(Option.bind_some _ _).symm.trans H;with_reducible exact H2_)|with_reducible exact H|(rw [hy163];exact H)|exact H
 have Ny163:=zA hy163;clear hy163;replace H:=Option.bind_eq_some_iff.mp H;obtain ⟨⟨t166,t167⟩,A10,H⟩:=H;(try dsimp only at H);have A1:=zA A10;clear A10;by_cases c2 : t167 = 0
 ·rw [if_pos c2] at H;have c2b0 : (t167 == 0) = true:=beq_iff_eq.mpr c2;have c2b1 : (t167 != 0) = false:=bne_eq_false_iff_eq.mpr c2;clear c2;by_cases c3 : (t166.length : Int) = 1
  ·rw [if_pos c3] at H;have c3b0 : ((t166.length : Int) == 1) = true:=beq_iff_eq.mpr c3;have c3b1 : ((t166.length : Int) != 1) = false:=bne_eq_false_iff_eq.mpr c3;clear c3;by_cases c4 : 0 < (t166.length : Int)
   ·rw [if_pos c4] at H;have c4b0 : decide (0 < (t166.length : Int)) = true:=decide_eq_true c4;have c4b1 : decide (0 < t166.length) = true:=decide_eq_true (by omega);clear c4;by_cases c5 : ((rd_T61 t166 0).f0) = 1
    ·rw [if_pos c5] at H;have c5b0 : (((rd_T61 t166 0).f0) == 1) = true:=beq_iff_eq.mpr c5;have c5b1 : (((rd_T61 t166 0).f0) != 1) = false:=bne_eq_false_iff_eq.mpr c5;clear c5;obtain rfl:=Option.some.inj H;go_enter Try.func11,Try.ntmps11
     go_wp2_with (first|((with_reducible refine gate_dst (N:=5) rfl ?_);(try (refine gate_guard (by rfl) ?_;dsimp only));refine Kd.R_lit k61 _ 61 ?hg (N:=5) ?hd (xs:=([(⟨1,1,4611686018427387904,0,0⟩ : S61)] : List (S61))) (inner:=[.int .i64 1,.int .i64 1,.float .f64 4611686018427387904,.float .f64 0,.int .i64 0]) (ok:=fun _ => True) (okp:=fun _ => True) ?hr ?hp (fun _ hk => hk) trivial (Below.refl _ _) (Nat.le_refl _) (by simp) ?_;(case hd => rfl);(case hg => rfl);(case hr => first|(go_simp;done)|(go_simp;rfl));(case hp => exact (Reps.c5 (show Kd.M k61 _ _ _ (⟨1,1,4611686018427387904,0,0⟩ : S61) [.int .i64 1,.int .i64 1,.float .f64 4611686018427387904,.float .f64 0,.int .i64 0] from (k61_mkM _ _ _ (⟨1,1,4611686018427387904,0,0⟩ : S61) )) (Reps.none _ _)));intro v161 w6 ho7 hb hg_ hnew_;clear hg_ hnew_;(first|rw [← Ny160.out] at ho7|(simp only [Int.reduceToNat] at ho7;rw [← Ny160.out] at ho7));have HO162:=zA (Kd.R_lower ho7 (zW HB));replace HB:=zS HB hb;clear hb ho7)|((with_reducible refine gate_dst (N:=7) rfl ?_);(try (refine gate_guard (by rfl) ?_;dsimp only));refine Kd.R_lit k61 _ 61 ?hg (N:=7) ?hd (xs:=([(⟨1,1,4613937818241073152,0,0⟩ : S61)] : List (S61))) (inner:=[.int .i64 1,.int .i64 1,.float .f64 4613937818241073152,.float .f64 0,.int .i64 0]) (ok:=fun _ => True) (okp:=fun _ => True) ?hr ?hp (fun _ hk => hk) trivial (Below.refl _ _) (Nat.le_refl _) (by simp) ?_;(case hd => rfl);(case hg => rfl);(case hr => first|(go_simp;done)|(go_simp;rfl));(case hp => exact (Reps.c5 (show Kd.M k61 _ _ _ (⟨1,1,4613937818241073152,0,0⟩ : S61) [.int .i64 1,.int .i64 1,.float .f64 4613937818241073152,.float .f64 0,.int .i64 0] from (k61_mkM _ _ _ (⟨1,1,4613937818241073152,0,0⟩ : S61) )) (Reps.none _ _)));intro v164 w8 ho9 hb hg_ hnew_;clear hg_ hnew_;(first|rw [← Ny163.out] at ho9|(simp only [Int.reduceToNat] at ho9;rw [← Ny163.out] at ho9));have HO165:=zA (Kd.R_lower (Kd.R_new' ho9 (Kd.R_lt (zR HO162))) (zW HB));replace HO162:=zA (Kd.R_elder' (zR HO162) (Kd.R_base ho9) hb);replace HB:=zS HB hb;clear hb ho9;obtain ⟨Ao10,co10,eo10⟩:=Kd.R_slice HO162.out;subst eo10;obtain ⟨Ao11,co11,eo11⟩:=Kd.R_slice HO165.out;subst eo11)|((with_reducible refine gate_callee (f:=12) rfl ?_);refine zg (some 8) Try.func12 #[.slice Ao10 y160.length co10,.slice Ao11 y163.length co11] ?_;(with_reducible refine (delta_Diff.calls k _ _ y160 _ _ y163 t166 t167 _ ?side1 ?side2 ?side3 ?side4 A1.out).mono ?_);(case side1 => exact zC ((Kd.R_reads' HO162.out).2.2));(case side2 => exact (Kd.R_reads' HO162.out).2.1);(case side3 => exact zC ((Kd.R_reads' HO165.out).2.2));(case side4 => exact (Kd.R_reads' HO165.out).2.1);rintro e w12 ⟨v168,rfl,ho0,hb⟩;refine ⟨_,rfl,?_⟩;have HO169:=zA (Kd.R_lower (Kd.R_new' (Kd.R_new' ho0 (Kd.R_lt (zR HO162))) (Kd.R_lt (zR HO165))) (zW HB));replace HO162:=zA (Kd.R_elder' (zR HO162) (Kd.R_base ho0) hb);replace HO165:=zA (Kd.R_elder' (zR HO165) (Kd.R_base ho0) hb);replace HB:=zS HB hb;(try clear hb);(try clear ho0);obtain ⟨Ao13,co13,eo13⟩:=Kd.R_slice HO169.out;subst eo13;have p170 : 0 ≤ (0 : Int):=(by omega);have q170 : 0 < (t166.length : Int):=zd;obtain ⟨ad170,e170,hx170_0,hx170_1,hx170_2,hx170_3,hx170_4⟩:=at_T61 (Kd.R_reads' HO169.out).2.2 0 p170 q170;cases e170;have qi170 : (0 < t166.length) = True:=eq_true (by omega);(try rw [show ((0 : Int)).toNat = 0 from rfl] at hx170_0);(try rw [show 0 * 5 = 0 from rfl] at hx170_0);(try rw [Addr.add_zero'] at hx170_0);(try rw [show ((0 : Int)).toNat = 0 from rfl] at hx170_1);(try rw [show 0 * 5 = 0 from rfl] at hx170_1);(try rw [Addr.add_zero'] at hx170_1);(try rw [show ((0 : Int)).toNat = 0 from rfl] at hx170_2);(try rw [show 0 * 5 = 0 from rfl] at hx170_2);(try rw [Addr.add_zero'] at hx170_2);(try rw [show ((0 : Int)).toNat = 0 from rfl] at hx170_3);(try rw [show 0 * 5 = 0 from rfl] at hx170_3);(try rw [Addr.add_zero'] at hx170_3);(try rw [show ((0 : Int)).toNat = 0 from rfl] at hx170_4);(try rw [show 0 * 5 = 0 from rfl] at hx170_4);(try rw [Addr.add_zero'] at hx170_4);replace p170:=eq_true p170;replace q170:=eq_true q170;have p171 : 0 ≤ (0 : Int):=(by omega);have q171 : 0 < (t166.length : Int):=zd;obtain ⟨ad171,e171,hx171_0,hx171_1,hx171_2,hx171_3,hx171_4⟩:=at_T61 (Kd.R_reads' HO169.out).2.2 0 p171 q171;obtain rfl : ad170 = ad171:=(by injection e171);have qi171 : (0 < t166.length) = True:=eq_true (by omega);(try rw [show ((0 : Int)).toNat = 0 from rfl] at hx171_0);(try rw [show 0 * 5 = 0 from rfl] at hx171_0);(try rw [Addr.add_zero'] at hx171_0);(try rw [show ((0 : Int)).toNat = 0 from rfl] at hx171_1);(try rw [show 0 * 5 = 0 from rfl] at hx171_1);(try rw [Addr.add_zero'] at hx171_1);(try rw [show ((0 : Int)).toNat = 0 from rfl] at hx171_2);(try rw [show 0 * 5 = 0 from rfl] at hx171_2);(try rw [Addr.add_zero'] at hx171_2);(try rw [show ((0 : Int)).toNat = 0 from rfl] at hx171_3);(try rw [show 0 * 5 = 0 from rfl] at hx171_3);(try rw [Addr.add_zero'] at hx171_3);(try rw [show ((0 : Int)).toNat = 0 from rfl] at hx171_4);(try rw [show 0 * 5 = 0 from rfl] at hx171_4);(try rw [Addr.add_zero'] at hx171_4);replace p171:=eq_true p171;replace q171:=eq_true q171))
     go_ret
     exact ⟨zE,zH HB⟩
    ·rw [if_neg c5] at H;exact absurd ((Option.some.inj H).trans hr_) (by decide)
   ·rw [if_neg c4] at H;exact absurd H (by simp)
  ·rw [if_neg c3] at H;exact absurd ((Option.some.inj H).trans hr_) (by decide)
 ·rw [if_neg c2] at H;exact absurd ((Option.some.inj H).trans hr_) (by decide)

/-! ### beaconlaw14_own: function 13 -/
def beaconlaw14_own.f (l0 : List (S61)) : Option ((List (S61))) := if ([] : List (S61)).length + l0.length < 3518437208883 then (some (([] : List (S61)) ++ l0)) else (none)
set_option maxHeartbeats 8000000 in
set_option maxRecDepth 100000 in
theorem beaconlaw14_own.calls (A0 : Option Addr) (c0 : Nat) (l0 : List (S61)) (r : List (S61)) (w : World) (hr0 : Kd.C k61 w A0 l0.length l0) (hc0 : l0.length ≤ c0) (h : beaconlaw14_own.f l0 = some r) :
  Calls Try.prog 13 #[.slice A0 l0.length c0] w fun e w' => ∃ v0_ : Value,e = .returned (v0_) ∧ Kd.R k61 61 w' w.heap.size (fun _ => True) v0_ r ∧ Below w.heap.size w w':=by
 have HR0:=zA hr0;have HC0:=zA hc0;clear hr0 hc0;have HB:=zA (Below.refl w.heap.size w);have H : (if ([] : List (S61)).length + l0.length < 3518437208883 then (some (([] : List (S61)) ++ l0)) else (none)) = some r:=h;clear h;by_cases c2 : ([] : List (S61)).length + l0.length < 3518437208883
 ·rw [if_pos c2] at H;have LMc2:=zA c2;clear c2;obtain ⟨y172,hy172⟩ : ∃ y_ : List (S61),y_ = (([] : List (S61)) ++ l0):=⟨_,rfl⟩;replace H : (some y172) = some r:=by first|(rw [hy172];with_reducible exact H)|(have H2_:=(Option.bind_some _ _).symm.trans H;rw [hy172];with_reducible exact H2_)|(have H2_:=(Option.bind_some _ _).symm.trans H;with_reducible exact H2_)|with_reducible exact H|(rw [hy172];exact H)|exact H
  have Ny172:=zA hy172;clear hy172;obtain rfl:=Option.some.inj H;go_enter Try.func13,Try.ntmps13
  go_wp2_with (first|((with_reducible refine gate_builtin (b:=.append) (xs:=#[.tmp 4,.tmp 5]) rfl ?_);at_builtin;refine Kd.R_append_rows k61 (w0:=w) w.heap.size rfl (.tmp 4) (.tmp 5) 30 61 (.agg #[(.int .i64 0),(.int .i64 0),(.float .f64 0),(.float .f64 0),(.int .i64 0)]) 40 rfl Try.underlying30 info61 rfl (by decide) (by omega) (.slice none 0 0) ([] : List (S61)) l0 _ _ _ (fun _ => True) (fun _ => False) rfl rfl ?aO ?aR (fun _ _ h => h) (fun _ h => h.elim) ?aF ?aB ?aS ?aL ?_;(case aR => repeat (first|exact HR0.out|(with_reducible refine Kd.C_alloc ?_ _)|(with_reducible refine Kd.C_drewN ?_ _)|(with_reducible refine Kd.C_drew ?_)));(case aB => exact (zH HB));(case aF => exact (fun _ _ => trivial));(case aO => exact ((Kd.R_nil _ _ _ _ (fun _ => True))));(case aS => exact (zW HB));(case aL => have:=LMc2.out;omega);intro v173 w3 ho hb hg hat;rw [← Ny172.out] at ho;replace HB:=zA (hb);have HO174:=zA (ho);clear ho hb hg hat))
  go_ret
  exact ⟨_,by first|rfl|(simp [errW_none,errW_some] <;> rfl)|(simp [*,errW_none,errW_some] <;> rfl),by (with_reducible repeat (first|apply Kd.R_alloc|apply Kd.R_drewN|apply Kd.R_drew));exact HO174.out,zH HB⟩
 ·rw [if_neg c2] at H;exact absurd H (by simp)

end Go.Proofs.Ytpcgjdllgdkobaa.XP
