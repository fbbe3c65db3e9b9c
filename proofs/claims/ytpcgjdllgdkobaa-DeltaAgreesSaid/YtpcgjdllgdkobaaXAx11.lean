/- Go functions of this seat as Lean functions, with proofs that the calls come to them. (Written by xprint.py, a program of this session, over the kit's print.) -/
import Derived.Test.YtpcgjdllgdkobaaXAx0
import Derived.Test.YtpcgjdllgdkobaaXAx2
import Derived.Test.YtpcgjdllgdkobaaXAx7
import Derived.Test.YtpcgjdllgdkobaaXAx10
namespace Go.Proofs.Ytpcgjdllgdkobaa.XA
open Go.RowKit Go.Proofs.YtpcgjdllgdkobaaW.PrintWords Go.Proofs.YtpcgjdllgdkobaaW.PrintLast Go.Proofs.YtpcgjdllgdkobaaW.PrintMore
attribute [local go_sem] max2_int min2_int max_two min_two max_three min_three max_four min_four   -- for this text's walks alone
set_option linter.unusedVariables false
set_option linter.unusedSimpArgs false
open List renaming setIfInBounds_toArray → xA, set_cons_zero → xB, set_cons_succ → xC
open Go.Proofs.YtpcgjdllgdkobaaW.PrintWords renaming blk_drewN → bN, blk_drew → bD, blk_alloc → bA, below_set → bS, blk_frozen → bF, blk_cell → bC, cell_far → cF, blk_far → bZ, blk_below → bB, pw_below_drewN → bwN, below_drew1 → bw1, below_alloc → bwA
open Go.Proofs.YtpcgjdllgdkobaaW.PrintZ
open Bool renaming true → T,false → F

/-! ### delta_Diff: function 12 -/
def delta_Diff.f (k : Nat) (l0 : List (S61)) (l1 : List (S61)) : Option ((List (S61)) × Int) := (delta_list.f k l0).bind fun t157 => (if t157 = true then ((delta_list.f k l1).bind fun t158 => (if t158 = true then ((delta_diff.f l0 l1).bind fun t159 => (some (t159, 0))) else (some (([] : List (S61)), 1)))) else (some (([] : List (S61)), 1)))
theorem delta_Diff.mono : ∀ a0 a1 k, LeO (delta_Diff.f k a0 a1) (delta_Diff.f (k + 1) a0 a1) := by
 intro a0 a1 k
 unfold delta_Diff.f
 repeat' first
   | (with_reducible exact delta_list.mono _ _)
   | (with_reducible exact LeO.refl _)
   | (with_reducible exact LeO.none _)
   | (with_reducible refine LeO.ite ?_ ?_)
   | (with_reducible refine LeO.bind ?_ (fun _ => ?_))
   | exact delta_list.mono _ _
   | exact LeO.none _
   | refine LeO.ite ?_ ?_
   | refine LeO.bind ?_ (fun _ => ?_)
set_option maxHeartbeats 8000000 in
set_option maxRecDepth 100000 in
theorem delta_Diff.calls (k : Nat) (A0 : Option Addr) (c0 : Nat) (l0 : List (S61)) (A1 : Option Addr) (c1 : Nat) (l1 : List (S61)) (r1 : List (S61)) (r2 : Int) (w : World) (hr0 : Kd.C k61 w A0 l0.length l0) (hc0 : l0.length ≤ c0) (hr1 : Kd.C k61 w A1 l1.length l1) (hc1 : l1.length ≤ c1) (h : delta_Diff.f k l0 l1 = some (r1, r2)) :
  Calls Try.prog 12 #[.slice A0 l0.length c0,.slice A1 l1.length c1] w fun e w' => ∃ v0_ : Value,e = .returned (.tuple #[v0_,.int .i64 r2]) ∧ Kd.R k61 61 w' w.heap.size (fun _ => True) v0_ r1 ∧ Below w.heap.size w w':=by
 have HR0:=zA hr0;have HC0:=zA hc0;clear hr0 hc0;have HR1:=zA hr1;have HC1:=zA hc1;clear hr1 hc1;have HB:=zA (Below.refl w.heap.size w);have H : ((delta_list.f k l0).bind fun t157 => (if t157 = true then ((delta_list.f k l1).bind fun t158 => (if t158 = true then ((delta_diff.f l0 l1).bind fun t159 => (some (t159,0))) else (some (([] : List (S61)),1)))) else (some (([] : List (S61)),1)))) = some (r1,r2):=h;clear h;replace H:=Option.bind_eq_some_iff.mp H;obtain ⟨t157,A30,H⟩:=H;(try dsimp only at H);have A3:=zA A30;clear A30;by_cases c4 : t157 = true
 ·subst c4;rw [if_pos rfl] at H;replace H:=Option.bind_eq_some_iff.mp H;obtain ⟨t158,A50,H⟩:=H;(try dsimp only at H);have A5:=zA A50;clear A50;by_cases c6 : t158 = true
  ·subst c6;rw [if_pos rfl] at H;replace H:=Option.bind_eq_some_iff.mp H;obtain ⟨t159,A70,H⟩:=H;(try dsimp only at H);have A7:=zA A70;clear A70;simp only [Option.some.injEq,Prod.mk.injEq] at H;obtain ⟨rfl,rfl⟩:=H;go_enter Try.func12,Try.ntmps12
   go_wp2_with (first|((with_reducible refine gate_callee (f:=30) rfl ?_);refine zg (some 7) Try.func30 #[.slice A0 l0.length c0] ?_;(with_reducible refine (delta_list.calls k _ _ l0 true _ ?side1 ?side2 A3.out).mono ?_);(case side1 => exact zC HR0.out);(case side2 => exact HC0.out);rintro e w8 ⟨rfl,hb⟩;refine ⟨_,rfl,?_⟩;replace HB:=zS HB hb;(try clear hb))|(go_at_call 30;(with_reducible refine (delta_list.calls k _ _ l1 true _ ?side1 ?side2 A5.out).mono ?_);(case side1 => exact zC (Kd.C_below HR1.out HB.1));(case side2 => exact HC1.out);rintro e w9 ⟨rfl,hb⟩;replace HB:=zS HB hb;(try clear hb))|((with_reducible refine gate_callee (f:=31) rfl ?_);refine zg (some 16) Try.func31 #[.slice A0 l0.length c0,.slice A1 l1.length c1] ?_;(with_reducible refine (delta_diff.calls _ _ l0 _ _ l1 t159 _ ?side1 ?side2 ?side3 ?side4 A7.out).mono ?_);(case side1 => exact zC (Kd.C_below HR0.out HB.1));(case side2 => exact HC0.out);(case side3 => exact zC (Kd.C_below HR1.out HB.1));(case side4 => exact HC1.out);rintro e w10 ⟨v160,rfl,ho0,hb⟩;refine ⟨_,rfl,?_⟩;have HO161:=zA (Kd.R_lower ho0 (zW HB));replace HB:=zS HB hb;(try clear hb);(try clear ho0)))
   go_ret2
   exact ⟨_,by first|rfl|(simp [errW_none,errW_some] <;> rfl)|(simp [*,errW_none,errW_some] <;> rfl),by (with_reducible repeat (first|apply Kd.R_alloc|apply Kd.R_drewN|apply Kd.R_drew));exact HO161.out,zH HB⟩
  ·replace c6:=Bool.eq_false_iff.mpr c6;subst c6;rw [if_neg (show ¬ (false = true) by decide)] at H;simp only [Option.some.injEq,Prod.mk.injEq] at H;obtain ⟨rfl,rfl⟩:=H;go_enter Try.func12,Try.ntmps12
   go_wp2_with (first|((with_reducible refine gate_callee (f:=30) rfl ?_);refine zg (some 7) Try.func30 #[.slice A0 l0.length c0] ?_;(with_reducible refine (delta_list.calls k _ _ l0 true _ ?side1 ?side2 A3.out).mono ?_);(case side1 => exact zC HR0.out);(case side2 => exact HC0.out);rintro e w11 ⟨rfl,hb⟩;refine ⟨_,rfl,?_⟩;replace HB:=zS HB hb;(try clear hb))|(go_at_call 30;(with_reducible refine (delta_list.calls k _ _ l1 false _ ?side1 ?side2 A5.out).mono ?_);(case side1 => exact zC (Kd.C_below HR1.out HB.1));(case side2 => exact HC1.out);rintro e w12 ⟨rfl,hb⟩;replace HB:=zS HB hb;(try clear hb)))
   go_ret2
   exact ⟨_,by first|rfl|(simp [errW_none,errW_some] <;> rfl)|(simp [*,errW_none,errW_some] <;> rfl),by first|exact Kd.R_nil _ _ _ _ _|exact Kd.N_nil _ _ _ _ _|exact Kd.V_nil _ _ _ _ _|exact Kd.Q_nil _ _ _ _ _|exact Kd.S_nil _ _ _ _ _,zH HB⟩
 ·replace c4:=Bool.eq_false_iff.mpr c4;subst c4;rw [if_neg (show ¬ (false = true) by decide)] at H;simp only [Option.some.injEq,Prod.mk.injEq] at H;obtain ⟨rfl,rfl⟩:=H;go_enter Try.func12,Try.ntmps12
  go_wp2_with (first|((with_reducible refine gate_callee (f:=30) rfl ?_);refine zg (some 7) Try.func30 #[.slice A0 l0.length c0] ?_;(with_reducible refine (delta_list.calls k _ _ l0 false _ ?side1 ?side2 A3.out).mono ?_);(case side1 => exact zC HR0.out);(case side2 => exact HC0.out);rintro e w13 ⟨rfl,hb⟩;refine ⟨_,rfl,?_⟩;replace HB:=zS HB hb;(try clear hb)))
  go_ret2
  exact ⟨_,by first|rfl|(simp [errW_none,errW_some] <;> rfl)|(simp [*,errW_none,errW_some] <;> rfl),by first|exact Kd.R_nil _ _ _ _ _|exact Kd.N_nil _ _ _ _ _|exact Kd.V_nil _ _ _ _ _|exact Kd.Q_nil _ _ _ _ _|exact Kd.S_nil _ _ _ _ _,zH HB⟩

/-! ### beaconlaw14_awake: function 11 -/
def beaconlaw14_awake.f (k : Nat)  : Option (Bool) := (delta_Diff.f k (([(⟨1, 1, 4611686018427387904, 0, 0⟩ : S61)] : List (S61))) (([(⟨1, 1, 4613937818241073152, 0, 0⟩ : S61)] : List (S61)))).bind fun bt168 => (if bt168.2 = 0 then (if (bt168.1.length : Int) = 1 then (if 0 < (bt168.1.length : Int) then (if ((rd_T61 bt168.1 0).f0) = 1 then (some (feq ((rd_T61 bt168.1 0).f2) 4613937818241073152)) else (some false)) else (none)) else (some false)) else (some false))
theorem beaconlaw14_awake.mono : ∀ k, LeO (beaconlaw14_awake.f k ) (beaconlaw14_awake.f (k + 1) ) := by
 intro  k
 unfold beaconlaw14_awake.f
 repeat' first
   | (with_reducible exact delta_Diff.mono _ _ _)
   | (with_reducible exact LeO.refl _)
   | (with_reducible exact LeO.none _)
   | (with_reducible refine LeO.ite ?_ ?_)
   | (with_reducible refine LeO.bind ?_ (fun _ => ?_))
   | exact delta_Diff.mono _ _ _
   | exact LeO.none _
   | refine LeO.ite ?_ ?_
   | refine LeO.bind ?_ (fun _ => ?_)
set_option maxHeartbeats 8000000 in
set_option maxRecDepth 100000 in
theorem beaconlaw14_awake.calls (k : Nat)  (r : Bool) (w : World) (h : beaconlaw14_awake.f k  = some r) :
  Calls Try.prog 11 #[] w fun e w' => e = .returned (.bool r) ∧ Below w.heap.size w w':=by
 have hu61:=Try.underlying61;have HB:=zA (Below.refl w.heap.size w);have H : ((delta_Diff.f k (([(⟨1,1,4611686018427387904,0,0⟩ : S61)] : List (S61))) (([(⟨1,1,4613937818241073152,0,0⟩ : S61)] : List (S61)))).bind fun bt168 => (if bt168.2 = 0 then (if (bt168.1.length : Int) = 1 then (if 0 < (bt168.1.length : Int) then (if ((rd_T61 bt168.1 0).f0) = 1 then (some (feq ((rd_T61 bt168.1 0).f2) 4613937818241073152)) else (some false)) else (none)) else (some false)) else (some false))) = some r:=h;clear h;obtain ⟨y162,hy162⟩ : ∃ y_ : List (S61),y_ = (([(⟨1,1,4611686018427387904,0,0⟩ : S61)] : List (S61))):=⟨_,rfl⟩;replace H : ((delta_Diff.f k y162 (([(⟨1,1,4613937818241073152,0,0⟩ : S61)] : List (S61)))).bind fun bt168 => (if bt168.2 = 0 then (if (bt168.1.length : Int) = 1 then (if 0 < (bt168.1.length : Int) then (if ((rd_T61 bt168.1 0).f0) = 1 then (some (feq ((rd_T61 bt168.1 0).f2) 4613937818241073152)) else (some false)) else (none)) else (some false)) else (some false))) = some r:=by first|(rw [hy162];with_reducible exact H)|(have H2_:=(Option.bind_some _ _).symm.trans H;rw [hy162];with_reducible exact H2_)|(have H2_:=(Option.bind_some _ _).symm.trans H;with_reducible exact H2_)|with_reducible exact H|(rw [hy162];exact H)|exact H
 have Ny162:=zA hy162;clear hy162;obtain ⟨y165,hy165⟩ : ∃ y_ : List (S61),y_ = (([(⟨1,1,4613937818241073152,0,0⟩ : S61)] : List (S61))):=⟨_,rfl⟩;replace H : ((delta_Diff.f k y162 y165).bind fun bt168 => (if bt168.2 = 0 then (if (bt168.1.length : Int) = 1 then (if 0 < (bt168.1.length : Int) then (if ((rd_T61 bt168.1 0).f0) = 1 then (some (feq ((rd_T61 bt168.1 0).f2) 4613937818241073152)) else (some false)) else (none)) else (some false)) else (some false))) = some r:=by first|(rw [hy165];with_reducible exact H)|(have H2_:=(Option.bind_some _ _).symm.trans H;rw [hy165];with_reducible exact H2_)|(have H2_:=(Option.bind_some _ _).symm.trans H;with_reducible exact H2_)|with_reducible exact H|(rw [hy165];exact H)|exact H
 have Ny165:=zA hy165;clear hy165;replace H:=Option.bind_eq_some_iff.mp H;obtain ⟨⟨t168,t169⟩,A10,H⟩:=H;(try dsimp only at H);have A1:=zA A10;clear A10;by_cases c2 : t169 = 0
 ·rw [if_pos c2] at H;have c2b0 : (t169 == 0) = true:=beq_iff_eq.mpr c2;have c2b1 : (t169 != 0) = false:=bne_eq_false_iff_eq.mpr c2;clear c2;by_cases c3 : (t168.length : Int) = 1
  ·rw [if_pos c3] at H;have c3b0 : ((t168.length : Int) == 1) = true:=beq_iff_eq.mpr c3;have c3b1 : ((t168.length : Int) != 1) = false:=bne_eq_false_iff_eq.mpr c3;clear c3;by_cases c4 : 0 < (t168.length : Int)
   ·rw [if_pos c4] at H;have c4b0 : decide (0 < (t168.length : Int)) = true:=decide_eq_true c4;have c4b1 : decide (0 < t168.length) = true:=decide_eq_true (by omega);clear c4;by_cases c5 : ((rd_T61 t168 0).f0) = 1
    ·rw [if_pos c5] at H;have c5b0 : (((rd_T61 t168 0).f0) == 1) = true:=beq_iff_eq.mpr c5;have c5b1 : (((rd_T61 t168 0).f0) != 1) = false:=bne_eq_false_iff_eq.mpr c5;clear c5;obtain rfl:=Option.some.inj H;go_enter Try.func11,Try.ntmps11
     go_wp2_with (first|((with_reducible refine gate_dst (N:=5) rfl ?_);(try (refine gate_guard (by rfl) ?_;dsimp only));refine Kd.R_lit k61 _ 61 ?hg (N:=5) ?hd (xs:=([(⟨1,1,4611686018427387904,0,0⟩ : S61)] : List (S61))) (inner:=[.int .i64 1,.int .i64 1,.float .f64 4611686018427387904,.float .f64 0,.int .i64 0]) (ok:=fun _ => True) (okp:=fun _ => True) ?hr ?hp (fun _ hk => hk) trivial (Below.refl _ _) (Nat.le_refl _) (by simp) ?_;(case hd => rfl);(case hg => rfl);(case hr => first|(go_simp;done)|(go_simp;rfl));(case hp => exact (Reps.c5 (show Kd.M k61 _ _ _ (⟨1,1,4611686018427387904,0,0⟩ : S61) [.int .i64 1,.int .i64 1,.float .f64 4611686018427387904,.float .f64 0,.int .i64 0] from (k61_mkM _ _ _ (⟨1,1,4611686018427387904,0,0⟩ : S61) )) (Reps.none _ _)));intro v163 w6 ho7 hb hg_ hnew_;clear hg_ hnew_;(first|rw [← Ny162.out] at ho7|(simp only [Int.reduceToNat] at ho7;rw [← Ny162.out] at ho7));have HO164:=zA (Kd.R_lower ho7 (zW HB));replace HB:=zS HB hb;clear hb ho7)|((with_reducible refine gate_dst (N:=7) rfl ?_);(try (refine gate_guard (by rfl) ?_;dsimp only));refine Kd.R_lit k61 _ 61 ?hg (N:=7) ?hd (xs:=([(⟨1,1,4613937818241073152,0,0⟩ : S61)] : List (S61))) (inner:=[.int .i64 1,.int .i64 1,.float .f64 4613937818241073152,.float .f64 0,.int .i64 0]) (ok:=fun _ => True) (okp:=fun _ => True) ?hr ?hp (fun _ hk => hk) trivial (Below.refl _ _) (Nat.le_refl _) (by simp) ?_;(case hd => rfl);(case hg => rfl);(case hr => first|(go_simp;done)|(go_simp;rfl));(case hp => exact (Reps.c5 (show Kd.M k61 _ _ _ (⟨1,1,4613937818241073152,0,0⟩ : S61) [.int .i64 1,.int .i64 1,.float .f64 4613937818241073152,.float .f64 0,.int .i64 0] from (k61_mkM _ _ _ (⟨1,1,4613937818241073152,0,0⟩ : S61) )) (Reps.none _ _)));intro v166 w8 ho9 hb hg_ hnew_;clear hg_ hnew_;(first|rw [← Ny165.out] at ho9|(simp only [Int.reduceToNat] at ho9;rw [← Ny165.out] at ho9));have HO167:=zA (Kd.R_lower (Kd.R_new' ho9 (Kd.R_lt (zR HO164))) (zW HB));replace HO164:=zA (Kd.R_elder' (zR HO164) (Kd.R_base ho9) hb);replace HB:=zS HB hb;clear hb ho9;obtain ⟨Ao10,co10,eo10⟩:=Kd.R_slice HO164.out;subst eo10;obtain ⟨Ao11,co11,eo11⟩:=Kd.R_slice HO167.out;subst eo11)|((with_reducible refine gate_callee (f:=12) rfl ?_);refine zg (some 8) Try.func12 #[.slice Ao10 y162.length co10,.slice Ao11 y165.length co11] ?_;(with_reducible refine (delta_Diff.calls k _ _ y162 _ _ y165 t168 t169 _ ?side1 ?side2 ?side3 ?side4 A1.out).mono ?_);(case side1 => exact zC ((Kd.R_reads' HO164.out).2.2));(case side2 => exact (Kd.R_reads' HO164.out).2.1);(case side3 => exact zC ((Kd.R_reads' HO167.out).2.2));(case side4 => exact (Kd.R_reads' HO167.out).2.1);rintro e w12 ⟨v170,rfl,ho0,hb⟩;refine ⟨_,rfl,?_⟩;have HO171:=zA (Kd.R_lower (Kd.R_new' (Kd.R_new' ho0 (Kd.R_lt (zR HO164))) (Kd.R_lt (zR HO167))) (zW HB));replace HO164:=zA (Kd.R_elder' (zR HO164) (Kd.R_base ho0) hb);replace HO167:=zA (Kd.R_elder' (zR HO167) (Kd.R_base ho0) hb);replace HB:=zS HB hb;(try clear hb);(try clear ho0);obtain ⟨Ao13,co13,eo13⟩:=Kd.R_slice HO171.out;subst eo13;have p172 : 0 ≤ (0 : Int):=(by omega);have q172 : 0 < (t168.length : Int):=zd;obtain ⟨ad172,e172,hx172_0,hx172_1,hx172_2,hx172_3,hx172_4⟩:=at_T61 (Kd.R_reads' HO171.out).2.2 0 p172 q172;cases e172;have qi172 : (0 < t168.length) = True:=eq_true (by omega);(try rw [show ((0 : Int)).toNat = 0 from rfl] at hx172_0);(try rw [show 0 * 5 = 0 from rfl] at hx172_0);(try rw [Addr.add_zero'] at hx172_0);(try rw [show ((0 : Int)).toNat = 0 from rfl] at hx172_1);(try rw [show 0 * 5 = 0 from rfl] at hx172_1);(try rw [Addr.add_zero'] at hx172_1);(try rw [show ((0 : Int)).toNat = 0 from rfl] at hx172_2);(try rw [show 0 * 5 = 0 from rfl] at hx172_2);(try rw [Addr.add_zero'] at hx172_2);(try rw [show ((0 : Int)).toNat = 0 from rfl] at hx172_3);(try rw [show 0 * 5 = 0 from rfl] at hx172_3);(try rw [Addr.add_zero'] at hx172_3);(try rw [show ((0 : Int)).toNat = 0 from rfl] at hx172_4);(try rw [show 0 * 5 = 0 from rfl] at hx172_4);(try rw [Addr.add_zero'] at hx172_4);replace p172:=eq_true p172;replace q172:=eq_true q172;have p173 : 0 ≤ (0 : Int):=(by omega);have q173 : 0 < (t168.length : Int):=zd;obtain ⟨ad173,e173,hx173_0,hx173_1,hx173_2,hx173_3,hx173_4⟩:=at_T61 (Kd.R_reads' HO171.out).2.2 0 p173 q173;obtain rfl : ad172 = ad173:=(by injection e173);have qi173 : (0 < t168.length) = True:=eq_true (by omega);(try rw [show ((0 : Int)).toNat = 0 from rfl] at hx173_0);(try rw [show 0 * 5 = 0 from rfl] at hx173_0);(try rw [Addr.add_zero'] at hx173_0);(try rw [show ((0 : Int)).toNat = 0 from rfl] at hx173_1);(try rw [show 0 * 5 = 0 from rfl] at hx173_1);(try rw [Addr.add_zero'] at hx173_1);(try rw [show ((0 : Int)).toNat = 0 from rfl] at hx173_2);(try rw [show 0 * 5 = 0 from rfl] at hx173_2);(try rw [Addr.add_zero'] at hx173_2);(try rw [show ((0 : Int)).toNat = 0 from rfl] at hx173_3);(try rw [show 0 * 5 = 0 from rfl] at hx173_3);(try rw [Addr.add_zero'] at hx173_3);(try rw [show ((0 : Int)).toNat = 0 from rfl] at hx173_4);(try rw [show 0 * 5 = 0 from rfl] at hx173_4);(try rw [Addr.add_zero'] at hx173_4);replace p173:=eq_true p173;replace q173:=eq_true q173))
     go_ret
     exact ⟨zE,zH HB⟩
    ·rw [if_neg c5] at H;have c5b0 : (((rd_T61 t168 0).f0) == 1) = false:=beq_eq_false_iff_ne.mpr c5;have c5b1 : (((rd_T61 t168 0).f0) != 1) = true:=bne_iff_ne.mpr c5;obtain rfl:=Option.some.inj H;go_enter Try.func11,Try.ntmps11
     go_wp2_with (first|((with_reducible refine gate_dst (N:=5) rfl ?_);(try (refine gate_guard (by rfl) ?_;dsimp only));refine Kd.R_lit k61 _ 61 ?hg (N:=5) ?hd (xs:=([(⟨1,1,4611686018427387904,0,0⟩ : S61)] : List (S61))) (inner:=[.int .i64 1,.int .i64 1,.float .f64 4611686018427387904,.float .f64 0,.int .i64 0]) (ok:=fun _ => True) (okp:=fun _ => True) ?hr ?hp (fun _ hk => hk) trivial (Below.refl _ _) (Nat.le_refl _) (by simp) ?_;(case hd => rfl);(case hg => rfl);(case hr => first|(go_simp;done)|(go_simp;rfl));(case hp => exact (Reps.c5 (show Kd.M k61 _ _ _ (⟨1,1,4611686018427387904,0,0⟩ : S61) [.int .i64 1,.int .i64 1,.float .f64 4611686018427387904,.float .f64 0,.int .i64 0] from (k61_mkM _ _ _ (⟨1,1,4611686018427387904,0,0⟩ : S61) )) (Reps.none _ _)));intro v163 w14 ho15 hb hg_ hnew_;clear hg_ hnew_;(first|rw [← Ny162.out] at ho15|(simp only [Int.reduceToNat] at ho15;rw [← Ny162.out] at ho15));have HO164:=zA (Kd.R_lower ho15 (zW HB));replace HB:=zS HB hb;clear hb ho15)|((with_reducible refine gate_dst (N:=7) rfl ?_);(try (refine gate_guard (by rfl) ?_;dsimp only));refine Kd.R_lit k61 _ 61 ?hg (N:=7) ?hd (xs:=([(⟨1,1,4613937818241073152,0,0⟩ : S61)] : List (S61))) (inner:=[.int .i64 1,.int .i64 1,.float .f64 4613937818241073152,.float .f64 0,.int .i64 0]) (ok:=fun _ => True) (okp:=fun _ => True) ?hr ?hp (fun _ hk => hk) trivial (Below.refl _ _) (Nat.le_refl _) (by simp) ?_;(case hd => rfl);(case hg => rfl);(case hr => first|(go_simp;done)|(go_simp;rfl));(case hp => exact (Reps.c5 (show Kd.M k61 _ _ _ (⟨1,1,4613937818241073152,0,0⟩ : S61) [.int .i64 1,.int .i64 1,.float .f64 4613937818241073152,.float .f64 0,.int .i64 0] from (k61_mkM _ _ _ (⟨1,1,4613937818241073152,0,0⟩ : S61) )) (Reps.none _ _)));intro v166 w16 ho17 hb hg_ hnew_;clear hg_ hnew_;(first|rw [← Ny165.out] at ho17|(simp only [Int.reduceToNat] at ho17;rw [← Ny165.out] at ho17));have HO167:=zA (Kd.R_lower (Kd.R_new' ho17 (Kd.R_lt (zR HO164))) (zW HB));replace HO164:=zA (Kd.R_elder' (zR HO164) (Kd.R_base ho17) hb);replace HB:=zS HB hb;clear hb ho17;obtain ⟨Ao18,co18,eo18⟩:=Kd.R_slice HO164.out;subst eo18;obtain ⟨Ao19,co19,eo19⟩:=Kd.R_slice HO167.out;subst eo19)|((with_reducible refine gate_callee (f:=12) rfl ?_);refine zg (some 8) Try.func12 #[.slice Ao18 y162.length co18,.slice Ao19 y165.length co19] ?_;(with_reducible refine (delta_Diff.calls k _ _ y162 _ _ y165 t168 t169 _ ?side1 ?side2 ?side3 ?side4 A1.out).mono ?_);(case side1 => exact zC ((Kd.R_reads' HO164.out).2.2));(case side2 => exact (Kd.R_reads' HO164.out).2.1);(case side3 => exact zC ((Kd.R_reads' HO167.out).2.2));(case side4 => exact (Kd.R_reads' HO167.out).2.1);rintro e w20 ⟨v170,rfl,ho0,hb⟩;refine ⟨_,rfl,?_⟩;have HO171:=zA (Kd.R_lower (Kd.R_new' (Kd.R_new' ho0 (Kd.R_lt (zR HO164))) (Kd.R_lt (zR HO167))) (zW HB));replace HO164:=zA (Kd.R_elder' (zR HO164) (Kd.R_base ho0) hb);replace HO167:=zA (Kd.R_elder' (zR HO167) (Kd.R_base ho0) hb);replace HB:=zS HB hb;(try clear hb);(try clear ho0);obtain ⟨Ao21,co21,eo21⟩:=Kd.R_slice HO171.out;subst eo21;have p172 : 0 ≤ (0 : Int):=(by omega);have q172 : 0 < (t168.length : Int):=zd;obtain ⟨ad172,e172,hx172_0,hx172_1,hx172_2,hx172_3,hx172_4⟩:=at_T61 (Kd.R_reads' HO171.out).2.2 0 p172 q172;cases e172;have qi172 : (0 < t168.length) = True:=eq_true (by omega);(try rw [show ((0 : Int)).toNat = 0 from rfl] at hx172_0);(try rw [show 0 * 5 = 0 from rfl] at hx172_0);(try rw [Addr.add_zero'] at hx172_0);(try rw [show ((0 : Int)).toNat = 0 from rfl] at hx172_1);(try rw [show 0 * 5 = 0 from rfl] at hx172_1);(try rw [Addr.add_zero'] at hx172_1);(try rw [show ((0 : Int)).toNat = 0 from rfl] at hx172_2);(try rw [show 0 * 5 = 0 from rfl] at hx172_2);(try rw [Addr.add_zero'] at hx172_2);(try rw [show ((0 : Int)).toNat = 0 from rfl] at hx172_3);(try rw [show 0 * 5 = 0 from rfl] at hx172_3);(try rw [Addr.add_zero'] at hx172_3);(try rw [show ((0 : Int)).toNat = 0 from rfl] at hx172_4);(try rw [show 0 * 5 = 0 from rfl] at hx172_4);(try rw [Addr.add_zero'] at hx172_4);replace p172:=eq_true p172;replace q172:=eq_true q172))
     go_ret
     exact ⟨zE,zH HB⟩
   ·rw [if_neg c4] at H;exact absurd H (by simp)
  ·rw [if_neg c3] at H;have c3b0 : ((t168.length : Int) == 1) = false:=beq_eq_false_iff_ne.mpr c3;have c3b1 : ((t168.length : Int) != 1) = true:=bne_iff_ne.mpr c3;obtain rfl:=Option.some.inj H;go_enter Try.func11,Try.ntmps11
   go_wp2_with (first|((with_reducible refine gate_dst (N:=5) rfl ?_);(try (refine gate_guard (by rfl) ?_;dsimp only));refine Kd.R_lit k61 _ 61 ?hg (N:=5) ?hd (xs:=([(⟨1,1,4611686018427387904,0,0⟩ : S61)] : List (S61))) (inner:=[.int .i64 1,.int .i64 1,.float .f64 4611686018427387904,.float .f64 0,.int .i64 0]) (ok:=fun _ => True) (okp:=fun _ => True) ?hr ?hp (fun _ hk => hk) trivial (Below.refl _ _) (Nat.le_refl _) (by simp) ?_;(case hd => rfl);(case hg => rfl);(case hr => first|(go_simp;done)|(go_simp;rfl));(case hp => exact (Reps.c5 (show Kd.M k61 _ _ _ (⟨1,1,4611686018427387904,0,0⟩ : S61) [.int .i64 1,.int .i64 1,.float .f64 4611686018427387904,.float .f64 0,.int .i64 0] from (k61_mkM _ _ _ (⟨1,1,4611686018427387904,0,0⟩ : S61) )) (Reps.none _ _)));intro v163 w22 ho23 hb hg_ hnew_;clear hg_ hnew_;(first|rw [← Ny162.out] at ho23|(simp only [Int.reduceToNat] at ho23;rw [← Ny162.out] at ho23));have HO164:=zA (Kd.R_lower ho23 (zW HB));replace HB:=zS HB hb;clear hb ho23)|((with_reducible refine gate_dst (N:=7) rfl ?_);(try (refine gate_guard (by rfl) ?_;dsimp only));refine Kd.R_lit k61 _ 61 ?hg (N:=7) ?hd (xs:=([(⟨1,1,4613937818241073152,0,0⟩ : S61)] : List (S61))) (inner:=[.int .i64 1,.int .i64 1,.float .f64 4613937818241073152,.float .f64 0,.int .i64 0]) (ok:=fun _ => True) (okp:=fun _ => True) ?hr ?hp (fun _ hk => hk) trivial (Below.refl _ _) (Nat.le_refl _) (by simp) ?_;(case hd => rfl);(case hg => rfl);(case hr => first|(go_simp;done)|(go_simp;rfl));(case hp => exact (Reps.c5 (show Kd.M k61 _ _ _ (⟨1,1,4613937818241073152,0,0⟩ : S61) [.int .i64 1,.int .i64 1,.float .f64 4613937818241073152,.float .f64 0,.int .i64 0] from (k61_mkM _ _ _ (⟨1,1,4613937818241073152,0,0⟩ : S61) )) (Reps.none _ _)));intro v166 w24 ho25 hb hg_ hnew_;clear hg_ hnew_;(first|rw [← Ny165.out] at ho25|(simp only [Int.reduceToNat] at ho25;rw [← Ny165.out] at ho25));have HO167:=zA (Kd.R_lower (Kd.R_new' ho25 (Kd.R_lt (zR HO164))) (zW HB));replace HO164:=zA (Kd.R_elder' (zR HO164) (Kd.R_base ho25) hb);replace HB:=zS HB hb;clear hb ho25;obtain ⟨Ao26,co26,eo26⟩:=Kd.R_slice HO164.out;subst eo26;obtain ⟨Ao27,co27,eo27⟩:=Kd.R_slice HO167.out;subst eo27)|((with_reducible refine gate_callee (f:=12) rfl ?_);refine zg (some 8) Try.func12 #[.slice Ao26 y162.length co26,.slice Ao27 y165.length co27] ?_;(with_reducible refine (delta_Diff.calls k _ _ y162 _ _ y165 t168 t169 _ ?side1 ?side2 ?side3 ?side4 A1.out).mono ?_);(case side1 => exact zC ((Kd.R_reads' HO164.out).2.2));(case side2 => exact (Kd.R_reads' HO164.out).2.1);(case side3 => exact zC ((Kd.R_reads' HO167.out).2.2));(case side4 => exact (Kd.R_reads' HO167.out).2.1);rintro e w28 ⟨v170,rfl,ho0,hb⟩;refine ⟨_,rfl,?_⟩;have HO171:=zA (Kd.R_lower (Kd.R_new' (Kd.R_new' ho0 (Kd.R_lt (zR HO164))) (Kd.R_lt (zR HO167))) (zW HB));replace HO164:=zA (Kd.R_elder' (zR HO164) (Kd.R_base ho0) hb);replace HO167:=zA (Kd.R_elder' (zR HO167) (Kd.R_base ho0) hb);replace HB:=zS HB hb;(try clear hb);(try clear ho0);obtain ⟨Ao29,co29,eo29⟩:=Kd.R_slice HO171.out;subst eo29))
   go_ret
   exact ⟨zE,zH HB⟩
 ·rw [if_neg c2] at H;have c2b0 : (t169 == 0) = false:=beq_eq_false_iff_ne.mpr c2;have c2b1 : (t169 != 0) = true:=bne_iff_ne.mpr c2;obtain rfl:=Option.some.inj H;go_enter Try.func11,Try.ntmps11
  go_wp2_with (first|((with_reducible refine gate_dst (N:=5) rfl ?_);(try (refine gate_guard (by rfl) ?_;dsimp only));refine Kd.R_lit k61 _ 61 ?hg (N:=5) ?hd (xs:=([(⟨1,1,4611686018427387904,0,0⟩ : S61)] : List (S61))) (inner:=[.int .i64 1,.int .i64 1,.float .f64 4611686018427387904,.float .f64 0,.int .i64 0]) (ok:=fun _ => True) (okp:=fun _ => True) ?hr ?hp (fun _ hk => hk) trivial (Below.refl _ _) (Nat.le_refl _) (by simp) ?_;(case hd => rfl);(case hg => rfl);(case hr => first|(go_simp;done)|(go_simp;rfl));(case hp => exact (Reps.c5 (show Kd.M k61 _ _ _ (⟨1,1,4611686018427387904,0,0⟩ : S61) [.int .i64 1,.int .i64 1,.float .f64 4611686018427387904,.float .f64 0,.int .i64 0] from (k61_mkM _ _ _ (⟨1,1,4611686018427387904,0,0⟩ : S61) )) (Reps.none _ _)));intro v163 w30 ho31 hb hg_ hnew_;clear hg_ hnew_;(first|rw [← Ny162.out] at ho31|(simp only [Int.reduceToNat] at ho31;rw [← Ny162.out] at ho31));have HO164:=zA (Kd.R_lower ho31 (zW HB));replace HB:=zS HB hb;clear hb ho31)|((with_reducible refine gate_dst (N:=7) rfl ?_);(try (refine gate_guard (by rfl) ?_;dsimp only));refine Kd.R_lit k61 _ 61 ?hg (N:=7) ?hd (xs:=([(⟨1,1,4613937818241073152,0,0⟩ : S61)] : List (S61))) (inner:=[.int .i64 1,.int .i64 1,.float .f64 4613937818241073152,.float .f64 0,.int .i64 0]) (ok:=fun _ => True) (okp:=fun _ => True) ?hr ?hp (fun _ hk => hk) trivial (Below.refl _ _) (Nat.le_refl _) (by simp) ?_;(case hd => rfl);(case hg => rfl);(case hr => first|(go_simp;done)|(go_simp;rfl));(case hp => exact (Reps.c5 (show Kd.M k61 _ _ _ (⟨1,1,4613937818241073152,0,0⟩ : S61) [.int .i64 1,.int .i64 1,.float .f64 4613937818241073152,.float .f64 0,.int .i64 0] from (k61_mkM _ _ _ (⟨1,1,4613937818241073152,0,0⟩ : S61) )) (Reps.none _ _)));intro v166 w32 ho33 hb hg_ hnew_;clear hg_ hnew_;(first|rw [← Ny165.out] at ho33|(simp only [Int.reduceToNat] at ho33;rw [← Ny165.out] at ho33));have HO167:=zA (Kd.R_lower (Kd.R_new' ho33 (Kd.R_lt (zR HO164))) (zW HB));replace HO164:=zA (Kd.R_elder' (zR HO164) (Kd.R_base ho33) hb);replace HB:=zS HB hb;clear hb ho33;obtain ⟨Ao34,co34,eo34⟩:=Kd.R_slice HO164.out;subst eo34;obtain ⟨Ao35,co35,eo35⟩:=Kd.R_slice HO167.out;subst eo35)|((with_reducible refine gate_callee (f:=12) rfl ?_);refine zg (some 8) Try.func12 #[.slice Ao34 y162.length co34,.slice Ao35 y165.length co35] ?_;(with_reducible refine (delta_Diff.calls k _ _ y162 _ _ y165 t168 t169 _ ?side1 ?side2 ?side3 ?side4 A1.out).mono ?_);(case side1 => exact zC ((Kd.R_reads' HO164.out).2.2));(case side2 => exact (Kd.R_reads' HO164.out).2.1);(case side3 => exact zC ((Kd.R_reads' HO167.out).2.2));(case side4 => exact (Kd.R_reads' HO167.out).2.1);rintro e w36 ⟨v170,rfl,ho0,hb⟩;refine ⟨_,rfl,?_⟩;have HO171:=zA (Kd.R_lower (Kd.R_new' (Kd.R_new' ho0 (Kd.R_lt (zR HO164))) (Kd.R_lt (zR HO167))) (zW HB));replace HO164:=zA (Kd.R_elder' (zR HO164) (Kd.R_base ho0) hb);replace HO167:=zA (Kd.R_elder' (zR HO167) (Kd.R_base ho0) hb);replace HB:=zS HB hb;(try clear hb);(try clear ho0)))
  go_ret
  exact ⟨zE,zH HB⟩

/-! ### beaconlaw14_own: function 13 -/
def beaconlaw14_own.f (l0 : List (S61)) : Option ((List (S61))) := if ([] : List (S61)).length + l0.length < 3518437208883 then (some (([] : List (S61)) ++ l0)) else (none)
set_option maxHeartbeats 8000000 in
set_option maxRecDepth 100000 in
theorem beaconlaw14_own.calls (A0 : Option Addr) (c0 : Nat) (l0 : List (S61)) (r : List (S61)) (w : World) (hr0 : Kd.C k61 w A0 l0.length l0) (hc0 : l0.length ≤ c0) (h : beaconlaw14_own.f l0 = some r) :
  Calls Try.prog 13 #[.slice A0 l0.length c0] w fun e w' => ∃ v0_ : Value,e = .returned (v0_) ∧ Kd.R k61 61 w' w.heap.size (fun _ => True) v0_ r ∧ Below w.heap.size w w':=by
 have HR0:=zA hr0;have HC0:=zA hc0;clear hr0 hc0;have HB:=zA (Below.refl w.heap.size w);have H : (if ([] : List (S61)).length + l0.length < 3518437208883 then (some (([] : List (S61)) ++ l0)) else (none)) = some r:=h;clear h;by_cases c2 : ([] : List (S61)).length + l0.length < 3518437208883
 ·rw [if_pos c2] at H;have LMc2:=zA c2;clear c2;obtain ⟨y174,hy174⟩ : ∃ y_ : List (S61),y_ = (([] : List (S61)) ++ l0):=⟨_,rfl⟩;replace H : (some y174) = some r:=by first|(rw [hy174];with_reducible exact H)|(have H2_:=(Option.bind_some _ _).symm.trans H;rw [hy174];with_reducible exact H2_)|(have H2_:=(Option.bind_some _ _).symm.trans H;with_reducible exact H2_)|with_reducible exact H|(rw [hy174];exact H)|exact H
  have Ny174:=zA hy174;clear hy174;obtain rfl:=Option.some.inj H;go_enter Try.func13,Try.ntmps13
  go_wp2_with (first|((with_reducible refine gate_builtin (b:=.append) (xs:=#[.tmp 4,.tmp 5]) rfl ?_);at_builtin;refine Kd.R_append_rows k61 (w0:=w) w.heap.size rfl (.tmp 4) (.tmp 5) 30 61 (.agg #[(.int .i64 0),(.int .i64 0),(.float .f64 0),(.float .f64 0),(.int .i64 0)]) 40 rfl Try.underlying30 info61 rfl (by decide) (by omega) (.slice none 0 0) ([] : List (S61)) l0 _ _ _ (fun _ => True) (fun _ => False) rfl rfl ?aO ?aR (fun _ _ h => h) (fun _ h => h.elim) ?aF ?aB ?aS ?aL ?_;(case aR => repeat (first|exact HR0.out|(with_reducible refine Kd.C_alloc ?_ _)|(with_reducible refine Kd.C_drewN ?_ _)|(with_reducible refine Kd.C_drew ?_)));(case aB => exact (zH HB));(case aF => exact (fun _ _ => trivial));(case aO => exact ((Kd.R_nil _ _ _ _ (fun _ => True))));(case aS => exact (zW HB));(case aL => have:=LMc2.out;omega);intro v175 w3 ho hb hg hat;rw [← Ny174.out] at ho;replace HB:=zA (hb);have HO176:=zA (ho);clear ho hb hg hat))
  go_ret
  exact ⟨_,by first|rfl|(simp [errW_none,errW_some] <;> rfl)|(simp [*,errW_none,errW_some] <;> rfl),by (with_reducible repeat (first|apply Kd.R_alloc|apply Kd.R_drewN|apply Kd.R_drew));exact HO176.out,zH HB⟩
 ·rw [if_neg c2] at H;exact absurd H (by simp)

/-! ### beaconref02_CheckId: function 64 -/
def beaconref02_CheckId.f (a0 : Int) : Option (Int) := if a0 < 1 then (some 20) else (if a0 > 2147483647 then (some 20) else (some 0))
set_option maxHeartbeats 8000000 in
set_option maxRecDepth 100000 in
theorem beaconref02_CheckId.calls (a0 : Int) (r : Int) (w : World) (h : beaconref02_CheckId.f a0 = some r) :
  Calls Try.prog 64 #[.int .i64 a0] w fun e w' => e = .returned (.int .i64 r) ∧ Drawn0 w w':=by
 have H : (if a0 < 1 then (some 20) else (if a0 > 2147483647 then (some 20) else (some 0))) = some r:=h;clear h;by_cases c2 : a0 < 1
 ·rw [if_pos c2] at H;have c2b0 : decide (a0 < 1) = true:=decide_eq_true c2;clear c2;obtain rfl:=Option.some.inj H;go_enter Try.func64,Try.ntmps64
  go_wp2
  go_ret
  exact ⟨by first|rfl|(simp;done)|(simp [*];done),by repeat (first|exact Drawn0.refl _|apply Drawn0.step)⟩
 ·rw [if_neg c2] at H;have c2b0 : decide (a0 < 1) = false:=decide_eq_false c2;clear c2;by_cases c3 : a0 > 2147483647
  ·rw [if_pos c3] at H;have c3b0 : decide (2147483647 < a0) = true:=decide_eq_true c3;clear c3;obtain rfl:=Option.some.inj H;go_enter Try.func64,Try.ntmps64
   go_wp2
   go_ret
   exact ⟨by first|rfl|(simp;done)|(simp [*];done),by repeat (first|exact Drawn0.refl _|apply Drawn0.step)⟩
  ·rw [if_neg c3] at H;have c3b0 : decide (2147483647 < a0) = false:=decide_eq_false c3;clear c3;obtain rfl:=Option.some.inj H;go_enter Try.func64,Try.ntmps64
   go_wp2
   go_ret
   exact ⟨by first|rfl|(simp;done)|(simp [*];done),by repeat (first|exact Drawn0.refl _|apply Drawn0.step)⟩

/-! ### beaconref06_number: function 58 -/
def beaconref06_number.f (a0 : Int) : Option (Bool) := (beaconref02_CheckId.f a0).bind fun t177 => (some (t177 == 0))
set_option maxHeartbeats 8000000 in
set_option maxRecDepth 100000 in
theorem beaconref06_number.calls (a0 : Int) (r : Bool) (w : World) (h : beaconref06_number.f a0 = some r) :
  Calls Try.prog 58 #[.int .i64 a0] w fun e w' => e = .returned (.bool r) ∧ Drawn0 w w':=by
 have H : ((beaconref02_CheckId.f a0).bind fun t177 => (some (t177 == 0))) = some r:=h;clear h;replace H:=Option.bind_eq_some_iff.mp H;obtain ⟨t177,A20,H⟩:=H;(try dsimp only at H);have A2:=zA A20;clear A20;obtain rfl:=Option.some.inj H;go_enter Try.func58,Try.ntmps58
 go_wp2_with (first|((with_reducible refine gate_callee (f:=64) rfl ?_);refine zg (some 4) Try.func64 #[.int .i64 a0] ?_;(with_reducible refine (beaconref02_CheckId.calls a0 t177 _ A2.out).mono ?_);rintro e w' ⟨rfl,⟨nd,rfl⟩⟩;refine ⟨_,rfl,?_⟩))
 go_ret
 exact ⟨by first|rfl|(simp;done)|(simp [*];done),by repeat (first|exact Drawn0.refl _|apply Drawn0.step)⟩

/-! ### beaconref06_Far: function 59 -/
def beaconref06_Far.f (a0 : Nat) : Option (Bool) := (math_IsInf.f a0 1).bind fun t178 => (if t178 = true then (some true) else (if (fbits a0) = 0 then (some true) else (if (flt 0 a0) = true then (if (flt a0 4742290407621132288) = true then (if (fmulOk a0 4616189618054758400) = true then ((math_Trunc.f (fmul a0 4616189618054758400)).bind fun t179 => (some (feq (fmul a0 4616189618054758400) t179))) else (none)) else (some false)) else (some false))))
set_option maxHeartbeats 8000000 in
set_option maxRecDepth 100000 in
theorem beaconref06_Far.calls (a0 : Nat) (r : Bool) (w : World) (h : beaconref06_Far.f a0 = some r) :
  Calls Try.prog 59 #[.float .f64 a0] w fun e w' => e = .returned (.bool r) ∧ Drawn0 w w':=by
 have H : ((math_IsInf.f a0 1).bind fun t178 => (if t178 = true then (some true) else (if (fbits a0) = 0 then (some true) else (if (flt 0 a0) = true then (if (flt a0 4742290407621132288) = true then (if (fmulOk a0 4616189618054758400) = true then ((math_Trunc.f (fmul a0 4616189618054758400)).bind fun t179 => (some (feq (fmul a0 4616189618054758400) t179))) else (none)) else (some false)) else (some false))))) = some r:=h;clear h;replace H:=Option.bind_eq_some_iff.mp H;obtain ⟨t178,A20,H⟩:=H;(try dsimp only at H);have A2:=zA A20;clear A20;by_cases c3 : t178 = true
 ·subst c3;rw [if_pos rfl] at H;obtain rfl:=Option.some.inj H;go_enter Try.func59,Try.ntmps59
  go_wp2_with (first|((with_reducible refine gate_callee (f:=38) rfl ?_);refine zg (some 4) Try.func38 #[.float .f64 a0,.int .i64 1] ?_;(with_reducible refine (math_IsInf.calls a0 1 true _ A2.out).mono ?_);rintro e w' ⟨rfl,⟨nd,rfl⟩⟩;refine ⟨_,rfl,?_⟩))
  go_ret
  exact ⟨by first|rfl|(simp;done)|(simp [*];done),by repeat (first|exact Drawn0.refl _|apply Drawn0.step)⟩
 ·replace c3:=Bool.eq_false_iff.mpr c3;subst c3;rw [if_neg (show ¬ (false = true) by decide)] at H;by_cases c4 : (fbits a0) = 0
  ·rw [if_pos c4] at H;have c4b0 : ((fbits a0) == 0) = true:=beq_iff_eq.mpr c4;have c4b1 : ((fbits a0) != 0) = false:=bne_eq_false_iff_eq.mpr c4;clear c4;obtain rfl:=Option.some.inj H;go_enter Try.func59,Try.ntmps59
   go_wp2_with (first|((with_reducible refine gate_callee (f:=38) rfl ?_);refine zg (some 4) Try.func38 #[.float .f64 a0,.int .i64 1] ?_;(with_reducible refine (math_IsInf.calls a0 1 false _ A2.out).mono ?_);rintro e w' ⟨rfl,⟨nd,rfl⟩⟩;refine ⟨_,rfl,?_⟩))
   go_ret
   exact ⟨by first|rfl|(simp;done)|(simp [*];done),by repeat (first|exact Drawn0.refl _|apply Drawn0.step)⟩
  ·rw [if_neg c4] at H;have c4b0 : ((fbits a0) == 0) = false:=beq_eq_false_iff_ne.mpr c4;have c4b1 : ((fbits a0) != 0) = true:=bne_iff_ne.mpr c4;by_cases c5 : (flt 0 a0) = true
   ·rw [if_pos c5] at H;have c5b0 : (flt 0 a0) = true:=c5;clear c5;by_cases c6 : (flt a0 4742290407621132288) = true
    ·rw [if_pos c6] at H;have c6b0 : (flt a0 4742290407621132288) = true:=c6;clear c6;by_cases c7 : (fmulOk a0 4616189618054758400) = true
     ·rw [if_pos c7] at H;have c7b0:=eq_true c7;have c7b1 : decide ((fmulOk a0 4616189618054758400) = true) = true:=decide_eq_true c7;clear c7;replace H:=Option.bind_eq_some_iff.mp H;obtain ⟨t179,A80,H⟩:=H;(try dsimp only at H);have A8:=zA A80;clear A80;obtain rfl:=Option.some.inj H;go_enter Try.func59,Try.ntmps59
      go_wp2_with (first|((with_reducible refine gate_callee (f:=38) rfl ?_);refine zg (some 4) Try.func38 #[.float .f64 a0,.int .i64 1] ?_;(with_reducible refine (math_IsInf.calls a0 1 false _ A2.out).mono ?_);rintro e w' ⟨rfl,⟨nd,rfl⟩⟩;refine ⟨_,rfl,?_⟩)|(go_at_call 65;(with_reducible refine (math_Trunc.calls (fmul a0 4616189618054758400) t179 _ A8.out).mono ?_);rintro e w' ⟨rfl,⟨nd,rfl⟩⟩))
      go_ret
      exact ⟨by first|rfl|(simp;done)|(simp [*];done),by repeat (first|exact Drawn0.refl _|apply Drawn0.step)⟩
     ·rw [if_neg c7] at H;exact absurd H (by simp)
    ·rw [if_neg c6] at H;have c6b0 : (flt a0 4742290407621132288) = false:=by simpa using c6
     clear c6;obtain rfl:=Option.some.inj H;go_enter Try.func59,Try.ntmps59
     go_wp2_with (first|((with_reducible refine gate_callee (f:=38) rfl ?_);refine zg (some 4) Try.func38 #[.float .f64 a0,.int .i64 1] ?_;(with_reducible refine (math_IsInf.calls a0 1 false _ A2.out).mono ?_);rintro e w' ⟨rfl,⟨nd,rfl⟩⟩;refine ⟨_,rfl,?_⟩))
     go_ret
     exact ⟨by first|rfl|(simp;done)|(simp [*];done),by repeat (first|exact Drawn0.refl _|apply Drawn0.step)⟩
   ·rw [if_neg c5] at H;have c5b0 : (flt 0 a0) = false:=by simpa using c5
    clear c5;obtain rfl:=Option.some.inj H;go_enter Try.func59,Try.ntmps59
    go_wp2_with (first|((with_reducible refine gate_callee (f:=38) rfl ?_);refine zg (some 4) Try.func38 #[.float .f64 a0,.int .i64 1] ?_;(with_reducible refine (math_IsInf.calls a0 1 false _ A2.out).mono ?_);rintro e w' ⟨rfl,⟨nd,rfl⟩⟩;refine ⟨_,rfl,?_⟩))
    go_ret
    exact ⟨by first|rfl|(simp;done)|(simp [*];done),by repeat (first|exact Drawn0.refl _|apply Drawn0.step)⟩

/-! ### beaconref06_zero: function 60 -/
def beaconref06_zero.f (a0 : Nat) : Option (Bool) := some ((fbits a0) == 0)
set_option maxHeartbeats 8000000 in
set_option maxRecDepth 100000 in
theorem beaconref06_zero.calls (a0 : Nat) (r : Bool) (w : World) (h : beaconref06_zero.f a0 = some r) :
  Calls Try.prog 60 #[.float .f64 a0] w fun e w' => e = .returned (.bool r) ∧ Drawn0 w w':=by
 have H : (some ((fbits a0) == 0)) = some r:=h;clear h;obtain rfl:=Option.some.inj H;go_enter Try.func60,Try.ntmps60
 go_wp2
 go_ret
 exact ⟨by first|rfl|(simp;done)|(simp [*];done),by repeat (first|exact Drawn0.refl _|apply Drawn0.step)⟩

/-! ### beaconref06_May: function 49 -/
mutual
def beaconref06_May.j0 : Nat → Bool → Int → Int → Nat → Nat → Int → Option (Bool)
 | 0, _, _, _, _, _, _ => none
 | k + 1, x22, x181000, x181001, x181002, x181003, x181004 => if x22 = true then (some false) else (if x181001 = 1 then (beaconref06_May.j1 k true x181000 x181001 x181002 x181003 x181004) else ((math_IsInf.f x181002 1).bind fun t184 => (beaconref06_May.j1 k t184 x181000 x181001 x181002 x181003 x181004)))
def beaconref06_May.j1 : Nat → Bool → Int → Int → Nat → Nat → Int → Option (Bool)
 | 0, _, _, _, _, _, _ => none
 | k + 1, x30, x181000, x181001, x181002, x181003, x181004 => if x30 = true then ((beaconref06_zero.f x181003).bind fun t185 => (if t185 = true then (some (x181004 == 0)) else (some false))) else ((math_IsInf.f x181003 1).bind fun t186 => (if t186 = true then (some (x181004 == 0)) else ((beaconref06_Far.f x181003).bind fun t187 => (if t187 = true then ((beaconref06_number.f x181004).bind fun t188 => (some t188)) else (some false)))))
end
def beaconref06_May.f (k : Nat) (a0_0 : Int) (a0_1 : Int) (a0_2 : Nat) (a0_3 : Nat) (a0_4 : Int) : Option (Bool) := (beaconref06_number.f a0_0).bind fun t181 => (if t181 = true then (if a0_1 = 1 then ((beaconref06_Far.f a0_2).bind fun t182 => (beaconref06_May.j0 k (!t182) a0_0 a0_1 a0_2 a0_3 a0_4)) else (if a0_1 = 2 then ((beaconref06_Far.f a0_2).bind fun t183 => (beaconref06_May.j0 k (!t183) a0_0 a0_1 a0_2 a0_3 a0_4)) else (beaconref06_May.j0 k true a0_0 a0_1 a0_2 a0_3 a0_4))) else (beaconref06_May.j0 k true a0_0 a0_1 a0_2 a0_3 a0_4))
theorem beaconref06_May.mono_l : ∀ k, (∀ y0 y1 y2 y3 y4 y5, LeO (beaconref06_May.j0 k y0 y1 y2 y3 y4 y5) (beaconref06_May.j0 (k + 1) y0 y1 y2 y3 y4 y5)) ∧ (∀ y0 y1 y2 y3 y4 y5, LeO (beaconref06_May.j1 k y0 y1 y2 y3 y4 y5) (beaconref06_May.j1 (k + 1) y0 y1 y2 y3 y4 y5))
 | 0 => ⟨fun _ _ _ _ _ _ r h => by simp [beaconref06_May.j0] at h, fun _ _ _ _ _ _ r h => by simp [beaconref06_May.j1] at h⟩
 | k + 1 => by
  obtain ⟨ih0,ih1⟩:=beaconref06_May.mono_l k
  refine ⟨?_,?_⟩
  ·intro y0 y1 y2 y3 y4 y5
   unfold beaconref06_May.j0
   repeat' first
   | (with_reducible exact ih0 _ _ _ _ _ _)
   | (with_reducible exact ih1 _ _ _ _ _ _)
   | (with_reducible exact LeO.refl _)
   | (with_reducible exact LeO.none _)
   | (with_reducible refine LeO.ite ?_ ?_)
   | (with_reducible refine LeO.bind ?_ (fun _ => ?_))
   | exact ih0 _ _ _ _ _ _
   | exact ih1 _ _ _ _ _ _
   | exact LeO.none _
   | refine LeO.ite ?_ ?_
   | refine LeO.bind ?_ (fun _ => ?_)
  ·intro y0 y1 y2 y3 y4 y5
   unfold beaconref06_May.j1
   repeat' first
   | (with_reducible exact ih0 _ _ _ _ _ _)
   | (with_reducible exact ih1 _ _ _ _ _ _)
   | (with_reducible exact LeO.refl _)
   | (with_reducible exact LeO.none _)
   | (with_reducible refine LeO.ite ?_ ?_)
   | (with_reducible refine LeO.bind ?_ (fun _ => ?_))
   | exact ih0 _ _ _ _ _ _
   | exact ih1 _ _ _ _ _ _
   | exact LeO.none _
   | refine LeO.ite ?_ ?_
   | refine LeO.bind ?_ (fun _ => ?_)
theorem beaconref06_May.mono : ∀ a0 a1 a2 a3 a4 k, LeO (beaconref06_May.f k a0 a1 a2 a3 a4) (beaconref06_May.f (k + 1) a0 a1 a2 a3 a4) := by
 intro a0 a1 a2 a3 a4 k
 obtain ⟨ih0,ih1⟩:=beaconref06_May.mono_l k
 unfold beaconref06_May.f
 repeat' first
   | (with_reducible exact ih0 _ _ _ _ _ _)
   | (with_reducible exact ih1 _ _ _ _ _ _)
   | (with_reducible exact LeO.refl _)
   | (with_reducible exact LeO.none _)
   | (with_reducible refine LeO.ite ?_ ?_)
   | (with_reducible refine LeO.bind ?_ (fun _ => ?_))
   | exact ih0 _ _ _ _ _ _
   | exact ih1 _ _ _ _ _ _
   | exact LeO.none _
   | refine LeO.ite ?_ ?_
   | refine LeO.bind ?_ (fun _ => ?_)
set_option maxHeartbeats 8000000 in
set_option maxRecDepth 100000 in
theorem beaconref06_May.calls (k : Nat) (a0_0 : Int) (a0_1 : Int) (a0_2 : Nat) (a0_3 : Nat) (a0_4 : Int) (r : Bool) (w : World) (h : beaconref06_May.f k a0_0 a0_1 a0_2 a0_3 a0_4 = some r) :
  Calls Try.prog 49 #[.agg #[.int .i64 a0_0,.int .i64 a0_1,.float .f64 a0_2,.float .f64 a0_3,.int .i64 a0_4]] w fun e w' => e = .returned (.bool r) ∧ Below w.heap.size w w':=by
 have hu61:=Try.underlying61;have HB:=zA (Below.refl w.heap.size w);have H : ((beaconref06_number.f a0_0).bind fun t181 => (if t181 = true then (if a0_1 = 1 then ((beaconref06_Far.f a0_2).bind fun t182 => (beaconref06_May.j0 k (!t182) a0_0 a0_1 a0_2 a0_3 a0_4)) else (if a0_1 = 2 then ((beaconref06_Far.f a0_2).bind fun t183 => (beaconref06_May.j0 k (!t183) a0_0 a0_1 a0_2 a0_3 a0_4)) else (beaconref06_May.j0 k true a0_0 a0_1 a0_2 a0_3 a0_4))) else (beaconref06_May.j0 k true a0_0 a0_1 a0_2 a0_3 a0_4))) = some r:=h;clear h;have HC2:=zA H;clear H;go_enter Try.func49,Try.ntmps49
 go_upto_region 1 with (first|((with_reducible refine gate_dst (N:=1) rfl ?_);refine zb (N:=1) (cs:=#[.int .i64 a0_0,.int .i64 a0_1,.float .f64 a0_2,.float .f64 a0_3,.int .i64 a0_4]) (t:=61) ?_;intro G180 hg w3 hbox hb;have K180:=zA (hbox);have GW180:=zN HB hg;have GE180:=zN HB hg;replace HB:=zS HB hb;clear hb hbox hg))
 (try simp only [Act.put,xA,xB,xC]);go_cut [22] (fun v22 wc => ∃ (kq : Nat) (x22_1 : Bool),v22 = .bool x22_1 ∧ Aside0 (beaconref06_May.j0 kq x22_1 a0_0 a0_1 a0_2 a0_3 a0_4 = some r) ∧ Aside0 (kq ≤ k) ∧ Aside0 (wc.heap[G180]? = some (.cells #[.int .i64 a0_0,.int .i64 a0_1,.float .f64 a0_2,.float .f64 a0_3,.int .i64 a0_4] 61 (0,0))) ∧ Aside0 (Below w.heap.size w wc))
 case first =>
  have H:=HC2.out;clear HC2;replace H:=Option.bind_eq_some_iff.mp H;obtain ⟨t181,A40,H⟩:=H;(try dsimp only at H);have A4:=zA A40;clear A40;by_cases c5 : t181 = true
  ·subst c5;rw [if_pos rfl] at H;by_cases c6 : a0_1 = 1
   ·rw [if_pos c6] at H;have c6b0 : (a0_1 == 1) = true:=beq_iff_eq.mpr c6;have c6b1 : (a0_1 != 1) = false:=bne_eq_false_iff_eq.mpr c6;clear c6;(first|rw [c6b0]|(simp only [i64_w,i32_w];rw [c6b0])|skip)
    replace H:=Option.bind_eq_some_iff.mp H;obtain ⟨t182,A70,H⟩:=H;(try dsimp only at H);have A7:=zA A70;clear A70;have H':=zA H;clear H;obtain ⟨_,_,_,_,_,_,_,_,_,_⟩:=zc5 K180;go_wp2_with (first|((with_reducible refine gate_callee (f:=58) rfl ?_);refine zg (some 5) Try.func58 #[.int .i64 a0_0] ?_;(with_reducible refine (beaconref06_number.calls a0_0 true _ A4.out).mono ?_);rintro e w' ⟨rfl,⟨nd,rfl⟩⟩;refine ⟨_,rfl,?_⟩)|(go_at_call 59;(with_reducible refine (beaconref06_Far.calls a0_2 t182 _ A7.out).mono ?_);rintro e w' ⟨rfl,⟨nd,rfl⟩⟩))
    go_meet
    case rel => exact ⟨_,(!t182),ze,H',⟨zo⟩,⟨z1 K180.1⟩,⟨zH HB⟩⟩
   ·rw [if_neg c6] at H;have c6b0 : (a0_1 == 1) = false:=beq_eq_false_iff_ne.mpr c6;have c6b1 : (a0_1 != 1) = true:=bne_iff_ne.mpr c6;(first|rw [c6b0]|(simp only [i64_w,i32_w];rw [c6b0])|skip)
    by_cases c9 : a0_1 = 2
    ·rw [if_pos c9] at H;have c9b0 : (a0_1 == 2) = true:=beq_iff_eq.mpr c9;have c9b1 : (a0_1 != 2) = false:=bne_eq_false_iff_eq.mpr c9;clear c9;replace H:=Option.bind_eq_some_iff.mp H;obtain ⟨t183,A100,H⟩:=H;(try dsimp only at H);have A10:=zA A100;clear A100;have H':=zA H;clear H;obtain ⟨_,_,_,_,_,_,_,_,_,_⟩:=zc5 K180;go_wp2_with (first|((with_reducible refine gate_callee (f:=58) rfl ?_);refine zg (some 5) Try.func58 #[.int .i64 a0_0] ?_;(with_reducible refine (beaconref06_number.calls a0_0 true _ A4.out).mono ?_);rintro e w' ⟨rfl,⟨nd,rfl⟩⟩;refine ⟨_,rfl,?_⟩)|(go_at_call 59;(with_reducible refine (beaconref06_Far.calls a0_2 t183 _ A10.out).mono ?_);rintro e w' ⟨rfl,⟨nd,rfl⟩⟩))
     go_meet
     case rel => exact ⟨_,(!t183),ze,H',⟨zo⟩,⟨z1 K180.1⟩,⟨zH HB⟩⟩
    ·rw [if_neg c9] at H;have c9b0 : (a0_1 == 2) = false:=beq_eq_false_iff_ne.mpr c9;have c9b1 : (a0_1 != 2) = true:=bne_iff_ne.mpr c9;have H':=zA H;clear H;obtain ⟨_,_,_,_,_,_,_,_,_,_⟩:=zc5 K180;go_wp2_with (first|((with_reducible refine gate_callee (f:=58) rfl ?_);refine zg (some 5) Try.func58 #[.int .i64 a0_0] ?_;(with_reducible refine (beaconref06_number.calls a0_0 true _ A4.out).mono ?_);rintro e w' ⟨rfl,⟨nd,rfl⟩⟩;refine ⟨_,rfl,?_⟩))
     go_meet
     case rel => exact ⟨_,(true),ze,H',⟨zo⟩,⟨z1 K180.1⟩,⟨zH HB⟩⟩
  ·replace c5:=Bool.eq_false_iff.mpr c5;subst c5;rw [if_neg (show ¬ (false = true) by decide)] at H;have H':=zA H;clear H;obtain ⟨_,_,_,_,_,_,_,_,_,_⟩:=zc5 K180;go_wp2_with (first|((with_reducible refine gate_callee (f:=58) rfl ?_);refine zg (some 5) Try.func58 #[.int .i64 a0_0] ?_;(with_reducible refine (beaconref06_number.calls a0_0 false _ A4.out).mono ?_);rintro e w' ⟨rfl,⟨nd,rfl⟩⟩;refine ⟨_,rfl,?_⟩))
   go_meet
   case rel => exact ⟨_,(true),ze,H',⟨zo⟩,⟨z1 K180.1⟩,⟨zH HB⟩⟩
 case rest =>
  clear HC2;obtain ⟨kq,x22_1,rfl,HA,HJ1,K180,HB⟩:=hcut;cases kq with
  | zero => exact absurd HA.out (by simp [beaconref06_May.j0])
  | succ kj1 =>
   have H:=HA.out;clear HA;simp only [beaconref06_May.j0] at H;by_cases c14 : x22_1 = true
   ·subst c14;rw [if_pos rfl] at H;obtain rfl:=Option.some.inj H;go_wp2
    go_ret
    exact ⟨zE,zH HB⟩
   ·replace c14:=Bool.eq_false_iff.mpr c14;subst c14;rw [if_neg (show ¬ (false = true) by decide)] at H;have HC15:=zA H;clear H;go_upto_region 3 with (fail)
    go_cut [30] (fun v30 wc => ∃ (kq : Nat) (x30_14 : Bool),v30 = .bool x30_14 ∧ Aside0 (beaconref06_May.j1 kq x30_14 a0_0 a0_1 a0_2 a0_3 a0_4 = some r) ∧ Aside0 (kq ≤ kj1) ∧ Aside0 (wc.heap[G180]? = some (.cells #[.int .i64 a0_0,.int .i64 a0_1,.float .f64 a0_2,.float .f64 a0_3,.int .i64 a0_4] 61 (0,0))) ∧ Aside0 (Below w.heap.size w wc))
    case first =>
     have H:=HC15.out;clear HC15;by_cases c16 : a0_1 = 1
     ·rw [if_pos c16] at H;have c16b0 : (a0_1 == 1) = true:=beq_iff_eq.mpr c16;have c16b1 : (a0_1 != 1) = false:=bne_eq_false_iff_eq.mpr c16;clear c16;(first|rw [c16b0]|(simp only [i64_w,i32_w];rw [c16b0])|skip)
      have H':=zA H;clear H;obtain ⟨_,_,_,_,_,_,_,_,_,_⟩:=zc5 K180;go_wp2
      go_meet
      case rel => exact ⟨_,(true),ze,H',⟨by have:=HJ1.out;first|omega|exact Nat.le_refl _⟩,⟨z1 K180.1⟩,⟨zH HB⟩⟩
     ·rw [if_neg c16] at H;have c16b0 : (a0_1 == 1) = false:=beq_eq_false_iff_ne.mpr c16;have c16b1 : (a0_1 != 1) = true:=bne_iff_ne.mpr c16;(first|rw [c16b0]|(simp only [i64_w,i32_w];rw [c16b0])|skip)
      replace H:=Option.bind_eq_some_iff.mp H;obtain ⟨t184,A180,H⟩:=H;(try dsimp only at H);have A18:=zA A180;clear A180;have H':=zA H;clear H;obtain ⟨_,_,_,_,_,_,_,_,_,_⟩:=zc5 K180;go_wp2_with (first|(go_at_call 38;(with_reducible refine (math_IsInf.calls a0_2 1 t184 _ A18.out).mono ?_);rintro e w' ⟨rfl,⟨nd,rfl⟩⟩))
      go_meet
      case rel => exact ⟨_,(t184),ze,H',⟨by have:=HJ1.out;first|omega|exact Nat.le_refl _⟩,⟨z1 K180.1⟩,⟨zH HB⟩⟩
    case rest =>
     clear HC15;try clear c14
     obtain ⟨kq,x30_14,rfl,HA,HJ14,K180,HB⟩:=hcut;cases kq with
     | zero => exact absurd HA.out (by simp [beaconref06_May.j1])
     | succ kj14 =>
      have H:=HA.out;clear HA;simp only [beaconref06_May.j1] at H;by_cases c20 : x30_14 = true
      ·subst c20;rw [if_pos rfl] at H;replace H:=Option.bind_eq_some_iff.mp H;obtain ⟨t185,A210,H⟩:=H;(try dsimp only at H);have A21:=zA A210;clear A210;by_cases c22 : t185 = true
       ·subst c22;rw [if_pos rfl] at H;obtain rfl:=Option.some.inj H;obtain ⟨_,_,_,_,_,_,_,_,_,_⟩:=zc5 K180;go_wp2_with (first|((with_reducible refine gate_callee (f:=60) rfl ?_);refine zg (some 33) Try.func60 #[.float .f64 a0_3] ?_;(with_reducible refine (beaconref06_zero.calls a0_3 true _ A21.out).mono ?_);rintro e w' ⟨rfl,⟨nd,rfl⟩⟩;refine ⟨_,rfl,?_⟩))
        go_ret
        exact ⟨zE,zH HB⟩
       ·replace c22:=Bool.eq_false_iff.mpr c22;subst c22;rw [if_neg (show ¬ (false = true) by decide)] at H;obtain rfl:=Option.some.inj H;obtain ⟨_,_,_,_,_,_,_,_,_,_⟩:=zc5 K180;go_wp2_with (first|((with_reducible refine gate_callee (f:=60) rfl ?_);refine zg (some 33) Try.func60 #[.float .f64 a0_3] ?_;(with_reducible refine (beaconref06_zero.calls a0_3 false _ A21.out).mono ?_);rintro e w' ⟨rfl,⟨nd,rfl⟩⟩;refine ⟨_,rfl,?_⟩))
        go_ret
        exact ⟨zE,zH HB⟩
      ·replace c20:=Bool.eq_false_iff.mpr c20;subst c20;rw [if_neg (show ¬ (false = true) by decide)] at H;replace H:=Option.bind_eq_some_iff.mp H;obtain ⟨t186,A250,H⟩:=H;(try dsimp only at H);have A25:=zA A250;clear A250;by_cases c26 : t186 = true
       ·subst c26;rw [if_pos rfl] at H;obtain rfl:=Option.some.inj H;obtain ⟨_,_,_,_,_,_,_,_,_,_⟩:=zc5 K180;go_wp2_with (first|((with_reducible refine gate_callee (f:=38) rfl ?_);refine zg (some 41) Try.func38 #[.float .f64 a0_3,.int .i64 1] ?_;(with_reducible refine (math_IsInf.calls a0_3 1 true _ A25.out).mono ?_);rintro e w' ⟨rfl,⟨nd,rfl⟩⟩;refine ⟨_,rfl,?_⟩))
        go_ret
        exact ⟨zE,zH HB⟩
       ·replace c26:=Bool.eq_false_iff.mpr c26;subst c26;rw [if_neg (show ¬ (false = true) by decide)] at H;replace H:=Option.bind_eq_some_iff.mp H;obtain ⟨t187,A280,H⟩:=H;(try dsimp only at H);have A28:=zA A280;clear A280;by_cases c29 : t187 = true
        ·subst c29;rw [if_pos rfl] at H;replace H:=Option.bind_eq_some_iff.mp H;obtain ⟨t188,A300,H⟩:=H;(try dsimp only at H);have A30:=zA A300;clear A300;obtain rfl:=Option.some.inj H;obtain ⟨_,_,_,_,_,_,_,_,_,_⟩:=zc5 K180;go_wp2_with (first|((with_reducible refine gate_callee (f:=38) rfl ?_);refine zg (some 41) Try.func38 #[.float .f64 a0_3,.int .i64 1] ?_;(with_reducible refine (math_IsInf.calls a0_3 1 false _ A25.out).mono ?_);rintro e w' ⟨rfl,⟨nd,rfl⟩⟩;refine ⟨_,rfl,?_⟩)|((with_reducible refine gate_callee (f:=59) rfl ?_);refine zg (some 47) Try.func59 #[.float .f64 a0_3] ?_;(with_reducible refine (beaconref06_Far.calls a0_3 true _ A28.out).mono ?_);rintro e w' ⟨rfl,⟨nd,rfl⟩⟩;refine ⟨_,rfl,?_⟩)|(go_at_call 58;(with_reducible refine (beaconref06_number.calls a0_4 t188 _ A30.out).mono ?_);rintro e w' ⟨rfl,⟨nd,rfl⟩⟩))
         go_ret
         exact ⟨zE,zH HB⟩
        ·replace c29:=Bool.eq_false_iff.mpr c29;subst c29;rw [if_neg (show ¬ (false = true) by decide)] at H;obtain rfl:=Option.some.inj H;obtain ⟨_,_,_,_,_,_,_,_,_,_⟩:=zc5 K180;go_wp2_with (first|((with_reducible refine gate_callee (f:=38) rfl ?_);refine zg (some 41) Try.func38 #[.float .f64 a0_3,.int .i64 1] ?_;(with_reducible refine (math_IsInf.calls a0_3 1 false _ A25.out).mono ?_);rintro e w' ⟨rfl,⟨nd,rfl⟩⟩;refine ⟨_,rfl,?_⟩)|((with_reducible refine gate_callee (f:=59) rfl ?_);refine zg (some 47) Try.func59 #[.float .f64 a0_3] ?_;(with_reducible refine (beaconref06_Far.calls a0_3 false _ A28.out).mono ?_);rintro e w' ⟨rfl,⟨nd,rfl⟩⟩;refine ⟨_,rfl,?_⟩))
         go_ret
         exact ⟨zE,zH HB⟩

end Go.Proofs.Ytpcgjdllgdkobaa.XA
