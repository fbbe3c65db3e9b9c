/- Go functions of this seat as Lean functions, with proofs that the calls come to them. (Written by xprint.py, a program of this session, over the kit's print.) -/
import Derived.Test.YtgmjlhpigfaicaaXRx0
namespace Go.Proofs.Ytgmjlhpigfaicaa.XR
open Go.RowKit Go.Proofs.YtgmjlhpigfaicaaW.PrintWords Go.Proofs.YtgmjlhpigfaicaaW.PrintLast Go.Proofs.YtgmjlhpigfaicaaW.PrintMore
attribute [local go_sem] max2_int min2_int max_two min_two max_three min_three max_four min_four   -- for this text's walks alone
set_option linter.unusedVariables false
set_option linter.unusedSimpArgs false
open List renaming setIfInBounds_toArray → xA, set_cons_zero → xB, set_cons_succ → xC
open Go.Proofs.YtgmjlhpigfaicaaW.PrintWords renaming blk_drewN → bN, blk_drew → bD, blk_alloc → bA, below_set → bS, blk_frozen → bF, blk_cell → bC, cell_far → cF, blk_far → bZ, blk_below → bB, pw_below_drewN → bwN, below_drew1 → bw1, below_alloc → bwA
open Go.Proofs.YtgmjlhpigfaicaaW.PrintZ
open Bool renaming true → T,false → F

/-! ### cmp_Or_int: function 73 -/
def cmp_Or_int.l0 : Nat → Int → List Int → Int → Int → Option (Int)
 | 0, _, _, _, _ => none
 | k + 1, x3, x6, x7, x8 => if x8 < x7 then (if 0 ≤ x8 then (if x8 < (x6.length : Int) then (if (rd x6 x8) = x3 then (cmp_Or_int.l0 k x3 x6 x7 (wrap64 (x8 + 1))) else (some (rd x6 x8))) else (none)) else (none)) else (some x3)
def cmp_Or_int.f (k : Nat) (l0 : List Int) : Option (Int) := cmp_Or_int.l0 k 0 l0 (l0.length : Int) 0
set_option maxHeartbeats 8000000 in
set_option maxRecDepth 100000 in
theorem cmp_Or_int.calls (k : Nat) (A0 : Option Addr) (c0 : Nat) (l0 : List Int) (r : Int) (w : World) (hr0 : Kd.C (Kd.int .i64) w A0 l0.length l0) (hc0 : l0.length ≤ c0) (h : cmp_Or_int.f k l0 = some r) :
  Calls Try.prog 73 #[.slice A0 l0.length c0] w fun e w' => e = .returned (.int .i64 r) ∧ Drawn0 w w':=by
 have HR0:=zA hr0;have HC0:=zA hc0;clear hr0 hc0;have H : (cmp_Or_int.l0 k 0 l0 (l0.length : Int) 0) = some r:=h;clear h;have H':=zA H;clear H;go_enter Try.func73,Try.ntmps73
 go_wp2
 go_loopg [8] k (fun kq v8 w' => ∃ (Aa : Int),v8 = .int .i64 Aa ∧ Aside0 (cmp_Or_int.l0 kq 0 l0 (l0.length : Int) Aa = some r) ∧ Aside0 (kq ≤ k) ∧ Drawn0 w w')
 case atStart => exact ⟨(0),ze,H',⟨Nat.le_refl _⟩,by repeat (first|exact Drawn0.refl _|apply Drawn0.step)⟩
 case round =>
  clear H';obtain ⟨Aa,rfl,HA,HK1,⟨m1,rfl⟩⟩:=hrel;cases gk with
  | zero => exact absurd HA.out (by simp [cmp_Or_int.l0])
  | succ k1 =>
   have H:=HA.out;clear HA;simp only [cmp_Or_int.l0] at H;by_cases c2 : Aa < (l0.length : Int)
   ·rw [if_pos c2] at H;have Ai : decide (Aa < (l0.length : Int)) = true:=decide_eq_true c2;clear c2;by_cases c3 : 0 ≤ Aa
    ·rw [if_pos c3] at H;have Al : decide (0 ≤ Aa) = true:=decide_eq_true c3;clear c3;by_cases c4 : Aa < (l0.length : Int)
     ·rw [if_pos c4] at H;have Ax : decide (Aa < (l0.length : Int)) = true:=decide_eq_true c4;clear c4;by_cases c5 : (rd l0 Aa) = 0
      ·rw [if_pos c5] at H;have An : ((rd l0 Aa) == 0) = true:=beq_iff_eq.mpr c5;have Ao : ((rd l0 Aa) != 0) = false:=bne_eq_false_iff_eq.mpr c5;clear c5;have H':=zA H;clear H;have p101 : 0 ≤ (Aa : Int):=zd;have q101 : Aa < (l0.length : Int):=zd;obtain ⟨ad101,e101,hx101_0⟩:=Kd.at_int HR0.out Aa p101 q101;cases e101;replace p101:=eq_true p101;replace q101:=eq_true q101;go_wp2
       go_roundg k1
       case measure => have:=HK1.out;omega
       case rel => exact ⟨(wrap64 (Aa + 1)),ze,H',⟨by have:=HK1.out;omega⟩,by repeat (first|exact Drawn0.refl _|apply Drawn0.step)⟩
      ·rw [if_neg c5] at H;have An : ((rd l0 Aa) == 0) = false:=beq_eq_false_iff_ne.mpr c5;have Ao : ((rd l0 Aa) != 0) = true:=bne_iff_ne.mpr c5;obtain rfl:=Option.some.inj H;have p101 : 0 ≤ (Aa : Int):=zd;have q101 : Aa < (l0.length : Int):=zd;obtain ⟨ad101,e101,hx101_0⟩:=Kd.at_int HR0.out Aa p101 q101;cases e101;replace p101:=eq_true p101;replace q101:=eq_true q101;go_wp2
       go_ret
       exact ⟨by first|rfl|(simp;done)|(simp [*];done),by repeat (first|exact Drawn0.refl _|apply Drawn0.step)⟩
     ·rw [if_neg c4] at H;exact absurd H (by simp)
    ·rw [if_neg c3] at H;exact absurd H (by simp)
   ·rw [if_neg c2] at H;have Ai : decide (Aa < (l0.length : Int)) = false:=decide_eq_false c2;clear c2;obtain rfl:=Option.some.inj H;go_wp2
    go_ret
    exact ⟨by first|rfl|(simp;done)|(simp [*];done),by repeat (first|exact Drawn0.refl _|apply Drawn0.step)⟩

/-! ### cmp_isNaN_int: function 94 -/
def cmp_isNaN_int.f (a0 : Int) : Option (Bool) := some (a0 != a0)
set_option maxHeartbeats 8000000 in
set_option maxRecDepth 100000 in
theorem cmp_isNaN_int.calls (a0 : Int) (r : Bool) (w : World) (h : cmp_isNaN_int.f a0 = some r) :
  Calls Try.prog 94 #[.int .i64 a0] w fun e w' => e = .returned (.bool r) ∧ Drawn0 w w':=by
 have H : (some (a0 != a0)) = some r:=h;clear h;obtain rfl:=Option.some.inj H;go_enter Try.func94,Try.ntmps94
 go_wp2
 go_ret
 exact ⟨by first|rfl|(simp;done)|(simp [*];done),by repeat (first|exact Drawn0.refl _|apply Drawn0.step)⟩

/-! ### cmp_Compare_int: function 74 -/
def cmp_Compare_int.f (a0 : Int) (a1 : Int) : Option (Int) := (cmp_isNaN_int.f a0).bind fun Af => ((cmp_isNaN_int.f a1).bind fun Ag => (if Af = true then (none) else (if Ag = true then (none) else (if a0 < a1 then (some (-1)) else (if a0 > a1 then (some 1) else (some 0))))))
set_option maxHeartbeats 8000000 in
set_option maxRecDepth 100000 in
theorem cmp_Compare_int.calls (a0 : Int) (a1 : Int) (r : Int) (w : World) (h : cmp_Compare_int.f a0 a1 = some r) :
  Calls Try.prog 74 #[.int .i64 a0,.int .i64 a1] w fun e w' => e = .returned (.int .i64 r) ∧ Drawn0 w w':=by
 have H : ((cmp_isNaN_int.f a0).bind fun Af => ((cmp_isNaN_int.f a1).bind fun Ag => (if Af = true then (none) else (if Ag = true then (none) else (if a0 < a1 then (some (-1)) else (if a0 > a1 then (some 1) else (some 0))))))) = some r:=h;clear h;replace H:=Option.bind_eq_some_iff.mp H;obtain ⟨Af,A30,H⟩:=H;(try dsimp only at H);have A3:=zA A30;clear A30;replace H:=Option.bind_eq_some_iff.mp H;obtain ⟨Ag,A40,H⟩:=H;(try dsimp only at H);have A4:=zA A40;clear A40;by_cases c5 : Af = true
 ·subst c5;rw [if_pos rfl] at H;exact absurd H (by simp)
 ·replace c5:=Bool.eq_false_iff.mpr c5;subst c5;rw [if_neg (show ¬ (false = true) by decide)] at H;by_cases c6 : Ag = true
  ·subst c6;rw [if_pos rfl] at H;exact absurd H (by simp)
  ·replace c6:=Bool.eq_false_iff.mpr c6;subst c6;rw [if_neg (show ¬ (false = true) by decide)] at H;by_cases c7 : a0 < a1
   ·rw [if_pos c7] at H;have Ap : decide (a0 < a1) = true:=decide_eq_true c7;clear c7;obtain rfl:=Option.some.inj H;go_enter Try.func74,Try.ntmps74
    go_wp2_with (first|((with_reducible refine gate_callee (f:=94) rfl ?_);refine zg (some 8) Try.func94 #[.int .i64 a0] ?_;(with_reducible refine (cmp_isNaN_int.calls a0 false _ A3.out).mono ?_);rintro e w' ⟨rfl,⟨nd,rfl⟩⟩;refine ⟨_,rfl,?_⟩)|((with_reducible refine gate_callee (f:=94) rfl ?_);refine zg (some 10) Try.func94 #[.int .i64 a1] ?_;(with_reducible refine (cmp_isNaN_int.calls a1 false _ A4.out).mono ?_);rintro e w' ⟨rfl,⟨nd,rfl⟩⟩;refine ⟨_,rfl,?_⟩))
    go_ret
    exact ⟨by first|rfl|(simp;done)|(simp [*];done),by repeat (first|exact Drawn0.refl _|apply Drawn0.step)⟩
   ·rw [if_neg c7] at H;have Ap : decide (a0 < a1) = false:=decide_eq_false c7;clear c7;by_cases c8 : a0 > a1
    ·rw [if_pos c8] at H;have Aq : decide (a1 < a0) = true:=decide_eq_true c8;clear c8;obtain rfl:=Option.some.inj H;go_enter Try.func74,Try.ntmps74
     go_wp2_with (first|((with_reducible refine gate_callee (f:=94) rfl ?_);refine zg (some 8) Try.func94 #[.int .i64 a0] ?_;(with_reducible refine (cmp_isNaN_int.calls a0 false _ A3.out).mono ?_);rintro e w' ⟨rfl,⟨nd,rfl⟩⟩;refine ⟨_,rfl,?_⟩)|((with_reducible refine gate_callee (f:=94) rfl ?_);refine zg (some 10) Try.func94 #[.int .i64 a1] ?_;(with_reducible refine (cmp_isNaN_int.calls a1 false _ A4.out).mono ?_);rintro e w' ⟨rfl,⟨nd,rfl⟩⟩;refine ⟨_,rfl,?_⟩))
     go_ret
     exact ⟨by first|rfl|(simp;done)|(simp [*];done),by repeat (first|exact Drawn0.refl _|apply Drawn0.step)⟩
    ·rw [if_neg c8] at H;have Aq : decide (a1 < a0) = false:=decide_eq_false c8;clear c8;obtain rfl:=Option.some.inj H;go_enter Try.func74,Try.ntmps74
     go_wp2_with (first|((with_reducible refine gate_callee (f:=94) rfl ?_);refine zg (some 8) Try.func94 #[.int .i64 a0] ?_;(with_reducible refine (cmp_isNaN_int.calls a0 false _ A3.out).mono ?_);rintro e w' ⟨rfl,⟨nd,rfl⟩⟩;refine ⟨_,rfl,?_⟩)|((with_reducible refine gate_callee (f:=94) rfl ?_);refine zg (some 10) Try.func94 #[.int .i64 a1] ?_;(with_reducible refine (cmp_isNaN_int.calls a1 false _ A4.out).mono ?_);rintro e w' ⟨rfl,⟨nd,rfl⟩⟩;refine ⟨_,rfl,?_⟩))
     go_ret
     exact ⟨by first|rfl|(simp;done)|(simp [*];done),by repeat (first|exact Drawn0.refl _|apply Drawn0.step)⟩

/-! ### table_order: function 48 -/
def table_order.f (k : Nat) (a0_0 : Int) (a0_1 : Int) (a0_2 : Nat) (a0_3 : Int) (a0_4 : Nat) (a0_5 : Int) (a1_0 : Int) (a1_1 : Int) (a1_2 : Nat) (a1_3 : Int) (a1_4 : Nat) (a1_5 : Int) : Option (Int) := (cmp_Compare_int.f a0_1 a1_1).bind fun Ac => ((cmp_Compare_int.f a0_0 a1_0).bind fun Ad => ((cmp_Or_int.f k (([Ac, Ad] : List Int))).bind fun Ae => (some Ae)))
def table_order.T1 : Bool × List (List Nat × List Nat) := (true, [([], []), ([0], [0]), ([], []), ([2], [2]), ([1, 3], [1, 3]), ([], []), ([5], [5]), ([], []), ([7], [7]), ([6, 8, 4], [6, 8]), ([4, 9], [4, 9]), ([10, 9], [10]), ([11, 11, 0, 1, 2, 3, 4, 5, 6, 7, 8, 9, 10, 11], [11])])
def table_order.B1 : List Nat := [0, 1, 0, 4, 15, 0, 32, 0, 128, 511, 1023, 2047, 4095]
theorem table_order.tab1 : rtab .any (opsOf Try.f48 1) = table_order.T1 := by kernel_rfl
theorem table_order.bits1 : waitsOk table_order.T1.2 table_order.B1 = true := by kernel_rfl
set_option maxHeartbeats 8000000 in
set_option maxRecDepth 100000 in
theorem table_order.calls (k : Nat) (a0_0 : Int) (a0_1 : Int) (a0_2 : Nat) (a0_3 : Int) (a0_4 : Nat) (a0_5 : Int) (a1_0 : Int) (a1_1 : Int) (a1_2 : Nat) (a1_3 : Int) (a1_4 : Nat) (a1_5 : Int) (r : Int) (w : World) (h : table_order.f k a0_0 a0_1 a0_2 a0_3 a0_4 a0_5 a1_0 a1_1 a1_2 a1_3 a1_4 a1_5 = some r) :
  Calls Try.prog 48 #[.agg #[.int .i64 a0_0,.int .i64 a0_1,.float .f64 a0_2,.int .i64 a0_3,.float .f64 a0_4,.int .i64 a0_5],.agg #[.int .i64 a1_0,.int .i64 a1_1,.float .f64 a1_2,.int .i64 a1_3,.float .f64 a1_4,.int .i64 a1_5]] w fun e w' => e = .returned (.int .i64 r) ∧ Below w.heap.size w w':=by
 have hu39:=Try.underlying39;have HB:=zA (Below.refl w.heap.size w);have H : ((cmp_Compare_int.f a0_1 a1_1).bind fun Ac => ((cmp_Compare_int.f a0_0 a1_0).bind fun Ad => ((cmp_Or_int.f k (([Ac,Ad] : List Int))).bind fun Ae => (some Ae)))) = some r:=h;clear h;replace H:=Option.bind_eq_some_iff.mp H;obtain ⟨Ac,A30,H⟩:=H;(try dsimp only at H);have A3:=zA A30;clear A30;replace H:=Option.bind_eq_some_iff.mp H;obtain ⟨Ad,A40,H⟩:=H;(try dsimp only at H);have A4:=zA A40;clear A40;obtain ⟨y108,hy108⟩ : ∃ y_ : List Int,y_ = (([Ac,Ad] : List Int)):=⟨_,rfl⟩;replace H : ((cmp_Or_int.f k y108).bind fun Ae => (some Ae)) = some r:=by first|(rw [hy108];with_reducible exact H)|(have H2_:=(Option.bind_some _ _).symm.trans H;rw [hy108];with_reducible exact H2_)|(have H2_:=(Option.bind_some _ _).symm.trans H;with_reducible exact H2_)|with_reducible exact H|(rw [hy108];exact H)|exact H
 have Ny108:=zA hy108;clear hy108;replace H:=Option.bind_eq_some_iff.mp H;obtain ⟨Ae,A50,H⟩:=H;(try dsimp only at H);have A5:=zA A50;clear A50;obtain rfl:=Option.some.inj H;go_enter Try.func48,Try.ntmps48
 try go_wp2_with (first|((with_reducible refine gate_dst (N:=2) rfl ?_);refine zb (N:=2) (cs:=#[.int .i64 a0_0,.int .i64 a0_1,.float .f64 a0_2,.int .i64 a0_3,.float .f64 a0_4,.int .i64 a0_5]) (t:=39) ?_;intro G104 hg w6 hbox hb;have K104:=zA (hbox);have At:=zN HB hg;have Au:=zN HB hg;replace HB:=zS HB hb;clear hb hbox hg)|((with_reducible refine gate_dst (N:=3) rfl ?_);refine zb (N:=3) (cs:=#[.int .i64 a1_0,.int .i64 a1_1,.float .f64 a1_2,.int .i64 a1_3,.float .f64 a1_4,.int .i64 a1_5]) (t:=39) ?_;intro G105 hg w7 hbox hb;have K105:=zA (hbox);have Av:=zN HB hg;have Aw:=zN HB hg;replace HB:=zS HB hb;have Aj:=zL K104 hg;have Ak:=zG K104 hg;replace K104:=zB K104 hb;clear hb hbox hg))
 replace K104:=zA (bD K104.1);replace K105:=zA (bD K105.1);replace HB:=zA (bw1 HB.1);refine start_ (n:=13) (S:=fun w' => w'.cell? ⟨G104,0,none⟩ = some (.int .i64 a0_0) ∧ w'.cell? ⟨G104,1,none⟩ = some (.int .i64 a0_1) ∧ w'.cell? ⟨G104,2,none⟩ = some (.float .f64 a0_2) ∧ w'.cell? ⟨G104,3,none⟩ = some (.int .i64 a0_3) ∧ w'.cell? ⟨G104,4,none⟩ = some (.float .f64 a0_4) ∧ w'.cell? ⟨G104,5,none⟩ = some (.int .i64 a0_5) ∧ w'.cell? ⟨G105,0,none⟩ = some (.int .i64 a1_0) ∧ w'.cell? ⟨G105,1,none⟩ = some (.int .i64 a1_1) ∧ w'.cell? ⟨G105,2,none⟩ = some (.float .f64 a1_2) ∧ w'.cell? ⟨G105,3,none⟩ = some (.int .i64 a1_3) ∧ w'.cell? ⟨G105,4,none⟩ = some (.float .f64 a1_4) ∧ w'.cell? ⟨G105,5,none⟩ = some (.int .i64 a1_5)) (ds:=[]) #[F,F,F,F,F,F,F,F,F,F,F,F,F] (by kernel_rfl) rfl rfl ⟨zk K104 0,zk K104 1,zk K104 2,zk K104 3,zk K104 4,zk K104 5,zk K105 0,zk K105 1,zk K105 2,zk K105 3,zk K105 4,zk K105 5⟩ (fun Ab => ?_);refine with_tabW table_order.tab1 table_order.bits1 (fun HT_ HW_ => ?_);generalize w7.drew = w8 at K104 K105 HB Ab ⊢;refine pz 0 5 #[T,F,F,F,F,F,F,F,F,F,F,F,F] HT_.1 ?_;refine pz 2 7 #[T,F,T,F,F,F,F,F,F,F,F,F,F] HT_.1 ?_;refine pz 5 10 #[T,F,T,F,F,T,F,F,F,F,F,F,F] HT_.1 ?_;refine pz 7 12 #[T,F,T,F,F,T,F,T,F,F,F,F,F] HT_.1 ?_;refine tz 1 6 #[T,T,T,F,F,T,F,T,F,F,F,F,F] HT_.1 HW_.1 Ab ?_;refine tz 3 8 #[T,T,T,T,F,T,F,T,F,F,F,F,F] HT_.1 HW_.1 Ab ?_;refine tz 6 11 #[T,T,T,T,F,T,T,T,F,F,F,F,F] HT_.1 HW_.1 Ab ?_;refine tz 8 13 #[T,T,T,T,F,T,T,T,T,F,F,F,F] HT_.1 HW_.1 Ab ?_;refine one_ (i:=4) (N:=some 9) #[T,T,T,T,T,T,T,T,T,F,F,F,F] rfl rfl (one_of HT_.out (by kernel_rfl)) (by decide) (fun K hK => ?_);refine zo_ Try.func74 #[.int .i64 a0_1,.int .i64 a1_1] ?_;with_reducible refine (cmp_Compare_int.calls a0_1 a1_1 Ac _ A3.out).mono ?_
 rintro e w' ⟨rfl,⟨nd,rfl⟩⟩;refine ⟨_,rfl,?_⟩;refine hK.out _ _ ⟨zk K104 0,zk K104 1,zk K104 2,zk K104 3,zk K104 4,zk K104 5,zk K105 0,zk K105 1,zk K105 2,zk K105 3,zk K105 4,zk K105 5⟩ (fun Ab => ?_);clear hK K;refine nz 9 ?_;refine one_ (i:=9) (N:=some 14) #[T,T,T,T,T,T,T,T,T,T,F,F,F] rfl rfl (one_of HT_.out (by kernel_rfl)) (by decide) (fun K hK => ?_);refine zo_ Try.func74 #[.int .i64 a0_0,.int .i64 a1_0] ?_;with_reducible refine (cmp_Compare_int.calls a0_0 a1_0 Ad _ A4.out).mono ?_
 rintro e w' ⟨rfl,⟨nd,rfl⟩⟩;refine ⟨_,rfl,?_⟩;refine hK.out _ _ ⟨zk K104 0,zk K104 1,zk K104 2,zk K104 3,zk K104 4,zk K104 5,zk K105 0,zk K105 1,zk K105 2,zk K105 3,zk K105 4,zk K105 5⟩ (fun Ab => ?_);clear hK K;refine nz 14 ?_;refine one_ (i:=10) (N:=some 15) #[T,T,T,T,T,T,T,T,T,T,T,F,F] rfl rfl (one_of HT_.out (by kernel_rfl)) (by decide) (fun K hK => ?_);refine Kd.R_lit_step (Kd.int .i64) _ 3 ?hg (N:=15) ?hd (xs:=([Ac,Ad] : List Int)) (inner:=[.int .i64 Ac,.int .i64 Ad]) (ok:=fun _ => True) (okp:=fun _ => True) ?hr ?hp (fun _ hk => hk) trivial (Below.refl _ _) (Nat.le_refl _) (by simp) ?_;(case hd => rfl);(case hg => exact zw);(case hr => first|(go_simp;done)|(go_simp;rfl));(case hp => exact (Reps.one (show Kd.M (Kd.int .i64) _ _ _ Ac [.int .i64 Ac] from rfl) (Reps.one (show Kd.M (Kd.int .i64) _ _ _ Ad [.int .i64 Ad] from rfl) (Reps.none _ _))));intro Ay w9 ho10 hb hg_ hnew_;clear hg_ hnew_;(first|rw [← Ny108.out] at ho10|(simp only [Int.reduceToNat] at ho10;rw [← Ny108.out] at ho10))
 have Ah:=zA (Kd.R_lower ho10 (zW HB));replace K104:=zB K104 hb;replace K105:=zB K105 hb;replace HB:=zS HB hb;clear hb ho10;obtain ⟨Ar,As,Am⟩:=Kd.R_slice Ah.out;(first|subst Am|(injection Am with f1_ f2_ f3_;have f4_:=f1_.symm;have f5_:=f3_.symm;clear f1_ f2_ f3_;subst f4_;subst f5_))
 refine hK.out _ _ ⟨zk K104 0,zk K104 1,zk K104 2,zk K104 3,zk K104 4,zk K104 5,zk K105 0,zk K105 1,zk K105 2,zk K105 3,zk K105 4,zk K105 5⟩ (fun Ab => ?_);clear hK K;refine nz 15 ?_;refine one_ (i:=11) (N:=some 16) #[T,T,T,T,T,T,T,T,T,T,T,T,F] rfl rfl (one_of HT_.out (by kernel_rfl)) (by decide) (fun K hK => ?_);refine zo_ Try.func73 #[.slice Ar y108.length As] ?_;with_reducible refine (cmp_Or_int.calls k _ _ y108 Ae _ ?side1 ?side2 A5.out).mono ?_
 (case side1 => exact zC ((Kd.R_reads' Ah.out).2.2));(case side2 => exact (Kd.R_reads' Ah.out).2.1);rintro e w' ⟨rfl,⟨nd,rfl⟩⟩;refine ⟨_,rfl,?_⟩;refine hK.out _ _ ⟨zk K104 0,zk K104 1,zk K104 2,zk K104 3,zk K104 4,zk K104 5,zk K105 0,zk K105 1,zk K105 2,zk K105 3,zk K105 4,zk K105 5⟩ (fun Ab => ?_);clear hK K;refine nz 16 ?_;refine pz 12 4 #[T,T,T,T,T,T,T,T,T,T,T,T,T] HT_.1 ?_;refine done_ (done_of HT_.out (by kernel_rfl)) ?_;try go_wp2
 go_ret
 exact ⟨zE,zH HB⟩

/-! ### ident_CheckId: function 55 -/
def ident_CheckId.f (a0 : Int) : Option (Int) := if a0 < 1 then (some 20) else (if a0 > 2147483647 then (some 20) else (some 0))
set_option maxHeartbeats 8000000 in
set_option maxRecDepth 100000 in
theorem ident_CheckId.calls (a0 : Int) (r : Int) (w : World) (h : ident_CheckId.f a0 = some r) :
  Calls Try.prog 55 #[.int .i64 a0] w fun e w' => e = .returned (.int .i64 r) ∧ Drawn0 w w':=by
 have H : (if a0 < 1 then (some 20) else (if a0 > 2147483647 then (some 20) else (some 0))) = some r:=h;clear h;by_cases c2 : a0 < 1
 ·rw [if_pos c2] at H;have Ai : decide (a0 < 1) = true:=decide_eq_true c2;clear c2;obtain rfl:=Option.some.inj H;go_enter Try.func55,Try.ntmps55
  go_wp2
  go_ret
  exact ⟨by first|rfl|(simp;done)|(simp [*];done),by repeat (first|exact Drawn0.refl _|apply Drawn0.step)⟩
 ·rw [if_neg c2] at H;have Ai : decide (a0 < 1) = false:=decide_eq_false c2;clear c2;by_cases c3 : a0 > 2147483647
  ·rw [if_pos c3] at H;have Al : decide (2147483647 < a0) = true:=decide_eq_true c3;clear c3;obtain rfl:=Option.some.inj H;go_enter Try.func55,Try.ntmps55
   go_wp2
   go_ret
   exact ⟨by first|rfl|(simp;done)|(simp [*];done),by repeat (first|exact Drawn0.refl _|apply Drawn0.step)⟩
  ·rw [if_neg c3] at H;have Al : decide (2147483647 < a0) = false:=decide_eq_false c3;clear c3;obtain rfl:=Option.some.inj H;go_enter Try.func55,Try.ntmps55
   go_wp2
   go_ret
   exact ⟨by first|rfl|(simp;done)|(simp [*];done),by repeat (first|exact Drawn0.refl _|apply Drawn0.step)⟩

end Go.Proofs.Ytgmjlhpigfaicaa.XR
