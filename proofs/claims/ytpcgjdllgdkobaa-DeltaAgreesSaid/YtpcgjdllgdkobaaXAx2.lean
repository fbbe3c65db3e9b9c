/- Go functions of this seat as Lean functions, with proofs that the calls come to them. (Written by xprint.py, a program of this session, over the kit's print.) -/
import Derived.Test.YtpcgjdllgdkobaaXAx0
import Derived.Test.YtpcgjdllgdkobaaXAx1
namespace Go.Proofs.Ytpcgjdllgdkobaa.XA
open Go.RowKit Go.Proofs.YtpcgjdllgdkobaaW.PrintWords Go.Proofs.YtpcgjdllgdkobaaW.PrintLast Go.Proofs.YtpcgjdllgdkobaaW.PrintMore
attribute [local go_sem] max2_int min2_int max_two min_two max_three min_three max_four min_four   -- for this text's walks alone
set_option linter.unusedVariables false
set_option linter.unusedSimpArgs false
open List renaming setIfInBounds_toArray → xA, set_cons_zero → xB, set_cons_succ → xC
open Go.Proofs.YtpcgjdllgdkobaaW.PrintWords renaming blk_drewN → bN, blk_drew → bD, blk_alloc → bA, below_set → bS, blk_frozen → bF, blk_cell → bC, cell_far → cF, blk_far → bZ, blk_below → bB, pw_below_drewN → bwN, below_drew1 → bw1, below_alloc → bwA
open Go.Proofs.YtpcgjdllgdkobaaW.PrintZ
open Bool renaming true → T,false → F

attribute [local go_sem high] eqA76
/-! ### delta_Take: function 9 -/
def delta_Take.f (a0_0 : Int) (a1 : Int) : Option (Int × Bool × Bool) := if a0_0 < 18446744073709551615 then (if a1 = (IntKind.u64.wrap (a0_0 + 1)) then (some (a1, true, true)) else (if a1 ≥ 1 then (some (a0_0, false, decide (a1 ≤ a0_0))) else (some (a0_0, false, false)))) else (if a1 ≥ 1 then (some (a0_0, false, decide (a1 ≤ a0_0))) else (some (a0_0, false, false)))
def delta_Take.T3 : Bool × List (List Nat × List Nat) := (true, [([], []), ([], []), ([1], [1]), ([2], [2]), ([3], [3]), ([3], [3]), ([5, 3], [3, 5]), ([4, 6, 3], [3, 4, 6]), ([3, 7], [3, 7]), ([0, 3, 0], [0]), ([9, 0, 9], []), ([8, 10, 0, 1, 2, 3, 4, 5, 6, 7, 8, 9, 10], [8])])
def delta_Take.B3 : List Nat := [0, 0, 2, 6, 14, 14, 46, 126, 254, 15, 527, 2047]
theorem delta_Take.tab3 : rtab .any (opsOf Try.f9 3) = delta_Take.T3 := by kernel_rfl
theorem delta_Take.bits3 : waitsOk delta_Take.T3.2 delta_Take.B3 = true := by kernel_rfl
set_option maxHeartbeats 8000000 in
set_option maxRecDepth 100000 in
theorem delta_Take.calls (a0_0 : Int) (a1 : Int) (r1 : Int) (r2 : Bool) (r3 : Bool) (w : World) (h : delta_Take.f a0_0 a1 = some (r1, r2, r3)) :
  Calls Try.prog 9 #[.agg #[.int .u64 a0_0],.int .u64 a1] w fun e w' => e = .returned (.tuple #[.agg #[.int .u64 r1],.bool r2,.bool r3]) ∧ Below w.heap.size w w':=by
 have hu24:=Try.underlying24;have HB:=zA (Below.refl w.heap.size w);have H : (if a0_0 < 18446744073709551615 then (if a1 = (IntKind.u64.wrap (a0_0 + 1)) then (some (a1,true,true)) else (if a1 ≥ 1 then (some (a0_0,false,decide (a1 ≤ a0_0))) else (some (a0_0,false,false)))) else (if a1 ≥ 1 then (some (a0_0,false,decide (a1 ≤ a0_0))) else (some (a0_0,false,false)))) = some (r1,r2,r3):=h;clear h;by_cases c3 : a0_0 < 18446744073709551615
 ·rw [if_pos c3] at H;have c3b0 : decide (a0_0 < 18446744073709551615) = true:=decide_eq_true c3;clear c3;by_cases c4 : a1 = (IntKind.u64.wrap (a0_0 + 1))
  ·rw [if_pos c4] at H;have c4b0 : (a1 == (IntKind.u64.wrap (a0_0 + 1))) = true:=beq_iff_eq.mpr c4;have c4b1 : (a1 != (IntKind.u64.wrap (a0_0 + 1))) = false:=bne_eq_false_iff_eq.mpr c4;clear c4;simp only [Option.some.injEq,Prod.mk.injEq] at H;obtain ⟨rfl,rfl,rfl⟩:=H;go_enter Try.func9,Try.ntmps9
   go_wp2_with (first|((with_reducible refine gate_dst (N:=2) rfl ?_);refine zb (N:=2) (cs:=#[.int .u64 a0_0]) (t:=24) ?_;intro G101 hg w5 hbox hb;have K101:=zA (hbox);have GW101:=zN HB hg;have GE101:=zN HB hg;replace HB:=zS HB hb;clear hb hbox hg)|((with_reducible refine gate_dst (N:=4) rfl ?_);refine zb (N:=4) (cs:=#[.int .u64 0]) (t:=24) ?_;intro G102 hg w6 hbox hb;have K102:=zA (hbox);have GW102:=zN HB hg;have GE102:=zN HB hg;replace HB:=zS HB hb;have NB101_102:=zL K101 hg;have NB102_101:=zG K101 hg;replace K101:=zB K101 hb;clear hb hbox hg;have:=NB101_102.1;have:=NB102_101.1;have hcz8_0 : w6.cell? ⟨G101,0,none⟩ = some (.int .u64 a0_0):=zk K101 0;have hfz8_0:=bF K101.1 0;have hcz9_0 : w6.cell? ⟨G102,0,none⟩ = some (.int .u64 0):=zk K102 0;have hfz9_0:=bF K102.1 0))
   refine bodyPost_ret (results_ctt rfl _ _ G102 24 #[.int .u64 a1] (0,0) _ rfl (zF K102) Try.underlying24 rfl (by kernel_rfl)) rfl ?_;exact ⟨zE,zH HB⟩
  ·rw [if_neg c4] at H;have c4b0 : (a1 == (IntKind.u64.wrap (a0_0 + 1))) = false:=beq_eq_false_iff_ne.mpr c4;have c4b1 : (a1 != (IntKind.u64.wrap (a0_0 + 1))) = true:=bne_iff_ne.mpr c4;by_cases c10 : a1 ≥ 1
   ·rw [if_pos c10] at H;have c10b0 : decide (1 ≤ a1) = true:=decide_eq_true c10;clear c10;simp only [Option.some.injEq,Prod.mk.injEq] at H;obtain ⟨rfl,rfl,rfl⟩:=H;go_enter Try.func9,Try.ntmps9
    try go_wp2_with (first|((with_reducible refine gate_dst (N:=2) rfl ?_);refine zb (N:=2) (cs:=#[.int .u64 a0_0]) (t:=24) ?_;intro G101 hg w11 hbox hb;have K101:=zA (hbox);have GW101:=zN HB hg;have GE101:=zN HB hg;replace HB:=zS HB hb;clear hb hbox hg)|((with_reducible refine gate_dst (N:=4) rfl ?_);refine zb (N:=4) (cs:=#[.int .u64 0]) (t:=24) ?_;intro G102 hg w12 hbox hb;have K102:=zA (hbox);have GW102:=zN HB hg;have GE102:=zN HB hg;replace HB:=zS HB hb;have NB101_102:=zL K101 hg;have NB102_101:=zG K101 hg;replace K101:=zB K101 hb;clear hb hbox hg;have:=NB101_102.1;have:=NB102_101.1;have hcz14_0 : w12.cell? ⟨G101,0,none⟩ = some (.int .u64 a0_0):=zk K101 0;have hfz14_0:=bF K101.1 0))
    replace K101:=zA (bD K101.1);replace K102:=zA (bD K102.1);replace HB:=zA (bw1 HB.1);refine start_ (n:=12) (S:=fun w' => w'.cell? ⟨G101,0,none⟩ = some (.int .u64 a0_0)) (ds:=[]) #[F,F,F,F,F,F,F,F,F,F,F,F] (by kernel_rfl) rfl rfl (zk K101 0) (fun hHeld => ?_);refine with_tabW delta_Take.tab3 delta_Take.bits3 (fun HT_ HW_ => ?_);generalize w12.drew = w15 at K101 K102 HB hHeld ⊢;refine pz 1 20 #[F,T,F,F,F,F,F,F,F,F,F,F] HT_.1 ?_;refine pz 2 21 #[F,T,T,F,F,F,F,F,F,F,F,F] HT_.1 ?_;refine pz 3 22 #[F,T,T,T,F,F,F,F,F,F,F,F] HT_.1 ?_;refine pz 4 23 #[F,T,T,T,T,F,F,F,F,F,F,F] HT_.1 ?_;refine pz 5 24 #[F,T,T,T,T,T,F,F,F,F,F,F] HT_.1 ?_;refine take_ (i:=0) (N:=some 19) (v:=?_) (a':=?_) #[T,T,T,T,T,T,F,F,F,F,F,F] rfl rfl (take_ofW HT_.out HW_.out (by kernel_rfl)) (fun _ _ _ h => h) (Or.inl ⟨by rfl,?_⟩) hHeld ?_ ?_;rotate_left
    ·intro w' s0;go_simp
     with_reducible rfl
    rotate_left
    ·simp only [Act.put,xA,xB,xC,i64_w,i32_w];rfl
    refine take_ (i:=6) (N:=some 25) (v:=?_) (a':=?_) #[T,T,T,T,T,T,T,F,F,F,F,F] rfl rfl (take_ofW HT_.out HW_.out (by kernel_rfl)) (fun _ _ _ h => h) (Or.inl ⟨by rfl,?_⟩) hHeld ?_ ?_;rotate_left
    ·intro w' s0;go_simp
     with_reducible rfl
    rotate_left
    ·simp only [Act.put,xA,xB,xC,i64_w,i32_w];rfl
    refine pz 7 26 #[T,T,T,T,T,T,T,T,F,F,F,F] HT_.1 ?_;refine pz 8 27 #[T,T,T,T,T,T,T,T,T,F,F,F] HT_.1 ?_;refine one_ (i:=9) (N:=none) #[T,T,T,T,T,T,T,T,T,T,F,F] rfl rfl (one_of HT_.out (by kernel_rfl)) (by decide) (fun K hK => ?_);have hs16 : w15.cell? ⟨G102,0,none⟩ = some (.int .u64 0):=zk K102 0;have hfs16:=bF K102.1 0;have:=NB101_102.1;have:=NB102_101.1;refine sz ?_;refine hK.out _ _ (((cF (p:=⟨G102,_,none⟩) NB101_102.1 _).trans (hHeld))) (fun hHeld => ?_);clear hK K;refine pz 10 5 #[T,T,T,T,T,T,T,T,T,T,T,F] HT_.1 ?_;refine pz 11 6 #[T,T,T,T,T,T,T,T,T,T,T,T] HT_.1 ?_;refine done_ (done_of HT_.out (by kernel_rfl)) ?_;try go_wp2
    refine bodyPost_ret (results_ctt rfl _ _ G102 24 #[.int .u64 a0_0] (0,0) _ rfl (zF K102) Try.underlying24 rfl (by kernel_rfl)) rfl ?_;exact ⟨zE,zH HB⟩
   ·rw [if_neg c10] at H;have c10b0 : decide (1 ≤ a1) = false:=decide_eq_false c10;clear c10;simp only [Option.some.injEq,Prod.mk.injEq] at H;obtain ⟨rfl,rfl,rfl⟩:=H;go_enter Try.func9,Try.ntmps9
    try go_wp2_with (first|((with_reducible refine gate_dst (N:=2) rfl ?_);refine zb (N:=2) (cs:=#[.int .u64 a0_0]) (t:=24) ?_;intro G101 hg w17 hbox hb;have K101:=zA (hbox);have GW101:=zN HB hg;have GE101:=zN HB hg;replace HB:=zS HB hb;clear hb hbox hg)|((with_reducible refine gate_dst (N:=4) rfl ?_);refine zb (N:=4) (cs:=#[.int .u64 0]) (t:=24) ?_;intro G102 hg w18 hbox hb;have K102:=zA (hbox);have GW102:=zN HB hg;have GE102:=zN HB hg;replace HB:=zS HB hb;have NB101_102:=zL K101 hg;have NB102_101:=zG K101 hg;replace K101:=zB K101 hb;clear hb hbox hg;have:=NB101_102.1;have:=NB102_101.1;have hcz20_0 : w18.cell? ⟨G101,0,none⟩ = some (.int .u64 a0_0):=zk K101 0;have hfz20_0:=bF K101.1 0))
    replace K101:=zA (bD K101.1);replace K102:=zA (bD K102.1);replace HB:=zA (bw1 HB.1);refine start_ (n:=12) (S:=fun w' => w'.cell? ⟨G101,0,none⟩ = some (.int .u64 a0_0)) (ds:=[]) #[F,F,F,F,F,F,F,F,F,F,F,F] (by kernel_rfl) rfl rfl (zk K101 0) (fun hHeld => ?_);refine with_tabW delta_Take.tab3 delta_Take.bits3 (fun HT_ HW_ => ?_);generalize w18.drew = w21 at K101 K102 HB hHeld ⊢;refine pz 1 20 #[F,T,F,F,F,F,F,F,F,F,F,F] HT_.1 ?_;refine pz 2 21 #[F,T,T,F,F,F,F,F,F,F,F,F] HT_.1 ?_;refine pz 3 22 #[F,T,T,T,F,F,F,F,F,F,F,F] HT_.1 ?_;refine pu 4 23 #[F,T,T,T,T,F,F,F,F,F,F,F] HT_.1 ?_;refine pu 5 24 #[F,T,T,T,T,T,F,F,F,F,F,F] HT_.1 ?_;refine pu 6 25 #[F,T,T,T,T,T,T,F,F,F,F,F] HT_.1 ?_;refine pu 7 26 #[F,T,T,T,T,T,T,T,F,F,F,F] HT_.1 ?_;refine pz 8 27 #[F,T,T,T,T,T,T,T,T,F,F,F] HT_.1 ?_;refine take_ (i:=0) (N:=some 19) (v:=?_) (a':=?_) #[T,T,T,T,T,T,T,T,T,F,F,F] rfl rfl (take_ofW HT_.out HW_.out (by kernel_rfl)) (fun _ _ _ h => h) (Or.inl ⟨by rfl,?_⟩) hHeld ?_ ?_;rotate_left
    ·intro w' s0;go_simp
     with_reducible rfl
    rotate_left
    ·simp only [Act.put,xA,xB,xC,i64_w,i32_w];rfl
    refine one_ (i:=9) (N:=none) #[T,T,T,T,T,T,T,T,T,T,F,F] rfl rfl (one_of HT_.out (by kernel_rfl)) (by decide) (fun K hK => ?_);have hs22 : w21.cell? ⟨G102,0,none⟩ = some (.int .u64 0):=zk K102 0;have hfs22:=bF K102.1 0;have:=NB101_102.1;have:=NB102_101.1;refine sz ?_;refine hK.out _ _ (((cF (p:=⟨G102,_,none⟩) NB101_102.1 _).trans (hHeld))) (fun hHeld => ?_);clear hK K;refine pz 10 5 #[T,T,T,T,T,T,T,T,T,T,T,F] HT_.1 ?_;refine pz 11 6 #[T,T,T,T,T,T,T,T,T,T,T,T] HT_.1 ?_;refine done_ (done_of HT_.out (by kernel_rfl)) ?_;try go_wp2
    refine bodyPost_ret (results_ctt rfl _ _ G102 24 #[.int .u64 a0_0] (0,0) _ rfl (zF K102) Try.underlying24 rfl (by kernel_rfl)) rfl ?_;exact ⟨zE,zH HB⟩
 ·rw [if_neg c3] at H;have c3b0 : decide (a0_0 < 18446744073709551615) = false:=decide_eq_false c3;clear c3;by_cases c23 : a1 ≥ 1
  ·rw [if_pos c23] at H;have c23b0 : decide (1 ≤ a1) = true:=decide_eq_true c23;clear c23;simp only [Option.some.injEq,Prod.mk.injEq] at H;obtain ⟨rfl,rfl,rfl⟩:=H;go_enter Try.func9,Try.ntmps9
   try go_wp2_with (first|((with_reducible refine gate_dst (N:=2) rfl ?_);refine zb (N:=2) (cs:=#[.int .u64 a0_0]) (t:=24) ?_;intro G101 hg w24 hbox hb;have K101:=zA (hbox);have GW101:=zN HB hg;have GE101:=zN HB hg;replace HB:=zS HB hb;clear hb hbox hg)|((with_reducible refine gate_dst (N:=4) rfl ?_);refine zb (N:=4) (cs:=#[.int .u64 0]) (t:=24) ?_;intro G102 hg w25 hbox hb;have K102:=zA (hbox);have GW102:=zN HB hg;have GE102:=zN HB hg;replace HB:=zS HB hb;have NB101_102:=zL K101 hg;have NB102_101:=zG K101 hg;replace K101:=zB K101 hb;clear hb hbox hg;have:=NB101_102.1;have:=NB102_101.1;have hcz27_0 : w25.cell? ⟨G101,0,none⟩ = some (.int .u64 a0_0):=zk K101 0;have hfz27_0:=bF K101.1 0))
   replace K101:=zA (bD K101.1);replace K102:=zA (bD K102.1);replace HB:=zA (bw1 HB.1);refine start_ (n:=12) (S:=fun w' => w'.cell? ⟨G101,0,none⟩ = some (.int .u64 a0_0)) (ds:=[]) #[F,F,F,F,F,F,F,F,F,F,F,F] (by kernel_rfl) rfl rfl (zk K101 0) (fun hHeld => ?_);refine with_tabW delta_Take.tab3 delta_Take.bits3 (fun HT_ HW_ => ?_);generalize w25.drew = w28 at K101 K102 HB hHeld ⊢;refine pz 1 20 #[F,T,F,F,F,F,F,F,F,F,F,F] HT_.1 ?_;refine pz 2 21 #[F,T,T,F,F,F,F,F,F,F,F,F] HT_.1 ?_;refine pz 3 22 #[F,T,T,T,F,F,F,F,F,F,F,F] HT_.1 ?_;refine pz 4 23 #[F,T,T,T,T,F,F,F,F,F,F,F] HT_.1 ?_;refine pz 5 24 #[F,T,T,T,T,T,F,F,F,F,F,F] HT_.1 ?_;refine take_ (i:=0) (N:=some 19) (v:=?_) (a':=?_) #[T,T,T,T,T,T,F,F,F,F,F,F] rfl rfl (take_ofW HT_.out HW_.out (by kernel_rfl)) (fun _ _ _ h => h) (Or.inl ⟨by rfl,?_⟩) hHeld ?_ ?_;rotate_left
   ·intro w' s0;go_simp
    with_reducible rfl
   rotate_left
   ·simp only [Act.put,xA,xB,xC,i64_w,i32_w];rfl
   refine take_ (i:=6) (N:=some 25) (v:=?_) (a':=?_) #[T,T,T,T,T,T,T,F,F,F,F,F] rfl rfl (take_ofW HT_.out HW_.out (by kernel_rfl)) (fun _ _ _ h => h) (Or.inl ⟨by rfl,?_⟩) hHeld ?_ ?_;rotate_left
   ·intro w' s0;go_simp
    with_reducible rfl
   rotate_left
   ·simp only [Act.put,xA,xB,xC,i64_w,i32_w];rfl
   refine pz 7 26 #[T,T,T,T,T,T,T,T,F,F,F,F] HT_.1 ?_;refine pz 8 27 #[T,T,T,T,T,T,T,T,T,F,F,F] HT_.1 ?_;refine one_ (i:=9) (N:=none) #[T,T,T,T,T,T,T,T,T,T,F,F] rfl rfl (one_of HT_.out (by kernel_rfl)) (by decide) (fun K hK => ?_);have hs29 : w28.cell? ⟨G102,0,none⟩ = some (.int .u64 0):=zk K102 0;have hfs29:=bF K102.1 0;have:=NB101_102.1;have:=NB102_101.1;refine sz ?_;refine hK.out _ _ (((cF (p:=⟨G102,_,none⟩) NB101_102.1 _).trans (hHeld))) (fun hHeld => ?_);clear hK K;refine pz 10 5 #[T,T,T,T,T,T,T,T,T,T,T,F] HT_.1 ?_;refine pz 11 6 #[T,T,T,T,T,T,T,T,T,T,T,T] HT_.1 ?_;refine done_ (done_of HT_.out (by kernel_rfl)) ?_;try go_wp2
   refine bodyPost_ret (results_ctt rfl _ _ G102 24 #[.int .u64 a0_0] (0,0) _ rfl (zF K102) Try.underlying24 rfl (by kernel_rfl)) rfl ?_;exact ⟨zE,zH HB⟩
  ·rw [if_neg c23] at H;have c23b0 : decide (1 ≤ a1) = false:=decide_eq_false c23;clear c23;simp only [Option.some.injEq,Prod.mk.injEq] at H;obtain ⟨rfl,rfl,rfl⟩:=H;go_enter Try.func9,Try.ntmps9
   try go_wp2_with (first|((with_reducible refine gate_dst (N:=2) rfl ?_);refine zb (N:=2) (cs:=#[.int .u64 a0_0]) (t:=24) ?_;intro G101 hg w30 hbox hb;have K101:=zA (hbox);have GW101:=zN HB hg;have GE101:=zN HB hg;replace HB:=zS HB hb;clear hb hbox hg)|((with_reducible refine gate_dst (N:=4) rfl ?_);refine zb (N:=4) (cs:=#[.int .u64 0]) (t:=24) ?_;intro G102 hg w31 hbox hb;have K102:=zA (hbox);have GW102:=zN HB hg;have GE102:=zN HB hg;replace HB:=zS HB hb;have NB101_102:=zL K101 hg;have NB102_101:=zG K101 hg;replace K101:=zB K101 hb;clear hb hbox hg;have:=NB101_102.1;have:=NB102_101.1;have hcz33_0 : w31.cell? ⟨G101,0,none⟩ = some (.int .u64 a0_0):=zk K101 0;have hfz33_0:=bF K101.1 0))
   replace K101:=zA (bD K101.1);replace K102:=zA (bD K102.1);replace HB:=zA (bw1 HB.1);refine start_ (n:=12) (S:=fun w' => w'.cell? ⟨G101,0,none⟩ = some (.int .u64 a0_0)) (ds:=[]) #[F,F,F,F,F,F,F,F,F,F,F,F] (by kernel_rfl) rfl rfl (zk K101 0) (fun hHeld => ?_);refine with_tabW delta_Take.tab3 delta_Take.bits3 (fun HT_ HW_ => ?_);generalize w31.drew = w34 at K101 K102 HB hHeld ⊢;refine pz 1 20 #[F,T,F,F,F,F,F,F,F,F,F,F] HT_.1 ?_;refine pz 2 21 #[F,T,T,F,F,F,F,F,F,F,F,F] HT_.1 ?_;refine pz 3 22 #[F,T,T,T,F,F,F,F,F,F,F,F] HT_.1 ?_;refine pu 4 23 #[F,T,T,T,T,F,F,F,F,F,F,F] HT_.1 ?_;refine pu 5 24 #[F,T,T,T,T,T,F,F,F,F,F,F] HT_.1 ?_;refine pu 6 25 #[F,T,T,T,T,T,T,F,F,F,F,F] HT_.1 ?_;refine pu 7 26 #[F,T,T,T,T,T,T,T,F,F,F,F] HT_.1 ?_;refine pz 8 27 #[F,T,T,T,T,T,T,T,T,F,F,F] HT_.1 ?_;refine take_ (i:=0) (N:=some 19) (v:=?_) (a':=?_) #[T,T,T,T,T,T,T,T,T,F,F,F] rfl rfl (take_ofW HT_.out HW_.out (by kernel_rfl)) (fun _ _ _ h => h) (Or.inl ⟨by rfl,?_⟩) hHeld ?_ ?_;rotate_left
   ·intro w' s0;go_simp
    with_reducible rfl
   rotate_left
   ·simp only [Act.put,xA,xB,xC,i64_w,i32_w];rfl
   refine one_ (i:=9) (N:=none) #[T,T,T,T,T,T,T,T,T,T,F,F] rfl rfl (one_of HT_.out (by kernel_rfl)) (by decide) (fun K hK => ?_);have hs35 : w34.cell? ⟨G102,0,none⟩ = some (.int .u64 0):=zk K102 0;have hfs35:=bF K102.1 0;have:=NB101_102.1;have:=NB102_101.1;refine sz ?_;refine hK.out _ _ (((cF (p:=⟨G102,_,none⟩) NB101_102.1 _).trans (hHeld))) (fun hHeld => ?_);clear hK K;refine pz 10 5 #[T,T,T,T,T,T,T,T,T,T,T,F] HT_.1 ?_;refine pz 11 6 #[T,T,T,T,T,T,T,T,T,T,T,T] HT_.1 ?_;refine done_ (done_of HT_.out (by kernel_rfl)) ?_;try go_wp2
   refine bodyPost_ret (results_ctt rfl _ _ G102 24 #[.int .u64 a0_0] (0,0) _ rfl (zF K102) Try.underlying24 rfl (by kernel_rfl)) rfl ?_;exact ⟨zE,zH HB⟩

/-! ### message_none: function 54 -/
def message_none.f (a0_0 : Int) (a0_1 : Int) (a0_2 : Int) (a0_3 : Int) (a0_4 : Int) (a0_5 : Int) (a0_6 : Int) (a0_7 : Int) (a0_8 : ByteArray) (a0_9 : Int) (a0_10 : Int) (a0_11 : ByteArray) : Option (Bool) := some (a0_0 == 0 && (a0_1 == 0 && (a0_2 == 0 && (a0_3 == 0 && (a0_4 == 0 && (a0_5 == 0 && (a0_6 == 0 && (a0_7 == 0 && (a0_8.toList == ([] : List UInt8) && (a0_9 == 0 && (a0_10 == 0 && (a0_11.toList == ([] : List UInt8)))))))))))))
set_option maxHeartbeats 8000000 in
set_option maxRecDepth 100000 in
theorem message_none.calls (a0_0 : Int) (a0_1 : Int) (a0_2 : Int) (a0_3 : Int) (a0_4 : Int) (a0_5 : Int) (a0_6 : Int) (a0_7 : Int) (a0_8 : ByteArray) (a0_9 : Int) (a0_10 : Int) (a0_11 : ByteArray) (r : Bool) (w : World) (h : message_none.f a0_0 a0_1 a0_2 a0_3 a0_4 a0_5 a0_6 a0_7 a0_8 a0_9 a0_10 a0_11 = some r) :
  Calls Try.prog 54 #[.agg #[.int .i64 a0_0,.int .i64 a0_1,.int .i64 a0_2,.int .i64 a0_3,.int .i64 a0_4,.int .i64 a0_5,.int .u64 a0_6,.int .i64 a0_7,.string a0_8,.int .i64 a0_9,.int .i64 a0_10,.string a0_11]] w fun e w' => e = .returned (.bool r) ∧ Below w.heap.size w w':=by
 have hu76:=Try.underlying76;have HB:=zA (Below.refl w.heap.size w);have H : (some (a0_0 == 0 && (a0_1 == 0 && (a0_2 == 0 && (a0_3 == 0 && (a0_4 == 0 && (a0_5 == 0 && (a0_6 == 0 && (a0_7 == 0 && (a0_8.toList == ([] : List UInt8) && (a0_9 == 0 && (a0_10 == 0 && (a0_11.toList == ([] : List UInt8)))))))))))))) = some r:=h;clear h;obtain rfl:=Option.some.inj H;go_enter Try.func54,Try.ntmps54
 go_wp2_with (first|((with_reducible refine gate_dst (N:=1) rfl ?_);refine zb (N:=1) (cs:=#[.int .i64 a0_0,.int .i64 a0_1,.int .i64 a0_2,.int .i64 a0_3,.int .i64 a0_4,.int .i64 a0_5,.int .u64 a0_6,.int .i64 a0_7,.string a0_8,.int .i64 a0_9,.int .i64 a0_10,.string a0_11]) (t:=76) ?_;intro G103 hg w2 hbox hb;have K103:=zA (hbox);have GW103:=zN HB hg;have GE103:=zN HB hg;replace HB:=zS HB hb;clear hb hbox hg;obtain ⟨_,_,_,_,_,_,_,_,_,_,_,_,_,_,_,_,_,_,_,_,_,_,_,_⟩:=zc12 K103))
 go_ret
 exact ⟨zE,zH HB⟩

/-! ### math_Abs: function 51 -/
def math_Abs.f (a0 : Nat) : Option (Nat) := some (ffrom (Go.bits .andNot .u64 (fbits a0) 9223372036854775808))
set_option maxHeartbeats 8000000 in
set_option maxRecDepth 100000 in
theorem math_Abs.calls (a0 : Nat) (r : Nat) (w : World) (h : math_Abs.f a0 = some r) :
  Calls Try.prog 51 #[.float .f64 a0] w fun e w' => e = .returned (.float .f64 r) ∧ Drawn0 w w':=by
 have H : (some (ffrom (Go.bits .andNot .u64 (fbits a0) 9223372036854775808))) = some r:=h;clear h;obtain rfl:=Option.some.inj H;go_enter Try.func51,Try.ntmps51
 go_wp2
 go_ret
 exact ⟨by first|rfl|(simp;done)|(simp [*];done),by repeat (first|exact Drawn0.refl _|apply Drawn0.step)⟩

/-! ### math_IsInf: function 38 -/
def math_IsInf.f (a0 : Nat) (a1 : Int) : Option (Bool) := if a1 = 0 then ((math_Abs.f a0).bind fun t104 => (some (flt 9218868437227405311 t104))) else (if a1 < 0 then (some (flt 9218868437227405311 (fneg a0))) else (some (flt 9218868437227405311 a0)))
set_option maxHeartbeats 8000000 in
set_option maxRecDepth 100000 in
theorem math_IsInf.calls (a0 : Nat) (a1 : Int) (r : Bool) (w : World) (h : math_IsInf.f a0 a1 = some r) :
  Calls Try.prog 38 #[.float .f64 a0,.int .i64 a1] w fun e w' => e = .returned (.bool r) ∧ Drawn0 w w':=by
 have H : (if a1 = 0 then ((math_Abs.f a0).bind fun t104 => (some (flt 9218868437227405311 t104))) else (if a1 < 0 then (some (flt 9218868437227405311 (fneg a0))) else (some (flt 9218868437227405311 a0)))) = some r:=h;clear h;by_cases c3 : a1 = 0
 ·rw [if_pos c3] at H;have c3b0 : (a1 == 0) = true:=beq_iff_eq.mpr c3;have c3b1 : (a1 != 0) = false:=bne_eq_false_iff_eq.mpr c3;clear c3;replace H:=Option.bind_eq_some_iff.mp H;obtain ⟨t104,A40,H⟩:=H;(try dsimp only at H);have A4:=zA A40;clear A40;obtain rfl:=Option.some.inj H;go_enter Try.func38,Try.ntmps38
  go_wp2_with (first|((with_reducible refine gate_callee (f:=51) rfl ?_);refine zg (some 8) Try.func51 #[.float .f64 a0] ?_;(with_reducible refine (math_Abs.calls a0 t104 _ A4.out).mono ?_);rintro e w' ⟨rfl,⟨nd,rfl⟩⟩;refine ⟨_,rfl,?_⟩))
  go_ret
  exact ⟨by first|rfl|(simp;done)|(simp [*];done),by repeat (first|exact Drawn0.refl _|apply Drawn0.step)⟩
 ·rw [if_neg c3] at H;have c3b0 : (a1 == 0) = false:=beq_eq_false_iff_ne.mpr c3;have c3b1 : (a1 != 0) = true:=bne_iff_ne.mpr c3;by_cases c5 : a1 < 0
  ·rw [if_pos c5] at H;have c5b0 : decide (a1 < 0) = true:=decide_eq_true c5;clear c5;obtain rfl:=Option.some.inj H;go_enter Try.func38,Try.ntmps38
   go_wp2
   go_ret
   exact ⟨by first|rfl|(simp;done)|(simp [*];done),by repeat (first|exact Drawn0.refl _|apply Drawn0.step)⟩
  ·rw [if_neg c5] at H;have c5b0 : decide (a1 < 0) = false:=decide_eq_false c5;clear c5;obtain rfl:=Option.some.inj H;go_enter Try.func38,Try.ntmps38
   go_wp2
   go_ret
   exact ⟨by first|rfl|(simp;done)|(simp [*];done),by repeat (first|exact Drawn0.refl _|apply Drawn0.step)⟩

/-! ### ident_CheckId: function 66 -/
def ident_CheckId.f (a0 : Int) : Option (Int) := if a0 < 1 then (some 20) else (if a0 > 2147483647 then (some 20) else (some 0))
set_option maxHeartbeats 8000000 in
set_option maxRecDepth 100000 in
theorem ident_CheckId.calls (a0 : Int) (r : Int) (w : World) (h : ident_CheckId.f a0 = some r) :
  Calls Try.prog 66 #[.int .i64 a0] w fun e w' => e = .returned (.int .i64 r) ∧ Drawn0 w w':=by
 have H : (if a0 < 1 then (some 20) else (if a0 > 2147483647 then (some 20) else (some 0))) = some r:=h;clear h;by_cases c2 : a0 < 1
 ·rw [if_pos c2] at H;have c2b0 : decide (a0 < 1) = true:=decide_eq_true c2;clear c2;obtain rfl:=Option.some.inj H;go_enter Try.func66,Try.ntmps66
  go_wp2
  go_ret
  exact ⟨by first|rfl|(simp;done)|(simp [*];done),by repeat (first|exact Drawn0.refl _|apply Drawn0.step)⟩
 ·rw [if_neg c2] at H;have c2b0 : decide (a0 < 1) = false:=decide_eq_false c2;clear c2;by_cases c3 : a0 > 2147483647
  ·rw [if_pos c3] at H;have c3b0 : decide (2147483647 < a0) = true:=decide_eq_true c3;clear c3;obtain rfl:=Option.some.inj H;go_enter Try.func66,Try.ntmps66
   go_wp2
   go_ret
   exact ⟨by first|rfl|(simp;done)|(simp [*];done),by repeat (first|exact Drawn0.refl _|apply Drawn0.step)⟩
  ·rw [if_neg c3] at H;have c3b0 : decide (2147483647 < a0) = false:=decide_eq_false c3;clear c3;obtain rfl:=Option.some.inj H;go_enter Try.func66,Try.ntmps66
   go_wp2
   go_ret
   exact ⟨by first|rfl|(simp;done)|(simp [*];done),by repeat (first|exact Drawn0.refl _|apply Drawn0.step)⟩

/-! ### message_number: function 61 -/
def message_number.f (a0 : Int) : Option (Bool) := (ident_CheckId.f a0).bind fun t105 => (some (t105 == 0))
set_option maxHeartbeats 8000000 in
set_option maxRecDepth 100000 in
theorem message_number.calls (a0 : Int) (r : Bool) (w : World) (h : message_number.f a0 = some r) :
  Calls Try.prog 61 #[.int .i64 a0] w fun e w' => e = .returned (.bool r) ∧ Drawn0 w w':=by
 have H : ((ident_CheckId.f a0).bind fun t105 => (some (t105 == 0))) = some r:=h;clear h;replace H:=Option.bind_eq_some_iff.mp H;obtain ⟨t105,A20,H⟩:=H;(try dsimp only at H);have A2:=zA A20;clear A20;obtain rfl:=Option.some.inj H;go_enter Try.func61,Try.ntmps61
 go_wp2_with (first|((with_reducible refine gate_callee (f:=66) rfl ?_);refine zg (some 4) Try.func66 #[.int .i64 a0] ?_;(with_reducible refine (ident_CheckId.calls a0 t105 _ A2.out).mono ?_);rintro e w' ⟨rfl,⟨nd,rfl⟩⟩;refine ⟨_,rfl,?_⟩))
 go_ret
 exact ⟨by first|rfl|(simp;done)|(simp [*];done),by repeat (first|exact Drawn0.refl _|apply Drawn0.step)⟩

/-! ### math_Copysign: function 72 -/
def math_Copysign.f (a0 : Nat) (a1 : Nat) : Option (Nat) := some (ffrom (Go.bits .or .u64 (Go.bits .andNot .u64 (fbits a0) 9223372036854775808) (Go.bits .and .u64 (fbits a1) 9223372036854775808)))
set_option maxHeartbeats 8000000 in
set_option maxRecDepth 100000 in
theorem math_Copysign.calls (a0 : Nat) (a1 : Nat) (r : Nat) (w : World) (h : math_Copysign.f a0 a1 = some r) :
  Calls Try.prog 72 #[.float .f64 a0,.float .f64 a1] w fun e w' => e = .returned (.float .f64 r) ∧ Drawn0 w w':=by
 have H : (some (ffrom (Go.bits .or .u64 (Go.bits .andNot .u64 (fbits a0) 9223372036854775808) (Go.bits .and .u64 (fbits a1) 9223372036854775808)))) = some r:=h;clear h;obtain rfl:=Option.some.inj H;go_enter Try.func72,Try.ntmps72
 go_wp2
 go_ret
 exact ⟨by first|rfl|(simp;done)|(simp [*];done),by repeat (first|exact Drawn0.refl _|apply Drawn0.step)⟩

/-! ### math_trunc: function 71 -/
def math_trunc.f (a0 : Nat) : Option (Nat) := (math_Abs.f a0).bind fun t106 => (if (flt t106 4607182418800017408) = true then ((math_Copysign.f 0 a0).bind fun t107 => (some t107)) else (if (IntKind.u64.wrap ((Go.bits .and .u64 ((fbits a0) / 4503599627370496) 2047) - 1023)) < 52 then (if 0 ≤ (IntKind.u64.wrap (52 - (IntKind.u64.wrap ((Go.bits .and .u64 ((fbits a0) / 4503599627370496) 2047) - 1023)))) then (some (ffrom (Go.bits .andNot .u64 (fbits a0) (IntKind.u64.wrap ((shl .u64 1 (IntKind.u64.wrap (52 - (IntKind.u64.wrap ((Go.bits .and .u64 ((fbits a0) / 4503599627370496) 2047) - 1023))))) - 1))))) else (none)) else (some (ffrom (fbits a0)))))
set_option maxHeartbeats 8000000 in
set_option maxRecDepth 100000 in
theorem math_trunc.calls (a0 : Nat) (r : Nat) (w : World) (h : math_trunc.f a0 = some r) :
  Calls Try.prog 71 #[.float .f64 a0] w fun e w' => e = .returned (.float .f64 r) ∧ Drawn0 w w':=by
 have H : ((math_Abs.f a0).bind fun t106 => (if (flt t106 4607182418800017408) = true then ((math_Copysign.f 0 a0).bind fun t107 => (some t107)) else (if (IntKind.u64.wrap ((Go.bits .and .u64 ((fbits a0) / 4503599627370496) 2047) - 1023)) < 52 then (if 0 ≤ (IntKind.u64.wrap (52 - (IntKind.u64.wrap ((Go.bits .and .u64 ((fbits a0) / 4503599627370496) 2047) - 1023)))) then (some (ffrom (Go.bits .andNot .u64 (fbits a0) (IntKind.u64.wrap ((shl .u64 1 (IntKind.u64.wrap (52 - (IntKind.u64.wrap ((Go.bits .and .u64 ((fbits a0) / 4503599627370496) 2047) - 1023))))) - 1))))) else (none)) else (some (ffrom (fbits a0)))))) = some r:=h;clear h;replace H:=Option.bind_eq_some_iff.mp H;obtain ⟨t106,A20,H⟩:=H;(try dsimp only at H);have A2:=zA A20;clear A20;by_cases c3 : (flt t106 4607182418800017408) = true
 ·rw [if_pos c3] at H;have c3b0 : (flt t106 4607182418800017408) = true:=c3;clear c3;replace H:=Option.bind_eq_some_iff.mp H;obtain ⟨t107,A40,H⟩:=H;(try dsimp only at H);have A4:=zA A40;clear A40;obtain rfl:=Option.some.inj H;go_enter Try.func71,Try.ntmps71
  go_wp2_with (first|((with_reducible refine gate_callee (f:=51) rfl ?_);refine zg (some 6) Try.func51 #[.float .f64 a0] ?_;(with_reducible refine (math_Abs.calls a0 t106 _ A2.out).mono ?_);rintro e w' ⟨rfl,⟨nd,rfl⟩⟩;refine ⟨_,rfl,?_⟩)|((with_reducible refine gate_callee (f:=72) rfl ?_);refine zg (some 9) Try.func72 #[.float .f64 0,.float .f64 a0] ?_;(with_reducible refine (math_Copysign.calls 0 a0 t107 _ A4.out).mono ?_);rintro e w' ⟨rfl,⟨nd,rfl⟩⟩;refine ⟨_,rfl,?_⟩))
  go_ret
  exact ⟨by first|rfl|(simp;done)|(simp [*];done),by repeat (first|exact Drawn0.refl _|apply Drawn0.step)⟩
 ·rw [if_neg c3] at H;have c3b0 : (flt t106 4607182418800017408) = false:=by simpa using c3
  clear c3;by_cases c5 : (IntKind.u64.wrap ((Go.bits .and .u64 ((fbits a0) / 4503599627370496) 2047) - 1023)) < 52
  ·rw [if_pos c5] at H;have c5b0 : decide ((IntKind.u64.wrap ((Go.bits .and .u64 ((fbits a0) / 4503599627370496) 2047) - 1023)) < 52) = true:=decide_eq_true c5;clear c5;obtain ⟨ji6,hji6⟩ : ∃ j_ : Int,(IntKind.u64.wrap (52 - (IntKind.u64.wrap ((Go.bits .and .u64 ((fbits a0) / 4503599627370496) 2047) - 1023)))) = j_:=⟨_,rfl⟩;replace H : (if 0 ≤ (ji6) then (some (ffrom (Go.bits .andNot .u64 (fbits a0) (IntKind.u64.wrap ((shl .u64 1 (ji6)) - 1))))) else (none)) = some r:=by first|(rw [hji6] at H;exact H)|(simp only [hji6] at H ⊢;exact H)
   (try rw [hji6] at A2);by_cases c7 : 0 ≤ (ji6)
   ·rw [if_pos c7] at H;have c7b0:=eq_true c7;have c7b1 : decide (0 ≤ (ji6)) = true:=decide_eq_true c7;clear c7;obtain ⟨ji8,hji8⟩ : ∃ j_ : Int,(shl .u64 1 (ji6)) = j_:=⟨_,rfl⟩;replace H : (some (ffrom (Go.bits .andNot .u64 (fbits a0) (IntKind.u64.wrap ((ji8) - 1))))) = some r:=by first|(rw [hji8] at H;exact H)|(simp only [hji8] at H ⊢;exact H)
    (try rw [hji8] at A2);have hji8_ : (IntKind.u64.wrap (1 * 2 ^ min (ji6).toNat 64)) = ji8:=hji8;have hji8z : (ji6) ≤ 64 → (IntKind.u64.wrap (1 * 2 ^ (ji6).toNat)) = ji8:=shl_small hji8;have hji8u : (IntKind.u64.wrap (2 ^ min (ji6).toNat 64)) = ji8:=by have h_:=hji8_;rw [Int.one_mul] at h_;exact h_
    have hji8v : (ji6) ≤ 64 → (IntKind.u64.wrap (2 ^ (ji6).toNat)) = ji8:=fun hle_ => by have h_:=hji8z hle_;rw [Int.one_mul] at h_;exact h_
    obtain rfl:=Option.some.inj H;go_enter Try.func71,Try.ntmps71
    go_wp2_with (first|((with_reducible refine gate_callee (f:=51) rfl ?_);refine zg (some 6) Try.func51 #[.float .f64 a0] ?_;(with_reducible refine (math_Abs.calls a0 t106 _ A2.out).mono ?_);rintro e w' ⟨rfl,⟨nd,rfl⟩⟩;refine ⟨_,rfl,?_⟩))
    go_ret
    exact ⟨by first|rfl|(simp;done)|(simp only [← hji6,← hji8] <;> (first|rfl|simp))|(simp [*];done),by repeat (first|exact Drawn0.refl _|apply Drawn0.step)⟩
   ·rw [if_neg c7] at H;exact absurd H (by simp)
  ·rw [if_neg c5] at H;have c5b0 : decide ((IntKind.u64.wrap ((Go.bits .and .u64 ((fbits a0) / 4503599627370496) 2047) - 1023)) < 52) = false:=decide_eq_false c5;clear c5;obtain rfl:=Option.some.inj H;go_enter Try.func71,Try.ntmps71
   go_wp2_with (first|((with_reducible refine gate_callee (f:=51) rfl ?_);refine zg (some 6) Try.func51 #[.float .f64 a0] ?_;(with_reducible refine (math_Abs.calls a0 t106 _ A2.out).mono ?_);rintro e w' ⟨rfl,⟨nd,rfl⟩⟩;refine ⟨_,rfl,?_⟩))
   go_ret
   exact ⟨by first|rfl|(simp;done)|(simp [*];done),by repeat (first|exact Drawn0.refl _|apply Drawn0.step)⟩

/-! ### math_Trunc: function 65 -/
def math_Trunc.f (a0 : Nat) : Option (Nat) := if (froundOk a0) = true then (some (fround .zero a0)) else (none)
set_option maxHeartbeats 8000000 in
set_option maxRecDepth 100000 in
theorem math_Trunc.calls (a0 : Nat) (r : Nat) (w : World) (h : math_Trunc.f a0 = some r) :
  Calls Try.prog 65 #[.float .f64 a0] w fun e w' => e = .returned (.float .f64 r) ∧ Drawn0 w w':=by
 have H : (if (froundOk a0) = true then (some (fround .zero a0)) else (none)) = some r:=h;clear h;by_cases c2 : (froundOk a0) = true
 ·rw [if_pos c2] at H;have c2b0:=eq_true c2;have c2b1 : decide ((froundOk a0) = true) = true:=decide_eq_true c2;clear c2;obtain rfl:=Option.some.inj H;go_enter Try.func65,Try.ntmps65
  go_wp2
  go_ret
  exact ⟨by first|rfl|(simp;done)|(simp [*];done),by repeat (first|exact Drawn0.refl _|apply Drawn0.step)⟩
 ·rw [if_neg c2] at H;exact absurd H (by simp)

/-! ### math_Signbit: function 67 -/
def math_Signbit.f (a0 : Nat) : Option (Bool) := some (decide ((wrap64 (fbits a0)) < 0))
set_option maxHeartbeats 8000000 in
set_option maxRecDepth 100000 in
theorem math_Signbit.calls (a0 : Nat) (r : Bool) (w : World) (h : math_Signbit.f a0 = some r) :
  Calls Try.prog 67 #[.float .f64 a0] w fun e w' => e = .returned (.bool r) ∧ Drawn0 w w':=by
 have H : (some (decide ((wrap64 (fbits a0)) < 0))) = some r:=h;clear h;obtain rfl:=Option.some.inj H;go_enter Try.func67,Try.ntmps67
 go_wp2
 go_ret
 exact ⟨by first|rfl|(simp;done)|(simp [*];done),by repeat (first|exact Drawn0.refl _|apply Drawn0.step)⟩

/-! ### math_IsNaN: function 68 -/
def math_IsNaN.f (a0 : Nat) : Option (Bool) := some (!(feq a0 a0))
set_option maxHeartbeats 8000000 in
set_option maxRecDepth 100000 in
theorem math_IsNaN.calls (a0 : Nat) (r : Bool) (w : World) (h : math_IsNaN.f a0 = some r) :
  Calls Try.prog 68 #[.float .f64 a0] w fun e w' => e = .returned (.bool r) ∧ Drawn0 w w':=by
 have H : (some (!(feq a0 a0))) = some r:=h;clear h;obtain rfl:=Option.some.inj H;go_enter Try.func68,Try.ntmps68
 go_wp2
 go_ret
 exact ⟨by first|rfl|(simp;done)|(simp [*];done),by repeat (first|exact Drawn0.refl _|apply Drawn0.step)⟩

/-! ### message_distance: function 62 -/
def message_distance.j0 : Nat → Nat → Bool → Option (Bool)
 | 0, _, _ => none
 | k + 1, x0, x8 => if x8 = true then (some false) else ((math_IsInf.f x0 1).bind fun t110 => (if t110 = true then (some true) else (if (flt x0 4742290407621132288) = true then (if (fmulOk x0 4616189618054758400) = true then ((math_Trunc.f (fmul x0 4616189618054758400)).bind fun t111 => (some (feq (fmul x0 4616189618054758400) t111))) else (none)) else (some false))))
def message_distance.f (k : Nat) (a0 : Nat) : Option (Bool) := (math_Signbit.f a0).bind fun t108 => (if t108 = true then (message_distance.j0 k a0 true) else ((math_IsNaN.f a0).bind fun t109 => (message_distance.j0 k a0 t109)))
theorem message_distance.mono_l : ∀ k, (∀ y0 y1, LeO (message_distance.j0 k y0 y1) (message_distance.j0 (k + 1) y0 y1))
 | 0 => fun _ _ r h => by simp [message_distance.j0] at h
 | k + 1 => by
  have ih0:=message_distance.mono_l k
  ·intro y0 y1
   unfold message_distance.j0
   repeat' first
   | (with_reducible exact ih0 _ _)
   | (with_reducible exact LeO.refl _)
   | (with_reducible exact LeO.none _)
   | (with_reducible refine LeO.ite ?_ ?_)
   | (with_reducible refine LeO.bind ?_ (fun _ => ?_))
   | exact ih0 _ _
   | exact LeO.none _
   | refine LeO.ite ?_ ?_
   | refine LeO.bind ?_ (fun _ => ?_)
theorem message_distance.mono : ∀ a0 k, LeO (message_distance.f k a0) (message_distance.f (k + 1) a0) := by
 intro a0 k
 have ih0:=message_distance.mono_l k
 unfold message_distance.f
 repeat' first
   | (with_reducible exact ih0 _ _)
   | (with_reducible exact LeO.refl _)
   | (with_reducible exact LeO.none _)
   | (with_reducible refine LeO.ite ?_ ?_)
   | (with_reducible refine LeO.bind ?_ (fun _ => ?_))
   | exact ih0 _ _
   | exact LeO.none _
   | refine LeO.ite ?_ ?_
   | refine LeO.bind ?_ (fun _ => ?_)
set_option maxHeartbeats 8000000 in
set_option maxRecDepth 100000 in
theorem message_distance.calls (k : Nat) (a0 : Nat) (r : Bool) (w : World) (h : message_distance.f k a0 = some r) :
  Calls Try.prog 62 #[.float .f64 a0] w fun e w' => e = .returned (.bool r) ∧ Drawn0 w w':=by
 have H : ((math_Signbit.f a0).bind fun t108 => (if t108 = true then (message_distance.j0 k a0 true) else ((math_IsNaN.f a0).bind fun t109 => (message_distance.j0 k a0 t109)))) = some r:=h;clear h;have HC2:=zA H;clear H;go_enter Try.func62,Try.ntmps62
 go_upto_region 1 with (fail)
 go_cut [8] (fun v8 wc => ∃ (kq : Nat) (x8_1 : Bool),v8 = .bool x8_1 ∧ Aside0 (message_distance.j0 kq a0 x8_1 = some r) ∧ Aside0 (kq ≤ k) ∧ Drawn0 w wc)
 case first =>
  have H:=HC2.out;clear HC2;replace H:=Option.bind_eq_some_iff.mp H;obtain ⟨t108,A30,H⟩:=H;(try dsimp only at H);have A3:=zA A30;clear A30;by_cases c4 : t108 = true
  ·subst c4;rw [if_pos rfl] at H;have H':=zA H;clear H;go_wp2_with (first|((with_reducible refine gate_callee (f:=67) rfl ?_);refine zg (some 4) Try.func67 #[.float .f64 a0] ?_;(with_reducible refine (math_Signbit.calls a0 true _ A3.out).mono ?_);rintro e w' ⟨rfl,⟨nd,rfl⟩⟩;refine ⟨_,rfl,?_⟩))
   go_meet
   case rel => exact ⟨_,(true),ze,H',⟨zo⟩,by repeat (first|exact Drawn0.refl _|apply Drawn0.step)⟩
  ·replace c4:=Bool.eq_false_iff.mpr c4;subst c4;rw [if_neg (show ¬ (false = true) by decide)] at H;replace H:=Option.bind_eq_some_iff.mp H;obtain ⟨t109,A50,H⟩:=H;(try dsimp only at H);have A5:=zA A50;clear A50;have H':=zA H;clear H;go_wp2_with (first|((with_reducible refine gate_callee (f:=67) rfl ?_);refine zg (some 4) Try.func67 #[.float .f64 a0] ?_;(with_reducible refine (math_Signbit.calls a0 false _ A3.out).mono ?_);rintro e w' ⟨rfl,⟨nd,rfl⟩⟩;refine ⟨_,rfl,?_⟩)|(go_at_call 68;(with_reducible refine (math_IsNaN.calls a0 t109 _ A5.out).mono ?_);rintro e w' ⟨rfl,⟨nd,rfl⟩⟩))
   go_meet
   case rel => exact ⟨_,(t109),ze,H',⟨zo⟩,by repeat (first|exact Drawn0.refl _|apply Drawn0.step)⟩
 case rest =>
  clear HC2;obtain ⟨kq,x8_1,rfl,HA,HJ1,⟨mc1,rfl⟩⟩:=hcut;cases kq with
  | zero => exact absurd HA.out (by simp [message_distance.j0])
  | succ kj1 =>
   have H:=HA.out;clear HA;simp only [message_distance.j0] at H;by_cases c6 : x8_1 = true
   ·subst c6;rw [if_pos rfl] at H;obtain rfl:=Option.some.inj H;go_wp2
    go_ret
    exact ⟨by first|rfl|(simp;done)|(simp [*];done),by repeat (first|exact Drawn0.refl _|apply Drawn0.step)⟩
   ·replace c6:=Bool.eq_false_iff.mpr c6;subst c6;rw [if_neg (show ¬ (false = true) by decide)] at H;replace H:=Option.bind_eq_some_iff.mp H;obtain ⟨t110,A70,H⟩:=H;(try dsimp only at H);have A7:=zA A70;clear A70;by_cases c8 : t110 = true
    ·subst c8;rw [if_pos rfl] at H;obtain rfl:=Option.some.inj H;go_wp2_with (first|((with_reducible refine gate_callee (f:=38) rfl ?_);refine zg (some 10) Try.func38 #[.float .f64 a0,.int .i64 1] ?_;(with_reducible refine (math_IsInf.calls a0 1 true _ A7.out).mono ?_);rintro e w' ⟨rfl,⟨nd,rfl⟩⟩;refine ⟨_,rfl,?_⟩))
     go_ret
     exact ⟨by first|rfl|(simp;done)|(simp [*];done),by repeat (first|exact Drawn0.refl _|apply Drawn0.step)⟩
    ·replace c8:=Bool.eq_false_iff.mpr c8;subst c8;rw [if_neg (show ¬ (false = true) by decide)] at H;by_cases c9 : (flt a0 4742290407621132288) = true
     ·rw [if_pos c9] at H;have c9b0 : (flt a0 4742290407621132288) = true:=c9;clear c9;by_cases c10 : (fmulOk a0 4616189618054758400) = true
      ·rw [if_pos c10] at H;have c10b0:=eq_true c10;have c10b1 : decide ((fmulOk a0 4616189618054758400) = true) = true:=decide_eq_true c10;clear c10;replace H:=Option.bind_eq_some_iff.mp H;obtain ⟨t111,A110,H⟩:=H;(try dsimp only at H);have A11:=zA A110;clear A110;obtain rfl:=Option.some.inj H;go_wp2_with (first|((with_reducible refine gate_callee (f:=38) rfl ?_);refine zg (some 10) Try.func38 #[.float .f64 a0,.int .i64 1] ?_;(with_reducible refine (math_IsInf.calls a0 1 false _ A7.out).mono ?_);rintro e w' ⟨rfl,⟨nd,rfl⟩⟩;refine ⟨_,rfl,?_⟩)|(go_at_call 65;(with_reducible refine (math_Trunc.calls (fmul a0 4616189618054758400) t111 _ A11.out).mono ?_);rintro e w' ⟨rfl,⟨nd,rfl⟩⟩))
       go_ret
       exact ⟨by first|rfl|(simp;done)|(simp [*];done),by repeat (first|exact Drawn0.refl _|apply Drawn0.step)⟩
      ·rw [if_neg c10] at H;exact absurd H (by simp)
     ·rw [if_neg c9] at H;have c9b0 : (flt a0 4742290407621132288) = false:=by simpa using c9
      clear c9;obtain rfl:=Option.some.inj H;go_wp2_with (first|((with_reducible refine gate_callee (f:=38) rfl ?_);refine zg (some 10) Try.func38 #[.float .f64 a0,.int .i64 1] ?_;(with_reducible refine (math_IsInf.calls a0 1 false _ A7.out).mono ?_);rintro e w' ⟨rfl,⟨nd,rfl⟩⟩;refine ⟨_,rfl,?_⟩))
      go_ret
      exact ⟨by first|rfl|(simp;done)|(simp [*];done),by repeat (first|exact Drawn0.refl _|apply Drawn0.step)⟩

end Go.Proofs.Ytpcgjdllgdkobaa.XA
