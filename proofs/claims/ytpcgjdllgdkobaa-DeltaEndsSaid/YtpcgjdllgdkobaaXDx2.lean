/- Go functions of this seat as Lean functions, with proofs that the calls come to them. (Written by xprint.py, a program of this session, over the kit's print.) -/
import Derived.Test.YtpcgjdllgdkobaaXDx0
namespace Go.Proofs.Ytpcgjdllgdkobaa.XD
open Go.RowKit Go.Proofs.YtpcgjdllgdkobaaW.PrintWords Go.Proofs.YtpcgjdllgdkobaaW.PrintLast Go.Proofs.YtpcgjdllgdkobaaW.PrintMore
attribute [local go_sem] max2_int min2_int max_two min_two max_three min_three max_four min_four   -- for this text's walks alone
set_option linter.unusedVariables false
set_option linter.unusedSimpArgs false
open List renaming setIfInBounds_toArray → xA, set_cons_zero → xB, set_cons_succ → xC
open Go.Proofs.YtpcgjdllgdkobaaW.PrintWords renaming blk_drewN → bN, blk_drew → bD, blk_alloc → bA, below_set → bS, blk_frozen → bF, blk_cell → bC, cell_far → cF, blk_far → bZ, blk_below → bB, pw_below_drewN → bwN, below_drew1 → bw1, below_alloc → bwA
open Go.Proofs.YtpcgjdllgdkobaaW.PrintZ
open Bool renaming true → T,false → F

/-! ### delta_Take: function 9 -/
def delta_Take.f (a0_0 : Int) (a1 : Int) : Option (Int × Bool × Bool) := if a0_0 < 18446744073709551615 then (if a1 = (IntKind.u64.wrap (a0_0 + 1)) then (some (a1, true, true)) else (if a1 ≥ 1 then (some (a0_0, false, decide (a1 ≤ a0_0))) else (some (a0_0, false, false)))) else (if a1 ≥ 1 then (some (a0_0, false, decide (a1 ≤ a0_0))) else (some (a0_0, false, false)))
def delta_Take.T3 : Bool × List (List Nat × List Nat) := (true, [([], []), ([], []), ([1], [1]), ([2], [2]), ([3], [3]), ([3], [3]), ([5, 3], [3, 5]), ([4, 6, 3], [3, 4, 6]), ([3, 7], [3, 7]), ([0, 3, 0], [0]), ([9, 0, 9], []), ([8, 10, 0, 1, 2, 3, 4, 5, 6, 7, 8, 9, 10], [8])])
def delta_Take.B3 : List Nat := [0, 0, 2, 6, 14, 14, 46, 126, 254, 15, 527, 2047]
theorem delta_Take.tab3 : rtab .any (opsOf Try.f9 3) = delta_Take.T3 := by kernel_rfl
theorem delta_Take.bits3 : waitsOk delta_Take.T3.2 delta_Take.B3 = true := by kernel_rfl
set_option maxHeartbeats 8000000 in
set_option maxRecDepth 100000 in
theorem delta_Take.calls (a0_0 : Int) (a1 : Int) (r1 : Int) (r2 : Bool) (r3 : Bool) (w : World) (h : delta_Take.f a0_0 a1 = some (r1, r2, r3)) :
  Calls Try.prog 9 #[.agg #[.int .u64 a0_0],.int .u64 a1] w fun e w' => e = .returned (.tuple #[.agg #[.int .u64 r1],.bool r2,.bool r3]) ∧ Below w.heap.size w w':=by
 have hu24:=Try.underlying24
 have HB:=zA (Below.refl w.heap.size w)
 have H : (if a0_0 < 18446744073709551615 then (if a1 = (IntKind.u64.wrap (a0_0 + 1)) then (some (a1,true,true)) else (if a1 ≥ 1 then (some (a0_0,false,decide (a1 ≤ a0_0))) else (some (a0_0,false,false)))) else (if a1 ≥ 1 then (some (a0_0,false,decide (a1 ≤ a0_0))) else (some (a0_0,false,false)))) = some (r1,r2,r3):=h
 clear h
 by_cases c3 : a0_0 < 18446744073709551615
 ·rw [if_pos c3] at H
  have c3b0 : decide (a0_0 < 18446744073709551615) = true:=decide_eq_true c3
  clear c3
  by_cases c4 : a1 = (IntKind.u64.wrap (a0_0 + 1))
  ·rw [if_pos c4] at H
   have c4b0 : (a1 == (IntKind.u64.wrap (a0_0 + 1))) = true:=beq_iff_eq.mpr c4
   have c4b1 : (a1 != (IntKind.u64.wrap (a0_0 + 1))) = false:=bne_eq_false_iff_eq.mpr c4
   clear c4
   simp only [Option.some.injEq,Prod.mk.injEq] at H
   obtain ⟨rfl,rfl,rfl⟩:=H
   go_enter Try.func9,Try.ntmps9
   go_wp2_with (first|((with_reducible refine gate_dst (N:=2) rfl ?_);refine zb (N:=2) (cs:=#[.int .u64 a0_0]) (t:=24) ?_;intro G101 hg w5 hbox hb;have K101:=zA (hbox);have GW101:=zN HB hg;have GE101:=zN HB hg;replace HB:=zS HB hb;clear hb hbox hg)|((with_reducible refine gate_dst (N:=4) rfl ?_);refine zb (N:=4) (cs:=#[.int .u64 0]) (t:=24) ?_;intro G102 hg w6 hbox hb;have K102:=zA (hbox);have GW102:=zN HB hg;have GE102:=zN HB hg;replace HB:=zS HB hb;have NB101_102:=zL K101 hg;have NB102_101:=zG K101 hg;replace K101:=zB K101 hb;clear hb hbox hg;have:=NB101_102.1;have:=NB102_101.1;have hcz8_0 : w6.cell? ⟨G101,0,none⟩ = some (.int .u64 a0_0):=zk K101 0;have hfz8_0:=bF K101.1 0;have hcz9_0 : w6.cell? ⟨G102,0,none⟩ = some (.int .u64 0):=zk K102 0;have hfz9_0:=bF K102.1 0))
   refine bodyPost_ret (results_ctt rfl _ _ G102 24 #[.int .u64 a1] (0,0) _ rfl (zF K102) Try.underlying24 rfl (by kernel_rfl)) rfl ?_
   exact ⟨zE,zH HB⟩
  ·rw [if_neg c4] at H
   have c4b0 : (a1 == (IntKind.u64.wrap (a0_0 + 1))) = false:=beq_eq_false_iff_ne.mpr c4
   have c4b1 : (a1 != (IntKind.u64.wrap (a0_0 + 1))) = true:=bne_iff_ne.mpr c4
   by_cases c10 : a1 ≥ 1
   ·rw [if_pos c10] at H
    have c10b0 : decide (1 ≤ a1) = true:=decide_eq_true c10
    clear c10
    simp only [Option.some.injEq,Prod.mk.injEq] at H
    obtain ⟨rfl,rfl,rfl⟩:=H
    go_enter Try.func9,Try.ntmps9
    try go_wp2_with (first|((with_reducible refine gate_dst (N:=2) rfl ?_);refine zb (N:=2) (cs:=#[.int .u64 a0_0]) (t:=24) ?_;intro G101 hg w11 hbox hb;have K101:=zA (hbox);have GW101:=zN HB hg;have GE101:=zN HB hg;replace HB:=zS HB hb;clear hb hbox hg)|((with_reducible refine gate_dst (N:=4) rfl ?_);refine zb (N:=4) (cs:=#[.int .u64 0]) (t:=24) ?_;intro G102 hg w12 hbox hb;have K102:=zA (hbox);have GW102:=zN HB hg;have GE102:=zN HB hg;replace HB:=zS HB hb;have NB101_102:=zL K101 hg;have NB102_101:=zG K101 hg;replace K101:=zB K101 hb;clear hb hbox hg;have:=NB101_102.1;have:=NB102_101.1;have hcz14_0 : w12.cell? ⟨G101,0,none⟩ = some (.int .u64 a0_0):=zk K101 0;have hfz14_0:=bF K101.1 0))
    replace K101:=zA (bD K101.1)
    replace K102:=zA (bD K102.1)
    replace HB:=zA (bw1 HB.1)
    refine start_ (n:=12) (S:=fun w' => w'.cell? ⟨G101,0,none⟩ = some (.int .u64 a0_0)) (ds:=[]) #[F,F,F,F,F,F,F,F,F,F,F,F] (by kernel_rfl) rfl rfl (zk K101 0) (fun hHeld => ?_);refine with_tabW delta_Take.tab3 delta_Take.bits3 (fun HT_ HW_ => ?_)
    generalize w12.drew = w15 at K101 K102 HB hHeld ⊢
    refine pz 1 20 #[F,T,F,F,F,F,F,F,F,F,F,F] HT_.1 ?_
    refine pz 2 21 #[F,T,T,F,F,F,F,F,F,F,F,F] HT_.1 ?_
    refine pz 3 22 #[F,T,T,T,F,F,F,F,F,F,F,F] HT_.1 ?_
    refine pz 4 23 #[F,T,T,T,T,F,F,F,F,F,F,F] HT_.1 ?_
    refine pz 5 24 #[F,T,T,T,T,T,F,F,F,F,F,F] HT_.1 ?_
    refine take_ (i:=0) (N:=some 19) (v:=?_) (a':=?_) #[T,T,T,T,T,T,F,F,F,F,F,F] rfl rfl (take_ofW HT_.out HW_.out (by kernel_rfl)) (fun _ _ _ h => h) (Or.inl ⟨by rfl,?_⟩) hHeld ?_ ?_
    rotate_left
    ·intro w' s0
     go_simp
     with_reducible rfl
    rotate_left
    ·simp only [Act.put,xA,xB,xC,i64_w,i32_w]
     rfl
    refine take_ (i:=6) (N:=some 25) (v:=?_) (a':=?_) #[T,T,T,T,T,T,T,F,F,F,F,F] rfl rfl (take_ofW HT_.out HW_.out (by kernel_rfl)) (fun _ _ _ h => h) (Or.inl ⟨by rfl,?_⟩) hHeld ?_ ?_
    rotate_left
    ·intro w' s0
     go_simp
     with_reducible rfl
    rotate_left
    ·simp only [Act.put,xA,xB,xC,i64_w,i32_w]
     rfl
    refine pz 7 26 #[T,T,T,T,T,T,T,T,F,F,F,F] HT_.1 ?_
    refine pz 8 27 #[T,T,T,T,T,T,T,T,T,F,F,F] HT_.1 ?_
    refine one_ (i:=9) (N:=none) #[T,T,T,T,T,T,T,T,T,T,F,F] rfl rfl (one_of HT_.out (by kernel_rfl)) (by decide) (fun K hK => ?_)
    have hs16 : w15.cell? ⟨G102,0,none⟩ = some (.int .u64 0):=zk K102 0
    have hfs16:=bF K102.1 0
    have:=NB101_102.1
    have:=NB102_101.1
    refine sz ?_
    refine hK.out _ _ (((cF (p:=⟨G102,_,none⟩) NB101_102.1 _).trans (hHeld))) (fun hHeld => ?_)
    clear hK K
    refine pz 10 5 #[T,T,T,T,T,T,T,T,T,T,T,F] HT_.1 ?_
    refine pz 11 6 #[T,T,T,T,T,T,T,T,T,T,T,T] HT_.1 ?_
    refine done_ (done_of HT_.out (by kernel_rfl)) ?_
    try go_wp2
    refine bodyPost_ret (results_ctt rfl _ _ G102 24 #[.int .u64 a0_0] (0,0) _ rfl (zF K102) Try.underlying24 rfl (by kernel_rfl)) rfl ?_
    exact ⟨zE,zH HB⟩
   ·rw [if_neg c10] at H
    have c10b0 : decide (1 ≤ a1) = false:=decide_eq_false c10
    clear c10
    simp only [Option.some.injEq,Prod.mk.injEq] at H
    obtain ⟨rfl,rfl,rfl⟩:=H
    go_enter Try.func9,Try.ntmps9
    try go_wp2_with (first|((with_reducible refine gate_dst (N:=2) rfl ?_);refine zb (N:=2) (cs:=#[.int .u64 a0_0]) (t:=24) ?_;intro G101 hg w17 hbox hb;have K101:=zA (hbox);have GW101:=zN HB hg;have GE101:=zN HB hg;replace HB:=zS HB hb;clear hb hbox hg)|((with_reducible refine gate_dst (N:=4) rfl ?_);refine zb (N:=4) (cs:=#[.int .u64 0]) (t:=24) ?_;intro G102 hg w18 hbox hb;have K102:=zA (hbox);have GW102:=zN HB hg;have GE102:=zN HB hg;replace HB:=zS HB hb;have NB101_102:=zL K101 hg;have NB102_101:=zG K101 hg;replace K101:=zB K101 hb;clear hb hbox hg;have:=NB101_102.1;have:=NB102_101.1;have hcz20_0 : w18.cell? ⟨G101,0,none⟩ = some (.int .u64 a0_0):=zk K101 0;have hfz20_0:=bF K101.1 0))
    replace K101:=zA (bD K101.1)
    replace K102:=zA (bD K102.1)
    replace HB:=zA (bw1 HB.1)
    refine start_ (n:=12) (S:=fun w' => w'.cell? ⟨G101,0,none⟩ = some (.int .u64 a0_0)) (ds:=[]) #[F,F,F,F,F,F,F,F,F,F,F,F] (by kernel_rfl) rfl rfl (zk K101 0) (fun hHeld => ?_);refine with_tabW delta_Take.tab3 delta_Take.bits3 (fun HT_ HW_ => ?_)
    generalize w18.drew = w21 at K101 K102 HB hHeld ⊢
    refine pz 1 20 #[F,T,F,F,F,F,F,F,F,F,F,F] HT_.1 ?_
    refine pz 2 21 #[F,T,T,F,F,F,F,F,F,F,F,F] HT_.1 ?_
    refine pz 3 22 #[F,T,T,T,F,F,F,F,F,F,F,F] HT_.1 ?_
    refine pu 4 23 #[F,T,T,T,T,F,F,F,F,F,F,F] HT_.1 ?_
    refine pu 5 24 #[F,T,T,T,T,T,F,F,F,F,F,F] HT_.1 ?_
    refine pu 6 25 #[F,T,T,T,T,T,T,F,F,F,F,F] HT_.1 ?_
    refine pu 7 26 #[F,T,T,T,T,T,T,T,F,F,F,F] HT_.1 ?_
    refine pz 8 27 #[F,T,T,T,T,T,T,T,T,F,F,F] HT_.1 ?_
    refine take_ (i:=0) (N:=some 19) (v:=?_) (a':=?_) #[T,T,T,T,T,T,T,T,T,F,F,F] rfl rfl (take_ofW HT_.out HW_.out (by kernel_rfl)) (fun _ _ _ h => h) (Or.inl ⟨by rfl,?_⟩) hHeld ?_ ?_
    rotate_left
    ·intro w' s0
     go_simp
     with_reducible rfl
    rotate_left
    ·simp only [Act.put,xA,xB,xC,i64_w,i32_w]
     rfl
    refine one_ (i:=9) (N:=none) #[T,T,T,T,T,T,T,T,T,T,F,F] rfl rfl (one_of HT_.out (by kernel_rfl)) (by decide) (fun K hK => ?_)
    have hs22 : w21.cell? ⟨G102,0,none⟩ = some (.int .u64 0):=zk K102 0
    have hfs22:=bF K102.1 0
    have:=NB101_102.1
    have:=NB102_101.1
    refine sz ?_
    refine hK.out _ _ (((cF (p:=⟨G102,_,none⟩) NB101_102.1 _).trans (hHeld))) (fun hHeld => ?_)
    clear hK K
    refine pz 10 5 #[T,T,T,T,T,T,T,T,T,T,T,F] HT_.1 ?_
    refine pz 11 6 #[T,T,T,T,T,T,T,T,T,T,T,T] HT_.1 ?_
    refine done_ (done_of HT_.out (by kernel_rfl)) ?_
    try go_wp2
    refine bodyPost_ret (results_ctt rfl _ _ G102 24 #[.int .u64 a0_0] (0,0) _ rfl (zF K102) Try.underlying24 rfl (by kernel_rfl)) rfl ?_
    exact ⟨zE,zH HB⟩
 ·rw [if_neg c3] at H
  have c3b0 : decide (a0_0 < 18446744073709551615) = false:=decide_eq_false c3
  clear c3
  by_cases c23 : a1 ≥ 1
  ·rw [if_pos c23] at H
   have c23b0 : decide (1 ≤ a1) = true:=decide_eq_true c23
   clear c23
   simp only [Option.some.injEq,Prod.mk.injEq] at H
   obtain ⟨rfl,rfl,rfl⟩:=H
   go_enter Try.func9,Try.ntmps9
   try go_wp2_with (first|((with_reducible refine gate_dst (N:=2) rfl ?_);refine zb (N:=2) (cs:=#[.int .u64 a0_0]) (t:=24) ?_;intro G101 hg w24 hbox hb;have K101:=zA (hbox);have GW101:=zN HB hg;have GE101:=zN HB hg;replace HB:=zS HB hb;clear hb hbox hg)|((with_reducible refine gate_dst (N:=4) rfl ?_);refine zb (N:=4) (cs:=#[.int .u64 0]) (t:=24) ?_;intro G102 hg w25 hbox hb;have K102:=zA (hbox);have GW102:=zN HB hg;have GE102:=zN HB hg;replace HB:=zS HB hb;have NB101_102:=zL K101 hg;have NB102_101:=zG K101 hg;replace K101:=zB K101 hb;clear hb hbox hg;have:=NB101_102.1;have:=NB102_101.1;have hcz27_0 : w25.cell? ⟨G101,0,none⟩ = some (.int .u64 a0_0):=zk K101 0;have hfz27_0:=bF K101.1 0))
   replace K101:=zA (bD K101.1)
   replace K102:=zA (bD K102.1)
   replace HB:=zA (bw1 HB.1)
   refine start_ (n:=12) (S:=fun w' => w'.cell? ⟨G101,0,none⟩ = some (.int .u64 a0_0)) (ds:=[]) #[F,F,F,F,F,F,F,F,F,F,F,F] (by kernel_rfl) rfl rfl (zk K101 0) (fun hHeld => ?_);refine with_tabW delta_Take.tab3 delta_Take.bits3 (fun HT_ HW_ => ?_)
   generalize w25.drew = w28 at K101 K102 HB hHeld ⊢
   refine pz 1 20 #[F,T,F,F,F,F,F,F,F,F,F,F] HT_.1 ?_
   refine pz 2 21 #[F,T,T,F,F,F,F,F,F,F,F,F] HT_.1 ?_
   refine pz 3 22 #[F,T,T,T,F,F,F,F,F,F,F,F] HT_.1 ?_
   refine pz 4 23 #[F,T,T,T,T,F,F,F,F,F,F,F] HT_.1 ?_
   refine pz 5 24 #[F,T,T,T,T,T,F,F,F,F,F,F] HT_.1 ?_
   refine take_ (i:=0) (N:=some 19) (v:=?_) (a':=?_) #[T,T,T,T,T,T,F,F,F,F,F,F] rfl rfl (take_ofW HT_.out HW_.out (by kernel_rfl)) (fun _ _ _ h => h) (Or.inl ⟨by rfl,?_⟩) hHeld ?_ ?_
   rotate_left
   ·intro w' s0
    go_simp
    with_reducible rfl
   rotate_left
   ·simp only [Act.put,xA,xB,xC,i64_w,i32_w]
    rfl
   refine take_ (i:=6) (N:=some 25) (v:=?_) (a':=?_) #[T,T,T,T,T,T,T,F,F,F,F,F] rfl rfl (take_ofW HT_.out HW_.out (by kernel_rfl)) (fun _ _ _ h => h) (Or.inl ⟨by rfl,?_⟩) hHeld ?_ ?_
   rotate_left
   ·intro w' s0
    go_simp
    with_reducible rfl
   rotate_left
   ·simp only [Act.put,xA,xB,xC,i64_w,i32_w]
    rfl
   refine pz 7 26 #[T,T,T,T,T,T,T,T,F,F,F,F] HT_.1 ?_
   refine pz 8 27 #[T,T,T,T,T,T,T,T,T,F,F,F] HT_.1 ?_
   refine one_ (i:=9) (N:=none) #[T,T,T,T,T,T,T,T,T,T,F,F] rfl rfl (one_of HT_.out (by kernel_rfl)) (by decide) (fun K hK => ?_)
   have hs29 : w28.cell? ⟨G102,0,none⟩ = some (.int .u64 0):=zk K102 0
   have hfs29:=bF K102.1 0
   have:=NB101_102.1
   have:=NB102_101.1
   refine sz ?_
   refine hK.out _ _ (((cF (p:=⟨G102,_,none⟩) NB101_102.1 _).trans (hHeld))) (fun hHeld => ?_)
   clear hK K
   refine pz 10 5 #[T,T,T,T,T,T,T,T,T,T,T,F] HT_.1 ?_
   refine pz 11 6 #[T,T,T,T,T,T,T,T,T,T,T,T] HT_.1 ?_
   refine done_ (done_of HT_.out (by kernel_rfl)) ?_
   try go_wp2
   refine bodyPost_ret (results_ctt rfl _ _ G102 24 #[.int .u64 a0_0] (0,0) _ rfl (zF K102) Try.underlying24 rfl (by kernel_rfl)) rfl ?_
   exact ⟨zE,zH HB⟩
  ·rw [if_neg c23] at H
   have c23b0 : decide (1 ≤ a1) = false:=decide_eq_false c23
   clear c23
   simp only [Option.some.injEq,Prod.mk.injEq] at H
   obtain ⟨rfl,rfl,rfl⟩:=H
   go_enter Try.func9,Try.ntmps9
   try go_wp2_with (first|((with_reducible refine gate_dst (N:=2) rfl ?_);refine zb (N:=2) (cs:=#[.int .u64 a0_0]) (t:=24) ?_;intro G101 hg w30 hbox hb;have K101:=zA (hbox);have GW101:=zN HB hg;have GE101:=zN HB hg;replace HB:=zS HB hb;clear hb hbox hg)|((with_reducible refine gate_dst (N:=4) rfl ?_);refine zb (N:=4) (cs:=#[.int .u64 0]) (t:=24) ?_;intro G102 hg w31 hbox hb;have K102:=zA (hbox);have GW102:=zN HB hg;have GE102:=zN HB hg;replace HB:=zS HB hb;have NB101_102:=zL K101 hg;have NB102_101:=zG K101 hg;replace K101:=zB K101 hb;clear hb hbox hg;have:=NB101_102.1;have:=NB102_101.1;have hcz33_0 : w31.cell? ⟨G101,0,none⟩ = some (.int .u64 a0_0):=zk K101 0;have hfz33_0:=bF K101.1 0))
   replace K101:=zA (bD K101.1)
   replace K102:=zA (bD K102.1)
   replace HB:=zA (bw1 HB.1)
   refine start_ (n:=12) (S:=fun w' => w'.cell? ⟨G101,0,none⟩ = some (.int .u64 a0_0)) (ds:=[]) #[F,F,F,F,F,F,F,F,F,F,F,F] (by kernel_rfl) rfl rfl (zk K101 0) (fun hHeld => ?_);refine with_tabW delta_Take.tab3 delta_Take.bits3 (fun HT_ HW_ => ?_)
   generalize w31.drew = w34 at K101 K102 HB hHeld ⊢
   refine pz 1 20 #[F,T,F,F,F,F,F,F,F,F,F,F] HT_.1 ?_
   refine pz 2 21 #[F,T,T,F,F,F,F,F,F,F,F,F] HT_.1 ?_
   refine pz 3 22 #[F,T,T,T,F,F,F,F,F,F,F,F] HT_.1 ?_
   refine pu 4 23 #[F,T,T,T,T,F,F,F,F,F,F,F] HT_.1 ?_
   refine pu 5 24 #[F,T,T,T,T,T,F,F,F,F,F,F] HT_.1 ?_
   refine pu 6 25 #[F,T,T,T,T,T,T,F,F,F,F,F] HT_.1 ?_
   refine pu 7 26 #[F,T,T,T,T,T,T,T,F,F,F,F] HT_.1 ?_
   refine pz 8 27 #[F,T,T,T,T,T,T,T,T,F,F,F] HT_.1 ?_
   refine take_ (i:=0) (N:=some 19) (v:=?_) (a':=?_) #[T,T,T,T,T,T,T,T,T,F,F,F] rfl rfl (take_ofW HT_.out HW_.out (by kernel_rfl)) (fun _ _ _ h => h) (Or.inl ⟨by rfl,?_⟩) hHeld ?_ ?_
   rotate_left
   ·intro w' s0
    go_simp
    with_reducible rfl
   rotate_left
   ·simp only [Act.put,xA,xB,xC,i64_w,i32_w]
    rfl
   refine one_ (i:=9) (N:=none) #[T,T,T,T,T,T,T,T,T,T,F,F] rfl rfl (one_of HT_.out (by kernel_rfl)) (by decide) (fun K hK => ?_)
   have hs35 : w34.cell? ⟨G102,0,none⟩ = some (.int .u64 0):=zk K102 0
   have hfs35:=bF K102.1 0
   have:=NB101_102.1
   have:=NB102_101.1
   refine sz ?_
   refine hK.out _ _ (((cF (p:=⟨G102,_,none⟩) NB101_102.1 _).trans (hHeld))) (fun hHeld => ?_)
   clear hK K
   refine pz 10 5 #[T,T,T,T,T,T,T,T,T,T,T,F] HT_.1 ?_
   refine pz 11 6 #[T,T,T,T,T,T,T,T,T,T,T,T] HT_.1 ?_
   refine done_ (done_of HT_.out (by kernel_rfl)) ?_
   try go_wp2
   refine bodyPost_ret (results_ctt rfl _ _ G102 24 #[.int .u64 a0_0] (0,0) _ rfl (zF K102) Try.underlying24 rfl (by kernel_rfl)) rfl ?_
   exact ⟨zE,zH HB⟩

end Go.Proofs.Ytpcgjdllgdkobaa.XD
