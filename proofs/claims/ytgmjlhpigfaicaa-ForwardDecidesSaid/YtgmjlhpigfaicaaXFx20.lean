/- Go functions of this seat as Lean functions, with proofs that the calls come to them. (Written by xprint.py, a program of this session, over the kit's print.) -/
import Derived.Test.YtgmjlhpigfaicaaXFx0
import Derived.Test.YtgmjlhpigfaicaaXFx10
import Derived.Test.YtgmjlhpigfaicaaXFx11
import Derived.Test.YtgmjlhpigfaicaaXFx18
import Derived.Test.YtgmjlhpigfaicaaXFx19
namespace Go.Proofs.Ytgmjlhpigfaicaa.XF
open Go.RowKit Go.Proofs.YtgmjlhpigfaicaaW.PrintWords Go.Proofs.YtgmjlhpigfaicaaW.PrintLast Go.Proofs.YtgmjlhpigfaicaaW.PrintMore
attribute [local go_sem] max2_int min2_int max_two min_two max_three min_three max_four min_four   -- for this text's walks alone
set_option linter.unusedVariables false
set_option linter.unusedSimpArgs false
open List renaming setIfInBounds_toArray → xA, set_cons_zero → xB, set_cons_succ → xC
open Go.Proofs.YtgmjlhpigfaicaaW.PrintWords renaming blk_drewN → bN, blk_drew → bD, blk_alloc → bA, below_set → bS, blk_frozen → bF, blk_cell → bC, cell_far → cF, blk_far → bZ, blk_below → bB, pw_below_drewN → bwN, below_drew1 → bw1, below_alloc → bwA
open Go.Proofs.YtgmjlhpigfaicaaW.PrintZ
open Bool renaming true → T,false → F

/-! ### beaconlaw19_ForwardDecides: function 8 -/
def beaconlaw19_ForwardDecides.f (k : Nat) (a0 : Int) (l1_0 : List (S39)) (a1_1 : Bool) (a2_0 : Int) (a2_1 : Int) (a2_2 : Int) (a2_3 : Int) (a2_4 : Int) (a2_5 : Int) (a2_6 : Int) (a2_7 : Int) (a2_8 : ByteArray) (a2_9 : Int) (a2_10 : Int) (a2_11 : ByteArray) : Option (Bool) := (beaconlaw19_own.f k l1_0 a1_1).bind fun bt350 => ((forward_Decide.f k a0 bt350.1 bt350.2 a2_0 a2_1 a2_2 a2_3 a2_4 a2_5 a2_6 a2_7 a2_8 a2_9 a2_10 a2_11).bind fun bt354 => ((beaconref19_Decide.f k a0 l1_0 a1_1 a2_0 a2_1 a2_2 a2_3 a2_4 a2_5 a2_6 a2_7 a2_8 a2_9 a2_10 a2_11).bind fun bt370 => (if bt354.2.2.2.2.2.2.2.2.2.2.2.2.2.2 = bt370.2.2.2.2.2.2.2.2.2.2.2.2.2.2 then ((beaconlaw19_same.f bt354.1 bt354.2.1 bt354.2.2.1 bt354.2.2.2.1 bt354.2.2.2.2.1 bt354.2.2.2.2.2.1 bt354.2.2.2.2.2.2.1 bt354.2.2.2.2.2.2.2.1 bt354.2.2.2.2.2.2.2.2.1 bt354.2.2.2.2.2.2.2.2.2.1 bt354.2.2.2.2.2.2.2.2.2.2.1 bt354.2.2.2.2.2.2.2.2.2.2.2.1 bt354.2.2.2.2.2.2.2.2.2.2.2.2.1 bt354.2.2.2.2.2.2.2.2.2.2.2.2.2.1 bt370.1 bt370.2.1 bt370.2.2.1 bt370.2.2.2.1 bt370.2.2.2.2.1 bt370.2.2.2.2.2.1 bt370.2.2.2.2.2.2.1 bt370.2.2.2.2.2.2.2.1 bt370.2.2.2.2.2.2.2.2.1 bt370.2.2.2.2.2.2.2.2.2.1 bt370.2.2.2.2.2.2.2.2.2.2.1 bt370.2.2.2.2.2.2.2.2.2.2.2.1 bt370.2.2.2.2.2.2.2.2.2.2.2.2.1 bt370.2.2.2.2.2.2.2.2.2.2.2.2.2.1).bind fun t386 => (if t386 = true then ((forward_Code.f bt370.1 bt370.2.1 bt370.2.2.1 bt370.2.2.2.1 bt370.2.2.2.2.1 bt370.2.2.2.2.2.1 bt370.2.2.2.2.2.2.1 bt370.2.2.2.2.2.2.2.1 bt370.2.2.2.2.2.2.2.2.1 bt370.2.2.2.2.2.2.2.2.2.1 bt370.2.2.2.2.2.2.2.2.2.2.1 bt370.2.2.2.2.2.2.2.2.2.2.2.1 bt370.2.2.2.2.2.2.2.2.2.2.2.2.1 bt370.2.2.2.2.2.2.2.2.2.2.2.2.2.1).bind fun t387 => ((beaconref19_Code.f bt370.1 bt370.2.1 bt370.2.2.1 bt370.2.2.2.1 bt370.2.2.2.2.1 bt370.2.2.2.2.2.1 bt370.2.2.2.2.2.2.1 bt370.2.2.2.2.2.2.2.1 bt370.2.2.2.2.2.2.2.2.1 bt370.2.2.2.2.2.2.2.2.2.1 bt370.2.2.2.2.2.2.2.2.2.2.1 bt370.2.2.2.2.2.2.2.2.2.2.2.1 bt370.2.2.2.2.2.2.2.2.2.2.2.2.1 bt370.2.2.2.2.2.2.2.2.2.2.2.2.2.1).bind fun t388 => (if t387 = t388 then ((beaconlaw19_awake.f k).bind fun t389 => (some t389)) else (some false)))) else (some false))) else (some false))))
theorem beaconlaw19_ForwardDecides.mono : ∀ a0 a1 a2 a3 a4 a5 a6 a7 a8 a9 a10 a11 a12 a13 a14 k, LeO (beaconlaw19_ForwardDecides.f k a0 a1 a2 a3 a4 a5 a6 a7 a8 a9 a10 a11 a12 a13 a14) (beaconlaw19_ForwardDecides.f (k + 1) a0 a1 a2 a3 a4 a5 a6 a7 a8 a9 a10 a11 a12 a13 a14) := by
 intro a0 a1 a2 a3 a4 a5 a6 a7 a8 a9 a10 a11 a12 a13 a14 k
 unfold beaconlaw19_ForwardDecides.f
 repeat' first
   | (with_reducible exact beaconlaw19_awake.mono _)
   | (with_reducible exact beaconlaw19_own.mono _ _ _)
   | (with_reducible exact beaconref19_Decide.mono _ _ _ _ _ _ _ _ _ _ _ _ _ _ _ _)
   | (with_reducible exact forward_Decide.mono _ _ _ _ _ _ _ _ _ _ _ _ _ _ _ _)
   | (with_reducible exact LeO.refl _)
   | (with_reducible exact LeO.none _)
   | (with_reducible refine LeO.ite ?_ ?_)
   | (with_reducible refine LeO.bind ?_ (fun _ => ?_))
   | exact beaconlaw19_awake.mono _
   | exact beaconlaw19_own.mono _ _ _
   | exact beaconref19_Decide.mono _ _ _ _ _ _ _ _ _ _ _ _ _ _ _ _
   | exact forward_Decide.mono _ _ _ _ _ _ _ _ _ _ _ _ _ _ _ _
   | exact LeO.none _
   | refine LeO.ite ?_ ?_
   | refine LeO.bind ?_ (fun _ => ?_)
def beaconlaw19_ForwardDecides.T1 : Bool × List (List Nat × List Nat) := (true, [([], []), ([], []), ([1], [1]), ([], []), ([0, 2, 3, 2], [0, 2, 3]), ([4], [4]), ([5], [5]), ([5], [5]), ([], []), ([8, 6, 4, 0, 1, 2, 3, 4, 5, 6, 8], [6, 8]), ([7, 9, 0, 1, 2, 3, 4, 5, 6, 7, 8, 9], [7])])
def beaconlaw19_ForwardDecides.B1 : List Nat := [0, 0, 2, 0, 15, 31, 63, 63, 0, 383, 1023]
theorem beaconlaw19_ForwardDecides.tab1 : rtab .any (opsOf Try.f8 1) = beaconlaw19_ForwardDecides.T1 := by kernel_rfl
theorem beaconlaw19_ForwardDecides.bits1 : waitsOk beaconlaw19_ForwardDecides.T1.2 beaconlaw19_ForwardDecides.B1 = true := by kernel_rfl
def beaconlaw19_ForwardDecides.T3 : Bool × List (List Nat × List Nat) := (true, [([], []), ([], []), ([0, 1], [0, 1]), ([2], [2]), ([3], [3]), ([3], [3]), ([4, 5, 3, 3], [3, 4, 5]), ([3, 6], [3, 6]), ([7, 6], [7]), ([8], [8]), ([9, 8, 8], [8, 9]), ([8], [8]), ([11, 10, 8], [8, 11]), ([10, 12, 8], [8, 10, 12]), ([8, 13], [8, 13]), ([14, 12], [14]), ([15, 15], [15]), ([15, 16], [15, 16]), ([17, 16, 0, 1, 2, 3, 4, 5, 6, 7, 8, 9, 10, 11, 12, 13, 14, 15, 16, 17], [17])])
def beaconlaw19_ForwardDecides.B3 : List Nat := [0, 0, 3, 7, 15, 15, 63, 127, 255, 511, 1023, 511, 4095, 8191, 16383, 32767, 65535, 131071, 262143]
theorem beaconlaw19_ForwardDecides.tab3 : rtab .any (opsOf Try.f8 3) = beaconlaw19_ForwardDecides.T3 := by kernel_rfl
theorem beaconlaw19_ForwardDecides.bits3 : waitsOk beaconlaw19_ForwardDecides.T3.2 beaconlaw19_ForwardDecides.B3 = true := by kernel_rfl
set_option maxHeartbeats 8000000 in
set_option maxRecDepth 100000 in
theorem beaconlaw19_ForwardDecides.calls (k : Nat) (a0 : Int) (A1_0 : Option Addr) (c1_0 : Nat) (l1_0 : List (S39)) (a1_1 : Bool) (a2_0 : Int) (a2_1 : Int) (a2_2 : Int) (a2_3 : Int) (a2_4 : Int) (a2_5 : Int) (a2_6 : Int) (a2_7 : Int) (a2_8 : ByteArray) (a2_9 : Int) (a2_10 : Int) (a2_11 : ByteArray) (r : Bool) (w : World) (hr1_0 : Kd.C k39 w A1_0 l1_0.length l1_0) (hc1_0 : l1_0.length ≤ c1_0) (h : beaconlaw19_ForwardDecides.f k a0 l1_0 a1_1 a2_0 a2_1 a2_2 a2_3 a2_4 a2_5 a2_6 a2_7 a2_8 a2_9 a2_10 a2_11 = some r) (hr_ : r = true) :
  Calls Try.prog 8 #[.int .i64 a0,.agg #[.slice A1_0 l1_0.length c1_0,.bool a1_1],.agg #[.int .i64 a2_0,.int .i64 a2_1,.int .i64 a2_2,.int .i64 a2_3,.int .i64 a2_4,.int .i64 a2_5,.int .u64 a2_6,.int .i64 a2_7,.string a2_8,.int .i64 a2_9,.int .i64 a2_10,.string a2_11]] w fun e w' => e = .returned (.bool r) ∧ Below w.heap.size w w':=by
 have hu24:=Try.underlying24
 have hu48:=Try.underlying48
 have hu50:=Try.underlying50
 have HR1_0:=Aside0.mk hr1_0
 have HC1_0:=Aside0.mk hc1_0
 clear hr1_0 hc1_0
 have HB:=Aside0.mk (Below.refl w.heap.size w)
 have H : ((beaconlaw19_own.f k l1_0 a1_1).bind fun bt350 => ((forward_Decide.f k a0 bt350.1 bt350.2 a2_0 a2_1 a2_2 a2_3 a2_4 a2_5 a2_6 a2_7 a2_8 a2_9 a2_10 a2_11).bind fun bt354 => ((beaconref19_Decide.f k a0 l1_0 a1_1 a2_0 a2_1 a2_2 a2_3 a2_4 a2_5 a2_6 a2_7 a2_8 a2_9 a2_10 a2_11).bind fun bt370 => (if bt354.2.2.2.2.2.2.2.2.2.2.2.2.2.2 = bt370.2.2.2.2.2.2.2.2.2.2.2.2.2.2 then ((beaconlaw19_same.f bt354.1 bt354.2.1 bt354.2.2.1 bt354.2.2.2.1 bt354.2.2.2.2.1 bt354.2.2.2.2.2.1 bt354.2.2.2.2.2.2.1 bt354.2.2.2.2.2.2.2.1 bt354.2.2.2.2.2.2.2.2.1 bt354.2.2.2.2.2.2.2.2.2.1 bt354.2.2.2.2.2.2.2.2.2.2.1 bt354.2.2.2.2.2.2.2.2.2.2.2.1 bt354.2.2.2.2.2.2.2.2.2.2.2.2.1 bt354.2.2.2.2.2.2.2.2.2.2.2.2.2.1 bt370.1 bt370.2.1 bt370.2.2.1 bt370.2.2.2.1 bt370.2.2.2.2.1 bt370.2.2.2.2.2.1 bt370.2.2.2.2.2.2.1 bt370.2.2.2.2.2.2.2.1 bt370.2.2.2.2.2.2.2.2.1 bt370.2.2.2.2.2.2.2.2.2.1 bt370.2.2.2.2.2.2.2.2.2.2.1 bt370.2.2.2.2.2.2.2.2.2.2.2.1 bt370.2.2.2.2.2.2.2.2.2.2.2.2.1 bt370.2.2.2.2.2.2.2.2.2.2.2.2.2.1).bind fun t386 => (if t386 = true then ((forward_Code.f bt370.1 bt370.2.1 bt370.2.2.1 bt370.2.2.2.1 bt370.2.2.2.2.1 bt370.2.2.2.2.2.1 bt370.2.2.2.2.2.2.1 bt370.2.2.2.2.2.2.2.1 bt370.2.2.2.2.2.2.2.2.1 bt370.2.2.2.2.2.2.2.2.2.1 bt370.2.2.2.2.2.2.2.2.2.2.1 bt370.2.2.2.2.2.2.2.2.2.2.2.1 bt370.2.2.2.2.2.2.2.2.2.2.2.2.1 bt370.2.2.2.2.2.2.2.2.2.2.2.2.2.1).bind fun t387 => ((beaconref19_Code.f bt370.1 bt370.2.1 bt370.2.2.1 bt370.2.2.2.1 bt370.2.2.2.2.1 bt370.2.2.2.2.2.1 bt370.2.2.2.2.2.2.1 bt370.2.2.2.2.2.2.2.1 bt370.2.2.2.2.2.2.2.2.1 bt370.2.2.2.2.2.2.2.2.2.1 bt370.2.2.2.2.2.2.2.2.2.2.1 bt370.2.2.2.2.2.2.2.2.2.2.2.1 bt370.2.2.2.2.2.2.2.2.2.2.2.2.1 bt370.2.2.2.2.2.2.2.2.2.2.2.2.2.1).bind fun t388 => (if t387 = t388 then ((beaconlaw19_awake.f k).bind fun t389 => (some t389)) else (some false)))) else (some false))) else (some false))))) = some r:=h
 clear h
 replace H:=Option.bind_eq_some_iff.mp H
 obtain ⟨⟨t350,t353⟩,A40,H⟩:=H
 (try dsimp only at H)
 have A4:=Aside0.mk A40
 clear A40
 replace H:=Option.bind_eq_some_iff.mp H
 obtain ⟨⟨t354,t355,t356,t357,t358,t359,t360,t361,t362,t363,t364,t365,t366,t367,t368⟩,A50,H⟩:=H
 (try dsimp only at H)
 have A5:=Aside0.mk A50
 clear A50
 replace H:=Option.bind_eq_some_iff.mp H
 obtain ⟨⟨t370,t371,t372,t373,t374,t375,t376,t377,t378,t379,t380,t381,t382,t383,t384⟩,A60,H⟩:=H
 (try dsimp only at H)
 have A6:=Aside0.mk A60
 clear A60
 by_cases c7 : t368 = t384
 ·rw [if_pos c7] at H
  have c7b0 : (t368 == t384) = true:=beq_iff_eq.mpr c7
  have c7b1 : (t368 != t384) = false:=bne_eq_false_iff_eq.mpr c7
  clear c7
  replace H:=Option.bind_eq_some_iff.mp H
  obtain ⟨t386,A80,H⟩:=H
  (try dsimp only at H)
  have A8:=Aside0.mk A80
  clear A80
  by_cases c9 : t386 = true
  ·subst c9
   rw [if_pos rfl] at H
   replace H:=Option.bind_eq_some_iff.mp H
   obtain ⟨t387,A100,H⟩:=H
   (try dsimp only at H)
   have A10:=Aside0.mk A100
   clear A100
   replace H:=Option.bind_eq_some_iff.mp H
   obtain ⟨t388,A110,H⟩:=H
   (try dsimp only at H)
   have A11:=Aside0.mk A110
   clear A110
   by_cases c12 : t387 = t388
   ·rw [if_pos c12] at H
    have c12b0 : (t387 == t388) = true:=beq_iff_eq.mpr c12
    have c12b1 : (t387 != t388) = false:=bne_eq_false_iff_eq.mpr c12
    clear c12
    replace H:=Option.bind_eq_some_iff.mp H
    obtain ⟨t389,A130,H⟩:=H
    (try dsimp only at H)
    have A13:=Aside0.mk A130
    clear A130
    obtain rfl:=Option.some.inj H
    go_enter Try.func8,Try.ntmps8
    try go_wp2_with (first|((with_reducible refine gate_dst (N:=4) rfl ?_);refine zb (N:=4) (cs:=#[.slice A1_0 l1_0.length c1_0,.bool a1_1]) (t:=24) ?_;intro G348 hg w14 hbox hb;have K348:=Aside0.mk (hbox);have GW348:=zN HB hg;have GE348:=zN HB hg;replace HB:=zS HB hb;clear hb hbox hg)|((with_reducible refine gate_dst (N:=5) rfl ?_);refine zb (N:=5) (cs:=#[.int .i64 a2_0,.int .i64 a2_1,.int .i64 a2_2,.int .i64 a2_3,.int .i64 a2_4,.int .i64 a2_5,.int .u64 a2_6,.int .i64 a2_7,.string a2_8,.int .i64 a2_9,.int .i64 a2_10,.string a2_11]) (t:=48) ?_;intro G349 hg w15 hbox hb;have K349:=Aside0.mk (hbox);have GW349:=zN HB hg;have GE349:=zN HB hg;replace HB:=zS HB hb;have NB348_349:=zL K348 hg;have NB349_348:=zG K348 hg;replace K348:=zB K348 hb;clear hb hbox hg))
    replace K348:=Aside0.mk (bD K348.1)
    replace K349:=Aside0.mk (bD K349.1)
    replace HB:=Aside0.mk (bw1 HB.1)
    refine start_ (n:=11) (S:=fun w' => w'.cell? ⟨G348,0,none⟩ = some (.slice A1_0 l1_0.length c1_0) ∧ w'.cell? ⟨G348,1,none⟩ = some (.bool a1_1) ∧ w'.cell? ⟨G349,0,none⟩ = some (.int .i64 a2_0) ∧ w'.cell? ⟨G349,1,none⟩ = some (.int .i64 a2_1) ∧ w'.cell? ⟨G349,2,none⟩ = some (.int .i64 a2_2) ∧ w'.cell? ⟨G349,3,none⟩ = some (.int .i64 a2_3) ∧ w'.cell? ⟨G349,4,none⟩ = some (.int .i64 a2_4) ∧ w'.cell? ⟨G349,5,none⟩ = some (.int .i64 a2_5) ∧ w'.cell? ⟨G349,6,none⟩ = some (.int .u64 a2_6) ∧ w'.cell? ⟨G349,7,none⟩ = some (.int .i64 a2_7) ∧ w'.cell? ⟨G349,8,none⟩ = some (.string a2_8) ∧ w'.cell? ⟨G349,9,none⟩ = some (.int .i64 a2_9) ∧ w'.cell? ⟨G349,10,none⟩ = some (.int .i64 a2_10) ∧ w'.cell? ⟨G349,11,none⟩ = some (.string a2_11)) (ds:=[]) #[F,F,F,F,F,F,F,F,F,F,F] (by kernel_rfl) rfl rfl ⟨zk K348 0,zk K348 1,zk K349 0,zk K349 1,zk K349 2,zk K349 3,zk K349 4,zk K349 5,zk K349 6,zk K349 7,zk K349 8,zk K349 9,zk K349 10,zk K349 11⟩ (fun hHeld => ?_);refine with_tabW beaconlaw19_ForwardDecides.tab1 beaconlaw19_ForwardDecides.bits1 (fun HT_ HW_ => ?_)
    generalize w15.drew = w16 at K348 K349 HB hHeld ⊢
    refine pz 0 12 #[T,F,F,F,F,F,F,F,F,F,F] HT_.1 ?_
    refine tz 1 13 #[T,T,F,F,F,F,F,F,F,F,F] HT_.1 HW_.1 hHeld ?_
    refine tz 3 15 #[T,T,F,T,F,F,F,F,F,F,F] HT_.1 HW_.1 hHeld ?_
    refine join_ (σ:=Value × Nat) 2 #[T,T,T,T,T,T,T,T,T,F,F] (fun s_ => [(14,.agg #[s_.1,.bool t353]),(16,.tuple #[.agg #[.int .i64 t354,.int .i64 t355,.int .i64 t356,.int .i64 t357,.int .i64 t358,.int .i64 t359,.int .i64 t360,.int .i64 t361,.int .u64 t362,.int .i64 t363,.string t364,.int .i64 t365,.int .i64 t366,.string t367],.int .i64 t368]),(7,.pointer (some ⟨s_.2,0,none⟩)),(11,.tuple #[.agg #[.int .i64 t354,.int .i64 t355,.int .i64 t356,.int .i64 t357,.int .i64 t358,.int .i64 t359,.int .i64 t360,.int .i64 t361,.int .u64 t362,.int .i64 t363,.string t364,.int .i64 t365,.int .i64 t366,.string t367],.int .i64 t368]),(17,.agg #[.int .i64 t354,.int .i64 t355,.int .i64 t356,.int .i64 t357,.int .i64 t358,.int .i64 t359,.int .i64 t360,.int .i64 t361,.int .u64 t362,.int .i64 t363,.string t364,.int .i64 t365,.int .i64 t366,.string t367]),(18,.int .i64 t368)]) (fun s_ w' => (w'.cell? ⟨G348,0,none⟩ = some (.slice A1_0 l1_0.length c1_0) ∧ w'.cell? ⟨G348,1,none⟩ = some (.bool a1_1) ∧ w'.cell? ⟨G349,0,none⟩ = some (.int .i64 a2_0) ∧ w'.cell? ⟨G349,1,none⟩ = some (.int .i64 a2_1) ∧ w'.cell? ⟨G349,2,none⟩ = some (.int .i64 a2_2) ∧ w'.cell? ⟨G349,3,none⟩ = some (.int .i64 a2_3) ∧ w'.cell? ⟨G349,4,none⟩ = some (.int .i64 a2_4) ∧ w'.cell? ⟨G349,5,none⟩ = some (.int .i64 a2_5) ∧ w'.cell? ⟨G349,6,none⟩ = some (.int .u64 a2_6) ∧ w'.cell? ⟨G349,7,none⟩ = some (.int .i64 a2_7) ∧ w'.cell? ⟨G349,8,none⟩ = some (.string a2_8) ∧ w'.cell? ⟨G349,9,none⟩ = some (.int .i64 a2_9) ∧ w'.cell? ⟨G349,10,none⟩ = some (.int .i64 a2_10) ∧ w'.cell? ⟨G349,11,none⟩ = some (.string a2_11)) ∧ (Kd.R k39 39 w' w.heap.size (fun _ => True) s_.1 t350) ∧ (w'.heap[G348]? = some (.cells #[.slice A1_0 l1_0.length c1_0,.bool a1_1] 24 (0,0))) ∧ (w'.heap[G349]? = some (.cells #[.int .i64 a2_0,.int .i64 a2_1,.int .i64 a2_2,.int .i64 a2_3,.int .i64 a2_4,.int .i64 a2_5,.int .u64 a2_6,.int .i64 a2_7,.string a2_8,.int .i64 a2_9,.int .i64 a2_10,.string a2_11] 48 (0,0))) ∧ (w'.heap[s_.2]? = some (.cells #[.int .i64 0,.int .i64 0,.int .i64 0,.int .i64 0,.int .i64 0,.int .i64 0,.int .i64 0,.int .i64 0,.int .u64 0,.int .i64 0,.string (⟨#[]⟩ : ByteArray),.int .i64 0,.int .i64 0,.string (⟨#[]⟩ : ByteArray)] 50 (0,0))) ∧ (w.heap.size ≤ s_.2) ∧ (w.heap.size ≤ s_.2) ∧ (G348 ≠ s_.2) ∧ (s_.2 ≠ G348) ∧ (G349 ≠ s_.2) ∧ (s_.2 ≠ G349) ∧ (Below w.heap.size w w')) ?_ ?_
    rotate_left
    ·intro hCont
     refine two_ (i:=2) (j:=8) (Ni:=some 14) (Nj:=some 7) #[T,T,T,T,F,F,F,F,F,F,F] #[T,T,F,T,F,F,F,F,T,F,F] rfl rfl rfl rfl (two_of HT_.out (by kernel_rfl)) (by decide) (by decide) (fun K hK => ?_) (fun K hK => ?_)
     ·skip
      refine zo_ Try.func29 #[.agg #[.slice A1_0 l1_0.length c1_0,.bool a1_1]] ?_
      with_reducible refine (beaconlaw19_own.calls k _ _ l1_0 a1_1 t350 t353 _ ?side1 ?side2 A4.out).mono ?_
      (case side1 => exact zC (Kd.C_below HR1_0.out HB.1))
      (case side2 => exact HC1_0.out)
      rintro e w17 ⟨v351,rfl,ho0,hb⟩
      refine ⟨_,rfl,?_⟩
      have HO352:=Aside0.mk (Kd.R_lower ho0 (zW HB))
      replace K348:=zB K348 hb
      replace K349:=zB K349 hb
      replace HB:=zS HB hb
      (try clear hb)
      (try clear hb2)
      (try clear hk)
      (try clear hi)
      (try clear ho0)
      obtain ⟨Ao18,co18,eo18⟩:=Kd.R_slice HO352.out
      (first|subst eo18|(injection eo18 with f1_ f2_ f3_;have f4_:=f1_.symm;have f5_:=f3_.symm;clear f1_ f2_ f3_;subst f4_;subst f5_))
      refine hK.out _ _ ⟨zk K348 0,zk K348 1,zk K349 0,zk K349 1,zk K349 2,zk K349 3,zk K349 4,zk K349 5,zk K349 6,zk K349 7,zk K349 8,zk K349 9,zk K349 10,zk K349 11⟩ (fun hHeld => ?_)
      clear hK K
      refine nz 14 ?_
      refine two_ (i:=4) (j:=8) (Ni:=some 16) (Nj:=some 7) #[T,T,T,T,T,F,F,F,F,F,F] #[T,T,T,T,F,F,F,F,T,F,F] rfl rfl rfl rfl (two_of HT_.out (by kernel_rfl)) (by decide) (by decide) (fun K hK => ?_) (fun K hK => ?_)
      ·skip
       refine zo_ Try.func28 #[.int .i64 a0,.agg #[.slice Ao18 t350.length co18,.bool t353],.agg #[.int .i64 a2_0,.int .i64 a2_1,.int .i64 a2_2,.int .i64 a2_3,.int .i64 a2_4,.int .i64 a2_5,.int .u64 a2_6,.int .i64 a2_7,.string a2_8,.int .i64 a2_9,.int .i64 a2_10,.string a2_11]] ?_
       with_reducible refine (forward_Decide.calls k a0 _ _ t350 t353 a2_0 a2_1 a2_2 a2_3 a2_4 a2_5 a2_6 a2_7 a2_8 a2_9 a2_10 a2_11 t354 t355 t356 t357 t358 t359 t360 t361 t362 t363 t364 t365 t366 t367 t368 _ ?side1 ?side2 A5.out).mono ?_
       (case side1 => exact zC ((Kd.R_reads' HO352.out).2.2))
       (case side2 => exact (Kd.R_reads' HO352.out).2.1)
       rintro e w19 ⟨rfl,hb⟩
       refine ⟨_,rfl,?_⟩
       replace HO352:=zRb HO352 hb
       replace K348:=zB K348 hb
       replace K349:=zB K349 hb
       replace HB:=zS HB hb
       (try clear hb)
       (try clear hb2)
       (try clear hk)
       (try clear hi)
       refine hK.out _ _ ⟨zk K348 0,zk K348 1,zk K349 0,zk K349 1,zk K349 2,zk K349 3,zk K349 4,zk K349 5,zk K349 6,zk K349 7,zk K349 8,zk K349 9,zk K349 10,zk K349 11⟩ (fun hHeld => ?_)
       clear hK K
       refine nz 16 ?_
       refine pz 5 11 #[T,T,T,T,T,T,F,F,F,F,F] HT_.1 ?_
       refine pz 6 17 #[T,T,T,T,T,T,T,F,F,F,F] HT_.1 ?_
       refine pz 7 18 #[T,T,T,T,T,T,T,T,F,F,F] HT_.1 ?_
       refine one_ (i:=8) (N:=some 7) #[T,T,T,T,T,T,T,T,T,F,F] rfl rfl (one_of HT_.out (by kernel_rfl)) (by decide) (fun K hK => ?_)
       refine zs_ (N:=7) (cs:=#[.int .i64 0,.int .i64 0,.int .i64 0,.int .i64 0,.int .i64 0,.int .i64 0,.int .i64 0,.int .i64 0,.int .u64 0,.int .i64 0,.string (⟨#[]⟩ : ByteArray),.int .i64 0,.int .i64 0,.string (⟨#[]⟩ : ByteArray)]) (t:=50) ?_
       intro G369 hg w20 hbox hb
       replace HO352:=zRb HO352 hb
       have K369:=Aside0.mk (hbox)
       have GW369:=zN HB hg
       have GE369:=zN HB hg
       replace HB:=zS HB hb
       have NB348_369:=zL K348 hg
       have NB369_348:=zG K348 hg
       replace K348:=zB K348 hb
       have NB349_369:=zL K349 hg
       have NB369_349:=zG K349 hg
       replace K349:=zB K349 hb
       clear hb hbox hg
       refine hK.out _ _ ⟨zk K348 0,zk K348 1,zk K349 0,zk K349 1,zk K349 2,zk K349 3,zk K349 4,zk K349 5,zk K349 6,zk K349 7,zk K349 8,zk K349 9,zk K349 10,zk K349 11⟩ (fun hHeld => ?_)
       clear hK K
       refine nz 7 ?_
       exact norm_ (by simp only [putAll,Act.put,xA,xB,xC]) (hCont (.slice Ao18 t350.length co18,G369) _ ⟨hHeld,(zR HO352),(z1 K348.1),(z1 K349.1),(z1 K369.1),GW369.1,GE369.1,NB348_369.1,NB369_348.1,NB349_369.1,NB369_349.1,(zH HB)⟩)
      ·skip
       refine zs_ (N:=7) (cs:=#[.int .i64 0,.int .i64 0,.int .i64 0,.int .i64 0,.int .i64 0,.int .i64 0,.int .i64 0,.int .i64 0,.int .u64 0,.int .i64 0,.string (⟨#[]⟩ : ByteArray),.int .i64 0,.int .i64 0,.string (⟨#[]⟩ : ByteArray)]) (t:=50) ?_
       intro G369 hg w18 hbox hb
       replace HO352:=zRb HO352 hb
       have K369:=Aside0.mk (hbox)
       have GW369:=zN HB hg
       have GE369:=zN HB hg
       replace HB:=zS HB hb
       have NB348_369:=zL K348 hg
       have NB369_348:=zG K348 hg
       replace K348:=zB K348 hb
       have NB349_369:=zL K349 hg
       have NB369_349:=zG K349 hg
       replace K349:=zB K349 hb
       clear hb hbox hg
       obtain ⟨Ao19,co19,eo19⟩:=Kd.R_slice HO352.out
       (first|subst eo19|(injection eo19 with f1_ f2_ f3_;have f4_:=f1_.symm;have f5_:=f3_.symm;clear f1_ f2_ f3_;subst f4_;subst f5_))
       refine hK.out _ _ ⟨zk K348 0,zk K348 1,zk K349 0,zk K349 1,zk K349 2,zk K349 3,zk K349 4,zk K349 5,zk K349 6,zk K349 7,zk K349 8,zk K349 9,zk K349 10,zk K349 11⟩ (fun hHeld => ?_)
       clear hK K
       refine nz 7 ?_
       refine one_ (i:=4) (N:=some 16) #[T,T,T,T,T,F,F,F,T,F,F] rfl rfl (one_of HT_.out (by kernel_rfl)) (by decide) (fun K hK => ?_)
       refine zo_ Try.func28 #[.int .i64 a0,.agg #[.slice Ao19 t350.length co19,.bool t353],.agg #[.int .i64 a2_0,.int .i64 a2_1,.int .i64 a2_2,.int .i64 a2_3,.int .i64 a2_4,.int .i64 a2_5,.int .u64 a2_6,.int .i64 a2_7,.string a2_8,.int .i64 a2_9,.int .i64 a2_10,.string a2_11]] ?_
       with_reducible refine (forward_Decide.calls k a0 _ _ t350 t353 a2_0 a2_1 a2_2 a2_3 a2_4 a2_5 a2_6 a2_7 a2_8 a2_9 a2_10 a2_11 t354 t355 t356 t357 t358 t359 t360 t361 t362 t363 t364 t365 t366 t367 t368 _ ?side1 ?side2 A5.out).mono ?_
       (case side1 => exact zC ((Kd.R_reads' HO352.out).2.2))
       (case side2 => exact (Kd.R_reads' HO352.out).2.1)
       rintro e w20 ⟨rfl,hb⟩
       refine ⟨_,rfl,?_⟩
       replace HO352:=zRb HO352 hb
       replace K348:=zB K348 hb
       replace K349:=zB K349 hb
       replace K369:=zB K369 hb
       replace HB:=zS HB hb
       (try clear hb)
       (try clear hb2)
       (try clear hk)
       (try clear hi)
       refine hK.out _ _ ⟨zk K348 0,zk K348 1,zk K349 0,zk K349 1,zk K349 2,zk K349 3,zk K349 4,zk K349 5,zk K349 6,zk K349 7,zk K349 8,zk K349 9,zk K349 10,zk K349 11⟩ (fun hHeld => ?_)
       clear hK K
       refine nz 16 ?_
       refine pz 5 11 #[T,T,T,T,T,T,F,F,T,F,F] HT_.1 ?_
       refine pz 6 17 #[T,T,T,T,T,T,T,F,T,F,F] HT_.1 ?_
       refine pz 7 18 #[T,T,T,T,T,T,T,T,T,F,F] HT_.1 ?_
       exact norm_ (by simp only [putAll,Act.put,xA,xB,xC]) (hCont (.slice Ao19 t350.length co19,G369) _ ⟨hHeld,(zR HO352),(z1 K348.1),(z1 K349.1),(z1 K369.1),GW369.1,GE369.1,NB348_369.1,NB369_348.1,NB349_369.1,NB369_349.1,(zH HB)⟩)
     ·skip
      refine zs_ (N:=7) (cs:=#[.int .i64 0,.int .i64 0,.int .i64 0,.int .i64 0,.int .i64 0,.int .i64 0,.int .i64 0,.int .i64 0,.int .u64 0,.int .i64 0,.string (⟨#[]⟩ : ByteArray),.int .i64 0,.int .i64 0,.string (⟨#[]⟩ : ByteArray)]) (t:=50) ?_
      intro G369 hg w17 hbox hb
      have K369:=Aside0.mk (hbox)
      have GW369:=zN HB hg
      have GE369:=zN HB hg
      replace HB:=zS HB hb
      have NB348_369:=zL K348 hg
      have NB369_348:=zG K348 hg
      replace K348:=zB K348 hb
      have NB349_369:=zL K349 hg
      have NB369_349:=zG K349 hg
      replace K349:=zB K349 hb
      clear hb hbox hg
      refine hK.out _ _ ⟨zk K348 0,zk K348 1,zk K349 0,zk K349 1,zk K349 2,zk K349 3,zk K349 4,zk K349 5,zk K349 6,zk K349 7,zk K349 8,zk K349 9,zk K349 10,zk K349 11⟩ (fun hHeld => ?_)
      clear hK K
      refine nz 7 ?_
      refine one_ (i:=2) (N:=some 14) #[T,T,T,T,F,F,F,F,T,F,F] rfl rfl (one_of HT_.out (by kernel_rfl)) (by decide) (fun K hK => ?_)
      refine zo_ Try.func29 #[.agg #[.slice A1_0 l1_0.length c1_0,.bool a1_1]] ?_
      with_reducible refine (beaconlaw19_own.calls k _ _ l1_0 a1_1 t350 t353 _ ?side1 ?side2 A4.out).mono ?_
      (case side1 => exact zC (Kd.C_below HR1_0.out HB.1))
      (case side2 => exact HC1_0.out)
      rintro e w18 ⟨v351,rfl,ho0,hb⟩
      refine ⟨_,rfl,?_⟩
      have HO352:=Aside0.mk (Kd.R_lower ho0 (zW HB))
      replace K348:=zB K348 hb
      replace K349:=zB K349 hb
      replace K369:=zB K369 hb
      replace HB:=zS HB hb
      (try clear hb)
      (try clear hb2)
      (try clear hk)
      (try clear hi)
      (try clear ho0)
      obtain ⟨Ao19,co19,eo19⟩:=Kd.R_slice HO352.out
      (first|subst eo19|(injection eo19 with f1_ f2_ f3_;have f4_:=f1_.symm;have f5_:=f3_.symm;clear f1_ f2_ f3_;subst f4_;subst f5_))
      refine hK.out _ _ ⟨zk K348 0,zk K348 1,zk K349 0,zk K349 1,zk K349 2,zk K349 3,zk K349 4,zk K349 5,zk K349 6,zk K349 7,zk K349 8,zk K349 9,zk K349 10,zk K349 11⟩ (fun hHeld => ?_)
      clear hK K
      refine nz 14 ?_
      refine one_ (i:=4) (N:=some 16) #[T,T,T,T,T,F,F,F,T,F,F] rfl rfl (one_of HT_.out (by kernel_rfl)) (by decide) (fun K hK => ?_)
      refine zo_ Try.func28 #[.int .i64 a0,.agg #[.slice Ao19 t350.length co19,.bool t353],.agg #[.int .i64 a2_0,.int .i64 a2_1,.int .i64 a2_2,.int .i64 a2_3,.int .i64 a2_4,.int .i64 a2_5,.int .u64 a2_6,.int .i64 a2_7,.string a2_8,.int .i64 a2_9,.int .i64 a2_10,.string a2_11]] ?_
      with_reducible refine (forward_Decide.calls k a0 _ _ t350 t353 a2_0 a2_1 a2_2 a2_3 a2_4 a2_5 a2_6 a2_7 a2_8 a2_9 a2_10 a2_11 t354 t355 t356 t357 t358 t359 t360 t361 t362 t363 t364 t365 t366 t367 t368 _ ?side1 ?side2 A5.out).mono ?_
      (case side1 => exact zC ((Kd.R_reads' HO352.out).2.2))
      (case side2 => exact (Kd.R_reads' HO352.out).2.1)
      rintro e w20 ⟨rfl,hb⟩
      refine ⟨_,rfl,?_⟩
      replace HO352:=zRb HO352 hb
      replace K348:=zB K348 hb
      replace K349:=zB K349 hb
      replace K369:=zB K369 hb
      replace HB:=zS HB hb
      (try clear hb)
      (try clear hb2)
      (try clear hk)
      (try clear hi)
      refine hK.out _ _ ⟨zk K348 0,zk K348 1,zk K349 0,zk K349 1,zk K349 2,zk K349 3,zk K349 4,zk K349 5,zk K349 6,zk K349 7,zk K349 8,zk K349 9,zk K349 10,zk K349 11⟩ (fun hHeld => ?_)
      clear hK K
      refine nz 16 ?_
      refine pz 5 11 #[T,T,T,T,T,T,F,F,T,F,F] HT_.1 ?_
      refine pz 6 17 #[T,T,T,T,T,T,T,F,T,F,F] HT_.1 ?_
      refine pz 7 18 #[T,T,T,T,T,T,T,T,T,F,F] HT_.1 ?_
      exact norm_ (by simp only [putAll,Act.put,xA,xB,xC]) (hCont (.slice Ao19 t350.length co19,G369) _ ⟨hHeld,(zR HO352),(z1 K348.1),(z1 K349.1),(z1 K369.1),GW369.1,GE369.1,NB348_369.1,NB369_348.1,NB349_369.1,NB369_349.1,(zH HB)⟩)
    rintro ⟨v351,G369⟩ w21 ⟨hS_,h0_,h1_,h2_,h3_,h4_,h5_,h6_,h7_,h8_,h9_,h10_⟩
    have HO352 : Aside0 (Kd.R k39 39 w21 w.heap.size (fun _ => True) v351 t350):=⟨h0_⟩
    replace K348 : Aside0 (w21.heap[G348]? = some (.cells #[.slice A1_0 l1_0.length c1_0,.bool a1_1] 24 (0,0))):=⟨h1_⟩
    replace K349 : Aside0 (w21.heap[G349]? = some (.cells #[.int .i64 a2_0,.int .i64 a2_1,.int .i64 a2_2,.int .i64 a2_3,.int .i64 a2_4,.int .i64 a2_5,.int .u64 a2_6,.int .i64 a2_7,.string a2_8,.int .i64 a2_9,.int .i64 a2_10,.string a2_11] 48 (0,0))):=⟨h2_⟩
    have K369 : Aside0 (w21.heap[G369]? = some (.cells #[.int .i64 0,.int .i64 0,.int .i64 0,.int .i64 0,.int .i64 0,.int .i64 0,.int .i64 0,.int .i64 0,.int .u64 0,.int .i64 0,.string (⟨#[]⟩ : ByteArray),.int .i64 0,.int .i64 0,.string (⟨#[]⟩ : ByteArray)] 50 (0,0))):=⟨h3_⟩
    have GW369 : Aside0 (w.heap.size ≤ G369):=⟨h4_⟩
    have GE369 : Aside0 (w.heap.size ≤ G369):=⟨h5_⟩
    have NB348_369 : Aside0 (G348 ≠ G369):=⟨h6_⟩
    have NB369_348 : Aside0 (G369 ≠ G348):=⟨h7_⟩
    have NB349_369 : Aside0 (G349 ≠ G369):=⟨h8_⟩
    have NB369_349 : Aside0 (G369 ≠ G349):=⟨h9_⟩
    replace HB : Aside0 (Below w.heap.size w w21):=⟨h10_⟩
    clear h0_ h10_ h1_ h2_ h3_ h4_ h5_ h6_ h7_ h8_ h9_
    have hHeld : w21.cell? ⟨G348,0,none⟩ = some (.slice A1_0 l1_0.length c1_0) ∧ w21.cell? ⟨G348,1,none⟩ = some (.bool a1_1) ∧ w21.cell? ⟨G349,0,none⟩ = some (.int .i64 a2_0) ∧ w21.cell? ⟨G349,1,none⟩ = some (.int .i64 a2_1) ∧ w21.cell? ⟨G349,2,none⟩ = some (.int .i64 a2_2) ∧ w21.cell? ⟨G349,3,none⟩ = some (.int .i64 a2_3) ∧ w21.cell? ⟨G349,4,none⟩ = some (.int .i64 a2_4) ∧ w21.cell? ⟨G349,5,none⟩ = some (.int .i64 a2_5) ∧ w21.cell? ⟨G349,6,none⟩ = some (.int .u64 a2_6) ∧ w21.cell? ⟨G349,7,none⟩ = some (.int .i64 a2_7) ∧ w21.cell? ⟨G349,8,none⟩ = some (.string a2_8) ∧ w21.cell? ⟨G349,9,none⟩ = some (.int .i64 a2_9) ∧ w21.cell? ⟨G349,10,none⟩ = some (.int .i64 a2_10) ∧ w21.cell? ⟨G349,11,none⟩ = some (.string a2_11):=hS_
    refine norm_ (a':=?_) ?_ ?_
    rotate_left
    ·simp only [putAll,Act.put,xA,xB,xC]
     rfl
    refine one_ (i:=9) (N:=none) #[T,T,T,T,T,T,T,T,T,T,F] rfl rfl (one_of HT_.out (by kernel_rfl)) (by decide) (fun K hK => ?_)
    have hs22 : w21.cell? ⟨G369,0,none⟩ = some (.int .i64 0):=zk K369 0
    have hfs22:=bF K369.1 0
    have:=NB348_369.1
    have:=NB349_369.1
    have:=NB369_348.1
    have:=NB369_349.1
    have hs23 : w21.cell? ⟨G369,1,none⟩ = some (.int .i64 0):=zk K369 1
    have hfs23:=bF K369.1 1
    have:=NB348_369.1
    have:=NB349_369.1
    have:=NB369_348.1
    have:=NB369_349.1
    have hs24 : w21.cell? ⟨G369,2,none⟩ = some (.int .i64 0):=zk K369 2
    have hfs24:=bF K369.1 2
    have:=NB348_369.1
    have:=NB349_369.1
    have:=NB369_348.1
    have:=NB369_349.1
    have hs25 : w21.cell? ⟨G369,3,none⟩ = some (.int .i64 0):=zk K369 3
    have hfs25:=bF K369.1 3
    have:=NB348_369.1
    have:=NB349_369.1
    have:=NB369_348.1
    have:=NB369_349.1
    have hs26 : w21.cell? ⟨G369,4,none⟩ = some (.int .i64 0):=zk K369 4
    have hfs26:=bF K369.1 4
    have:=NB348_369.1
    have:=NB349_369.1
    have:=NB369_348.1
    have:=NB369_349.1
    have hs27 : w21.cell? ⟨G369,5,none⟩ = some (.int .i64 0):=zk K369 5
    have hfs27:=bF K369.1 5
    have:=NB348_369.1
    have:=NB349_369.1
    have:=NB369_348.1
    have:=NB369_349.1
    have hs28 : w21.cell? ⟨G369,6,none⟩ = some (.int .i64 0):=zk K369 6
    have hfs28:=bF K369.1 6
    have:=NB348_369.1
    have:=NB349_369.1
    have:=NB369_348.1
    have:=NB369_349.1
    have hs29 : w21.cell? ⟨G369,7,none⟩ = some (.int .i64 0):=zk K369 7
    have hfs29:=bF K369.1 7
    have:=NB348_369.1
    have:=NB349_369.1
    have:=NB369_348.1
    have:=NB369_349.1
    have hs30 : w21.cell? ⟨G369,8,none⟩ = some (.int .u64 0):=zk K369 8
    have hfs30:=bF K369.1 8
    have:=NB348_369.1
    have:=NB349_369.1
    have:=NB369_348.1
    have:=NB369_349.1
    have hs31 : w21.cell? ⟨G369,9,none⟩ = some (.int .i64 0):=zk K369 9
    have hfs31:=bF K369.1 9
    have:=NB348_369.1
    have:=NB349_369.1
    have:=NB369_348.1
    have:=NB369_349.1
    have hs32 : w21.cell? ⟨G369,10,none⟩ = some (.string (⟨#[]⟩ : ByteArray)):=zk K369 10
    have hfs32:=bF K369.1 10
    have:=NB348_369.1
    have:=NB349_369.1
    have:=NB369_348.1
    have:=NB369_349.1
    have hs33 : w21.cell? ⟨G369,11,none⟩ = some (.int .i64 0):=zk K369 11
    have hfs33:=bF K369.1 11
    have:=NB348_369.1
    have:=NB349_369.1
    have:=NB369_348.1
    have:=NB369_349.1
    have hs34 : w21.cell? ⟨G369,12,none⟩ = some (.int .i64 0):=zk K369 12
    have hfs34:=bF K369.1 12
    have:=NB348_369.1
    have:=NB349_369.1
    have:=NB369_348.1
    have:=NB369_349.1
    have hs35 : w21.cell? ⟨G369,13,none⟩ = some (.string (⟨#[]⟩ : ByteArray)):=zk K369 13
    have hfs35:=bF K369.1 13
    have:=NB348_369.1
    have:=NB349_369.1
    have:=NB369_348.1
    have:=NB369_349.1
    refine sz ?_
    refine hK.out _ _ ⟨(zx (hHeld.1) NB348_369.1),(zx (hHeld.2.1) NB348_369.1),(zx (hHeld.2.2.1) NB349_369.1),(zx (hHeld.2.2.2.1) NB349_369.1),(zx (hHeld.2.2.2.2.1) NB349_369.1),(zx (hHeld.2.2.2.2.2.1) NB349_369.1),(zx (hHeld.2.2.2.2.2.2.1) NB349_369.1),(zx (hHeld.2.2.2.2.2.2.2.1) NB349_369.1),(zx (hHeld.2.2.2.2.2.2.2.2.1) NB349_369.1),(zx (hHeld.2.2.2.2.2.2.2.2.2.1) NB349_369.1),(zx (hHeld.2.2.2.2.2.2.2.2.2.2.1) NB349_369.1),(zx (hHeld.2.2.2.2.2.2.2.2.2.2.2.1) NB349_369.1),(zx (hHeld.2.2.2.2.2.2.2.2.2.2.2.2.1) NB349_369.1),(zx (hHeld.2.2.2.2.2.2.2.2.2.2.2.2.2) NB349_369.1)⟩ (fun hHeld => ?_)
    clear hK K
    refine pz 10 8 #[T,T,T,T,T,T,T,T,T,T,T] HT_.1 ?_
    refine done_ (done_of HT_.out (by kernel_rfl)) ?_
    have:=NB348_349.1
    have:=NB349_348.1
    have:=NB348_369.1
    have:=NB369_348.1
    obtain ⟨hcz38_0,hcz38_1,hfz38_0,hfz38_1⟩:=zc2 K348
    have:=NB349_369.1
    have:=NB369_349.1
    obtain ⟨hcz40_0,hcz40_1,hcz40_2,hcz40_3,hcz40_4,hcz40_5,hcz40_6,hcz40_7,hcz40_8,hcz40_9,hcz40_10,hcz40_11,hfz40_0,hfz40_1,hfz40_2,hfz40_3,hfz40_4,hfz40_5,hfz40_6,hfz40_7,hfz40_8,hfz40_9,hfz40_10,hfz40_11⟩:=zc12 K349
    try go_wp2_with (first|((with_reducible refine gate_callee (f:=30) rfl ?_);refine zg (some 23) Try.func30 #[.int .i64 a0,.agg #[.slice A1_0 l1_0.length c1_0,.bool a1_1],.agg #[.int .i64 a2_0,.int .i64 a2_1,.int .i64 a2_2,.int .i64 a2_3,.int .i64 a2_4,.int .i64 a2_5,.int .u64 a2_6,.int .i64 a2_7,.string a2_8,.int .i64 a2_9,.int .i64 a2_10,.string a2_11]] ?_;(with_reducible refine (beaconref19_Decide.calls k a0 _ _ l1_0 a1_1 a2_0 a2_1 a2_2 a2_3 a2_4 a2_5 a2_6 a2_7 a2_8 a2_9 a2_10 a2_11 t370 t371 t372 t373 t374 t375 t376 t377 t378 t379 t380 t381 t382 t383 t384 _ ?side1 ?side2 A6.out).mono ?_);(case side1 => exact Kd.C_below HR1_0.out (zH HB));(case side2 => exact HC1_0.out);rintro e w41 ⟨rfl,hb⟩;refine ⟨_,rfl,?_⟩;replace HO352:=Aside0.mk (Kd.R_below (by (with_reducible repeat (first|apply Kd.R_alloc|apply Kd.R_drewN|apply Kd.R_drew));exact (Kd.R_mono (Kd.R_far (p:=⟨G369,13,none⟩) (Kd.R_far (p:=⟨G369,12,none⟩) (Kd.R_far (p:=⟨G369,11,none⟩) (Kd.R_far (p:=⟨G369,10,none⟩) (Kd.R_far (p:=⟨G369,9,none⟩) (Kd.R_far (p:=⟨G369,8,none⟩) (Kd.R_far (p:=⟨G369,7,none⟩) (Kd.R_far (p:=⟨G369,6,none⟩) (Kd.R_far (p:=⟨G369,5,none⟩) (Kd.R_far (p:=⟨G369,4,none⟩) (Kd.R_far (p:=⟨G369,3,none⟩) (Kd.R_far (p:=⟨G369,2,none⟩) (Kd.R_far (p:=⟨G369,1,none⟩) (Kd.R_far (p:=⟨G369,0,none⟩) (Kd.R_types HO352.out K369.1 (by decide)) (fun _ hk => hk.2) (.int .i64 t354)) (fun _ hk => hk.2) (.int .i64 t355)) (fun _ hk => hk.2) (.int .i64 t356)) (fun _ hk => hk.2) (.int .i64 t357)) (fun _ hk => hk.2) (.int .i64 t358)) (fun _ hk => hk.2) (.int .i64 t359)) (fun _ hk => hk.2) (.int .i64 t360)) (fun _ hk => hk.2) (.int .i64 t361)) (fun _ hk => hk.2) (.int .u64 t362)) (fun _ hk => hk.2) (.int .i64 t363)) (fun _ hk => hk.2) (.string t364)) (fun _ hk => hk.2) (.int .i64 t365)) (fun _ hk => hk.2) (.int .i64 t366)) (fun _ hk => hk.2) (.string t367)) (fun _ h_ => h_.1))) hb);replace K348:=zBf K348 hb;replace K349:=zBf K349 hb;replace K369:=zBp (.cells #[.int .i64 t354,.int .i64 t355,.int .i64 t356,.int .i64 t357,.int .i64 t358,.int .i64 t359,.int .i64 t360,.int .i64 t361,.int .u64 t362,.int .i64 t363,.string t364,.int .i64 t365,.int .i64 t366,.string t367] 50 (0,0)) K369 hb;replace HB:=zS HB hb;(try clear hb))|((with_reducible refine gate_dst (N:=9) rfl ?_);refine zb (N:=9) (cs:=#[.int .i64 0,.int .i64 0,.int .i64 0,.int .i64 0,.int .i64 0,.int .i64 0,.int .i64 0,.int .i64 0,.int .u64 0,.int .i64 0,.string (⟨#[]⟩ : ByteArray),.int .i64 0,.int .i64 0,.string (⟨#[]⟩ : ByteArray)]) (t:=50) ?_;intro G385 hg w42 hbox hb;replace HO352:=zRb HO352 hb;have K385:=Aside0.mk (hbox);have GW385:=zN HB hg;have GE385:=zN HB hg;replace HB:=zS HB hb;have NB348_385:=zL K348 hg;have NB385_348:=zG K348 hg;replace K348:=zB K348 hb;have NB349_385:=zL K349 hg;have NB385_349:=zG K349 hg;replace K349:=zB K349 hb;have NB369_385:=zL K369 hg;have NB385_369:=zG K369 hg;replace K369:=zB K369 hb;clear hb hbox hg;have:=NB385_348.1;have:=NB348_385.1;have:=NB385_349.1;have:=NB349_385.1;have:=NB385_369.1;have:=NB369_385.1;obtain ⟨hcz46_0,hcz46_1,hcz46_2,hcz46_3,hcz46_4,hcz46_5,hcz46_6,hcz46_7,hcz46_8,hcz46_9,hcz46_10,hcz46_11,hcz46_12,hcz46_13,hfz46_0,hfz46_1,hfz46_2,hfz46_3,hfz46_4,hfz46_5,hfz46_6,hfz46_7,hfz46_8,hfz46_9,hfz46_10,hfz46_11,hfz46_12,hfz46_13⟩:=zc14 K385)|((with_reducible refine gate_store (t:=50) (p:=9) rfl ?_);refine store_event (t:=50) (p:=9) (v:=?vo_w47) (w1:=((((((((((((((w42.setCell ⟨G385,0,none⟩ (.int .i64 t370)).setCell ⟨G385,1,none⟩ (.int .i64 t371)).setCell ⟨G385,2,none⟩ (.int .i64 t372)).setCell ⟨G385,3,none⟩ (.int .i64 t373)).setCell ⟨G385,4,none⟩ (.int .i64 t374)).setCell ⟨G385,5,none⟩ (.int .i64 t375)).setCell ⟨G385,6,none⟩ (.int .i64 t376)).setCell ⟨G385,7,none⟩ (.int .i64 t377)).setCell ⟨G385,8,none⟩ (.int .u64 t378)).setCell ⟨G385,9,none⟩ (.int .i64 t379)).setCell ⟨G385,10,none⟩ (.string t380)).setCell ⟨G385,11,none⟩ (.int .i64 t381)).setCell ⟨G385,12,none⟩ (.int .i64 t382)).setCell ⟨G385,13,none⟩ (.string t383))) ?hg ?ho ?hn ?hr ?_;(case ho => rfl);(case hg => rfl);(case hn => rfl);(case hr => first|(go_simp;done)|(go_simp;rfl));intro w47 hw;replace HO352 : Aside0 (Kd.R k39 39 w47 w.heap.size (fun _ => True) v351 t350):=⟨(by rw [hw];exact (zRf HO352 K385 (fun _ hk => trivial)))⟩;replace K348:=zV hw K348;replace K349:=zV hw K349;replace K369:=zV hw K369;replace K385:=zVp hw (.cells #[.int .i64 t370,.int .i64 t371,.int .i64 t372,.int .i64 t373,.int .i64 t374,.int .i64 t375,.int .i64 t376,.int .i64 t377,.int .u64 t378,.int .i64 t379,.string t380,.int .i64 t381,.int .i64 t382,.string t383] 50 (0,0)) K385;replace HB:=zU hw HB;clear hw))
    replace HO352:=Aside0.mk (Kd.R_drew HO352.out)
    replace K348:=Aside0.mk (bD K348.1)
    replace K349:=Aside0.mk (bD K349.1)
    replace K369:=Aside0.mk (bD K369.1)
    replace K385:=Aside0.mk (bD K385.1)
    replace HB:=Aside0.mk (bw1 HB.1)
    refine start_ (n:=19) (S:=fun w' => w'.cell? ⟨G369,0,none⟩ = some (.int .i64 t354) ∧ w'.cell? ⟨G369,1,none⟩ = some (.int .i64 t355) ∧ w'.cell? ⟨G369,2,none⟩ = some (.int .i64 t356) ∧ w'.cell? ⟨G369,3,none⟩ = some (.int .i64 t357) ∧ w'.cell? ⟨G369,4,none⟩ = some (.int .i64 t358) ∧ w'.cell? ⟨G369,5,none⟩ = some (.int .i64 t359) ∧ w'.cell? ⟨G369,6,none⟩ = some (.int .i64 t360) ∧ w'.cell? ⟨G369,7,none⟩ = some (.int .i64 t361) ∧ w'.cell? ⟨G369,8,none⟩ = some (.int .u64 t362) ∧ w'.cell? ⟨G369,9,none⟩ = some (.int .i64 t363) ∧ w'.cell? ⟨G369,10,none⟩ = some (.string t364) ∧ w'.cell? ⟨G369,11,none⟩ = some (.int .i64 t365) ∧ w'.cell? ⟨G369,12,none⟩ = some (.int .i64 t366) ∧ w'.cell? ⟨G369,13,none⟩ = some (.string t367) ∧ w'.cell? ⟨G385,0,none⟩ = some (.int .i64 t370) ∧ w'.cell? ⟨G385,1,none⟩ = some (.int .i64 t371) ∧ w'.cell? ⟨G385,2,none⟩ = some (.int .i64 t372) ∧ w'.cell? ⟨G385,3,none⟩ = some (.int .i64 t373) ∧ w'.cell? ⟨G385,4,none⟩ = some (.int .i64 t374) ∧ w'.cell? ⟨G385,5,none⟩ = some (.int .i64 t375) ∧ w'.cell? ⟨G385,6,none⟩ = some (.int .i64 t376) ∧ w'.cell? ⟨G385,7,none⟩ = some (.int .i64 t377) ∧ w'.cell? ⟨G385,8,none⟩ = some (.int .u64 t378) ∧ w'.cell? ⟨G385,9,none⟩ = some (.int .i64 t379) ∧ w'.cell? ⟨G385,10,none⟩ = some (.string t380) ∧ w'.cell? ⟨G385,11,none⟩ = some (.int .i64 t381) ∧ w'.cell? ⟨G385,12,none⟩ = some (.int .i64 t382) ∧ w'.cell? ⟨G385,13,none⟩ = some (.string t383)) (ds:=[]) #[F,F,F,F,F,F,F,F,F,F,F,F,F,F,F,F,F,F,F] (by kernel_rfl) rfl rfl ⟨zk K369 0,zk K369 1,zk K369 2,zk K369 3,zk K369 4,zk K369 5,zk K369 6,zk K369 7,zk K369 8,zk K369 9,zk K369 10,zk K369 11,zk K369 12,zk K369 13,zk K385 0,zk K385 1,zk K385 2,zk K385 3,zk K385 4,zk K385 5,zk K385 6,zk K385 7,zk K385 8,zk K385 9,zk K385 10,zk K385 11,zk K385 12,zk K385 13⟩ (fun hHeld => ?_);refine with_tabW beaconlaw19_ForwardDecides.tab3 beaconlaw19_ForwardDecides.bits3 (fun HT_ HW_ => ?_)
    generalize w47.drew = w48 at HO352 K348 K349 K369 K385 HB hHeld ⊢
    refine pz 0 26 #[T,F,F,F,F,F,F,F,F,F,F,F,F,F,F,F,F,F,F] HT_.1 ?_
    refine pz 1 27 #[T,T,F,F,F,F,F,F,F,F,F,F,F,F,F,F,F,F,F] HT_.1 ?_
    refine pz 2 28 #[T,T,T,F,F,F,F,F,F,F,F,F,F,F,F,F,F,F,F] HT_.1 ?_
    refine pz 3 29 #[T,T,T,T,F,F,F,F,F,F,F,F,F,F,F,F,F,F,F] HT_.1 ?_
    refine tz 4 30 #[T,T,T,T,T,F,F,F,F,F,F,F,F,F,F,F,F,F,F] HT_.1 HW_.1 hHeld ?_
    refine tz 5 31 #[T,T,T,T,T,T,F,F,F,F,F,F,F,F,F,F,F,F,F] HT_.1 HW_.1 hHeld ?_
    refine one_ (i:=6) (N:=some 32) #[T,T,T,T,T,T,T,F,F,F,F,F,F,F,F,F,F,F,F] rfl rfl (one_of HT_.out (by kernel_rfl)) (by decide) (fun K hK => ?_)
    refine zo_ Try.func31 #[.agg #[.int .i64 t354,.int .i64 t355,.int .i64 t356,.int .i64 t357,.int .i64 t358,.int .i64 t359,.int .i64 t360,.int .i64 t361,.int .u64 t362,.int .i64 t363,.string t364,.int .i64 t365,.int .i64 t366,.string t367],.agg #[.int .i64 t370,.int .i64 t371,.int .i64 t372,.int .i64 t373,.int .i64 t374,.int .i64 t375,.int .i64 t376,.int .i64 t377,.int .u64 t378,.int .i64 t379,.string t380,.int .i64 t381,.int .i64 t382,.string t383]] ?_
    with_reducible refine (beaconlaw19_same.calls t354 t355 t356 t357 t358 t359 t360 t361 t362 t363 t364 t365 t366 t367 t370 t371 t372 t373 t374 t375 t376 t377 t378 t379 t380 t381 t382 t383 true _ A8.out).mono ?_
    rintro e w49 ⟨rfl,hb⟩
    refine ⟨_,rfl,?_⟩
    replace HO352:=zRb HO352 hb
    replace K348:=zB K348 hb
    replace K349:=zB K349 hb
    replace K369:=zB K369 hb
    replace K385:=zB K385 hb
    replace HB:=zS HB hb
    (try clear hb)
    (try clear hb2)
    (try clear hk)
    (try clear hi)
    refine hK.out _ _ ⟨zk K369 0,zk K369 1,zk K369 2,zk K369 3,zk K369 4,zk K369 5,zk K369 6,zk K369 7,zk K369 8,zk K369 9,zk K369 10,zk K369 11,zk K369 12,zk K369 13,zk K385 0,zk K385 1,zk K385 2,zk K385 3,zk K385 4,zk K385 5,zk K385 6,zk K385 7,zk K385 8,zk K385 9,zk K385 10,zk K385 11,zk K385 12,zk K385 13⟩ (fun hHeld => ?_)
    clear hK K
    refine nz 32 ?_
    refine pz 7 33 #[T,T,T,T,T,T,T,T,F,F,F,F,F,F,F,F,F,F,F] HT_.1 ?_
    refine pz 8 34 #[T,T,T,T,T,T,T,T,T,F,F,F,F,F,F,F,F,F,F] HT_.1 ?_
    refine tz 9 35 #[T,T,T,T,T,T,T,T,T,T,F,F,F,F,F,F,F,F,F] HT_.1 HW_.1 hHeld ?_
    refine tz 11 37 #[T,T,T,T,T,T,T,T,T,T,F,T,F,F,F,F,F,F,F] HT_.1 HW_.1 hHeld ?_
    refine one_ (i:=10) (N:=some 36) #[T,T,T,T,T,T,T,T,T,T,T,T,F,F,F,F,F,F,F] rfl rfl (one_of HT_.out (by kernel_rfl)) (by decide) (fun K hK => ?_)
    refine zo_ Try.func32 #[.agg #[.int .i64 t370,.int .i64 t371,.int .i64 t372,.int .i64 t373,.int .i64 t374,.int .i64 t375,.int .i64 t376,.int .i64 t377,.int .u64 t378,.int .i64 t379,.string t380,.int .i64 t381,.int .i64 t382,.string t383]] ?_
    with_reducible refine (forward_Code.calls t370 t371 t372 t373 t374 t375 t376 t377 t378 t379 t380 t381 t382 t383 t387 _ A10.out).mono ?_
    rintro e w50 ⟨rfl,hb⟩
    refine ⟨_,rfl,?_⟩
    replace HO352:=zRb HO352 hb
    replace K348:=zB K348 hb
    replace K349:=zB K349 hb
    replace K369:=zB K369 hb
    replace K385:=zB K385 hb
    replace HB:=zS HB hb
    (try clear hb)
    (try clear hb2)
    (try clear hk)
    (try clear hi)
    refine hK.out _ _ ⟨zk K369 0,zk K369 1,zk K369 2,zk K369 3,zk K369 4,zk K369 5,zk K369 6,zk K369 7,zk K369 8,zk K369 9,zk K369 10,zk K369 11,zk K369 12,zk K369 13,zk K385 0,zk K385 1,zk K385 2,zk K385 3,zk K385 4,zk K385 5,zk K385 6,zk K385 7,zk K385 8,zk K385 9,zk K385 10,zk K385 11,zk K385 12,zk K385 13⟩ (fun hHeld => ?_)
    clear hK K
    refine nz 36 ?_
    refine one_ (i:=12) (N:=some 38) #[T,T,T,T,T,T,T,T,T,T,T,T,T,F,F,F,F,F,F] rfl rfl (one_of HT_.out (by kernel_rfl)) (by decide) (fun K hK => ?_)
    refine zo_ Try.func33 #[.agg #[.int .i64 t370,.int .i64 t371,.int .i64 t372,.int .i64 t373,.int .i64 t374,.int .i64 t375,.int .i64 t376,.int .i64 t377,.int .u64 t378,.int .i64 t379,.string t380,.int .i64 t381,.int .i64 t382,.string t383]] ?_
    with_reducible refine (beaconref19_Code.calls t370 t371 t372 t373 t374 t375 t376 t377 t378 t379 t380 t381 t382 t383 t388 _ A11.out).mono ?_
    rintro e w51 ⟨rfl,hb⟩
    refine ⟨_,rfl,?_⟩
    replace HO352:=zRb HO352 hb
    replace K348:=zB K348 hb
    replace K349:=zB K349 hb
    replace K369:=zB K369 hb
    replace K385:=zB K385 hb
    replace HB:=zS HB hb
    (try clear hb)
    (try clear hb2)
    (try clear hk)
    (try clear hi)
    refine hK.out _ _ ⟨zk K369 0,zk K369 1,zk K369 2,zk K369 3,zk K369 4,zk K369 5,zk K369 6,zk K369 7,zk K369 8,zk K369 9,zk K369 10,zk K369 11,zk K369 12,zk K369 13,zk K385 0,zk K385 1,zk K385 2,zk K385 3,zk K385 4,zk K385 5,zk K385 6,zk K385 7,zk K385 8,zk K385 9,zk K385 10,zk K385 11,zk K385 12,zk K385 13⟩ (fun hHeld => ?_)
    clear hK K
    refine nz 38 ?_
    refine pz 13 39 #[T,T,T,T,T,T,T,T,T,T,T,T,T,T,F,F,F,F,F] HT_.1 ?_
    refine pz 14 40 #[T,T,T,T,T,T,T,T,T,T,T,T,T,T,T,F,F,F,F] HT_.1 ?_
    refine pz 15 41 #[T,T,T,T,T,T,T,T,T,T,T,T,T,T,T,T,F,F,F] HT_.1 ?_
    refine one_ (i:=16) (N:=some 42) #[T,T,T,T,T,T,T,T,T,T,T,T,T,T,T,T,T,F,F] rfl rfl (one_of HT_.out (by kernel_rfl)) (by decide) (fun K hK => ?_)
    refine zo_ Try.func34 #[] ?_
    with_reducible refine (beaconlaw19_awake.calls k  t389 _ A13.out).mono ?_
    rintro e w52 ⟨rfl,hb⟩
    refine ⟨_,rfl,?_⟩
    replace HO352:=zRb HO352 hb
    replace K348:=zB K348 hb
    replace K349:=zB K349 hb
    replace K369:=zB K369 hb
    replace K385:=zB K385 hb
    replace HB:=zS HB hb
    (try clear hb)
    (try clear hb2)
    (try clear hk)
    (try clear hi)
    refine hK.out _ _ ⟨zk K369 0,zk K369 1,zk K369 2,zk K369 3,zk K369 4,zk K369 5,zk K369 6,zk K369 7,zk K369 8,zk K369 9,zk K369 10,zk K369 11,zk K369 12,zk K369 13,zk K385 0,zk K385 1,zk K385 2,zk K385 3,zk K385 4,zk K385 5,zk K385 6,zk K385 7,zk K385 8,zk K385 9,zk K385 10,zk K385 11,zk K385 12,zk K385 13⟩ (fun hHeld => ?_)
    clear hK K
    refine nz 42 ?_
    refine pz 17 43 #[T,T,T,T,T,T,T,T,T,T,T,T,T,T,T,T,T,T,F] HT_.1 ?_
    refine pz 18 6 #[T,T,T,T,T,T,T,T,T,T,T,T,T,T,T,T,T,T,T] HT_.1 ?_
    refine done_ (done_of HT_.out (by kernel_rfl)) ?_
    try go_wp2
    go_ret
    exact ⟨zE,zH HB⟩
   ·rw [if_neg c12] at H
    have c12b0 : (t387 == t388) = false:=beq_eq_false_iff_ne.mpr c12
    have c12b1 : (t387 != t388) = true:=bne_iff_ne.mpr c12
    exact absurd ((Option.some.inj H).trans hr_) (by decide)
  ·replace c9:=Bool.eq_false_iff.mpr c9
   subst c9
   rw [if_neg (show ¬ (false = true) by decide)] at H
   exact absurd ((Option.some.inj H).trans hr_) (by decide)
 ·rw [if_neg c7] at H
  have c7b0 : (t368 == t384) = false:=beq_eq_false_iff_ne.mpr c7
  have c7b1 : (t368 != t384) = true:=bne_iff_ne.mpr c7
  exact absurd ((Option.some.inj H).trans hr_) (by decide)

end Go.Proofs.Ytgmjlhpigfaicaa.XF
