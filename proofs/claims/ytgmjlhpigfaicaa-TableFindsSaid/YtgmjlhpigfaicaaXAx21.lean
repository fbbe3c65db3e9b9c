/- Go functions of this seat as Lean functions, with proofs that the calls come to them. (Written by xprint.py, a program of this session, over the kit's print.) -/
import Derived.Test.YtgmjlhpigfaicaaXAx0
import Derived.Test.YtgmjlhpigfaicaaXAx6
import Derived.Test.YtgmjlhpigfaicaaXAx9
import Derived.Test.YtgmjlhpigfaicaaXAx12
import Derived.Test.YtgmjlhpigfaicaaXAx16
import Derived.Test.YtgmjlhpigfaicaaXAx18
import Derived.Test.YtgmjlhpigfaicaaXAx19
import Derived.Test.YtgmjlhpigfaicaaXAx20
namespace Go.Proofs.Ytgmjlhpigfaicaa.XA
open Go.RowKit Go.Proofs.YtgmjlhpigfaicaaW.PrintWords Go.Proofs.YtgmjlhpigfaicaaW.PrintLast Go.Proofs.YtgmjlhpigfaicaaW.PrintMore
attribute [local go_sem] max2_int min2_int max_two min_two max_three min_three max_four min_four   -- for this text's walks alone
set_option linter.unusedVariables false
set_option linter.unusedSimpArgs false
theorem Z21.zm {p q : Prop} (hk : p) (f : p → q := by (intro hk; (repeat' (with_reducible refine And.intro ?_ ?_)); (all_goals first | exact hk | exact hk.1 | exact hk.2 | exact hk.1.1 | exact hk.1.2 | exact hk.2.1 | exact hk.2.2 | exact hk.1.1.1 | exact hk.1.1.2 | exact hk.1.2.1 | exact hk.1.2.2 | exact hk.2.1.1 | exact hk.2.1.2 | exact hk.2.2.1 | exact hk.2.2.2 | exact hk.1.1.1.1 | exact hk.1.1.1.2 | exact hk.1.1.2.1 | exact hk.1.1.2.2 | exact hk.1.2.1.1 | exact hk.1.2.1.2 | exact hk.1.2.2.1 | exact hk.1.2.2.2 | exact hk.2.1.1.1 | exact hk.2.1.1.2 | exact hk.2.1.2.1 | exact hk.2.1.2.2 | exact hk.2.2.1.1 | exact hk.2.2.1.2 | exact hk.2.2.2.1 | exact hk.2.2.2.2 | exact hk.1.1.1.1.1 | exact hk.1.1.1.1.2 | exact hk.1.1.1.2.1 | exact hk.1.1.1.2.2 | exact hk.1.1.2.1.1 | exact hk.1.1.2.1.2 | exact hk.1.1.2.2.1 | exact hk.1.1.2.2.2 | exact hk.1.2.1.1.1 | exact hk.1.2.1.1.2 | exact hk.1.2.1.2.1 | exact hk.1.2.1.2.2 | exact hk.1.2.2.1.1 | exact hk.1.2.2.1.2 | exact hk.1.2.2.2.1 | exact hk.1.2.2.2.2 | exact hk.2.1.1.1.1 | exact hk.2.1.1.1.2 | exact hk.2.1.1.2.1 | exact hk.2.1.1.2.2 | exact hk.2.1.2.1.1 | exact hk.2.1.2.1.2 | exact hk.2.1.2.2.1 | exact hk.2.1.2.2.2 | exact hk.2.2.1.1.1 | exact hk.2.2.1.1.2 | exact hk.2.2.1.2.1 | exact hk.2.2.1.2.2 | exact hk.2.2.2.1.1 | exact hk.2.2.2.1.2 | exact hk.2.2.2.2.1 | exact hk.2.2.2.2.2))) : q := f hk
open List renaming setIfInBounds_toArray → xA, set_cons_zero → xB, set_cons_succ → xC
open Go.Proofs.YtgmjlhpigfaicaaW.PrintWords renaming blk_drewN → bN, blk_drew → bD, blk_alloc → bA, below_set → bS, blk_frozen → bF, blk_cell → bC, cell_far → cF, blk_far → bZ, blk_below → bB, pw_below_drewN → bwN, below_drew1 → bw1, below_alloc → bwA
open Go.Proofs.YtgmjlhpigfaicaaW.PrintZ
open Bool renaming true → T,false → F

/-! ### beaconlaw17_TableFinds: function 7 -/
mutual
def beaconlaw17_TableFinds.j0 : Nat → Bool → List (S39) → Bool → Option (Bool)
 | 0, _, _, _ => none
 | k + 1, x47, x336000, x336001 => if x47 = true then (some false) else ((beaconlaw17_own.f k x336000 x336001).bind fun bt369 => ((table_Marks.f k bt369.1 bt369.2).bind fun t373 => ((beaconref17_Marks.f k x336000 x336001).bind fun t376 => (if (t373.length : Int) = (t376.length : Int) then (beaconlaw17_TableFinds.l0 k t373 t376 0) else (some false)))))
def beaconlaw17_TableFinds.l0 : Nat → List Int → List Int → Int → Option (Bool)
 | 0, _, _, _ => none
 | k + 1, x11, x12, x13 => if x13 < (x11.length : Int) then (if 0 ≤ x13 then (if x13 < (x12.length : Int) then (if (rd x11 x13) = (rd x12 x13) then (beaconlaw17_TableFinds.l0 k x11 x12 (wrap64 (x13 + 1))) else (some false)) else (none)) else (none)) else ((beaconlaw17_awake.f k).bind fun t381 => (some t381))
end
def beaconlaw17_TableFinds.f (k : Nat) (l0_0 : List (S39)) (a0_1 : Bool) (a1 : Int) (a2 : Int) : Option (Bool) := (beaconlaw17_own.f k l0_0 a0_1).bind fun bt336 => ((table_Find.f k bt336.1 bt336.2 a1).bind fun bt340 => ((beaconref17_Find.f k l0_0 a0_1 a1).bind fun bt348 => (if (bt340.2.2.2.2.2.2 != bt348.2.2.2.2.2.2) = true then (beaconlaw17_TableFinds.j0 k true l0_0 a0_1) else ((beaconref09_SameEntries.f k (([(⟨bt340.1, bt340.2.1, bt340.2.2.1, bt340.2.2.2.1, bt340.2.2.2.2.1, bt340.2.2.2.2.2.1⟩ : S39)] : List (S39))) (([(⟨bt348.1, bt348.2.1, bt348.2.2.1, bt348.2.2.2.1, bt348.2.2.2.2.1, bt348.2.2.2.2.2.1⟩ : S39)] : List (S39)))).bind fun t362 => (if t362 = true then ((beaconlaw17_own.f k l0_0 a0_1).bind fun bt363 => ((table_Count.f k bt363.1 bt363.2 a2).bind fun t367 => ((beaconref17_Count.f k l0_0 a0_1 a2).bind fun t368 => (beaconlaw17_TableFinds.j0 k (t367 != t368) l0_0 a0_1)))) else (beaconlaw17_TableFinds.j0 k true l0_0 a0_1))))))
theorem beaconlaw17_TableFinds.mono_l : ∀ k, (∀ y0 y1 y2, LeO (beaconlaw17_TableFinds.j0 k y0 y1 y2) (beaconlaw17_TableFinds.j0 (k + 1) y0 y1 y2)) ∧ (∀ y0 y1 y2, LeO (beaconlaw17_TableFinds.l0 k y0 y1 y2) (beaconlaw17_TableFinds.l0 (k + 1) y0 y1 y2))
 | 0 => ⟨fun _ _ _ r h => by simp [beaconlaw17_TableFinds.j0] at h, fun _ _ _ r h => by simp [beaconlaw17_TableFinds.l0] at h⟩
 | k + 1 => by
  obtain ⟨ih0,ih1⟩:=beaconlaw17_TableFinds.mono_l k
  refine ⟨?_,?_⟩
  ·intro y0 y1 y2
   unfold beaconlaw17_TableFinds.j0
   repeat' first
   | (with_reducible exact ih0 _ _ _)
   | (with_reducible exact ih1 _ _ _)
   | (with_reducible exact beaconlaw17_awake.mono _)
   | (with_reducible exact beaconlaw17_own.mono _ _ _)
   | (with_reducible exact beaconref09_SameEntries.mono _ _ _)
   | (with_reducible exact beaconref17_Count.mono _ _ _ _)
   | (with_reducible exact beaconref17_Find.mono _ _ _ _)
   | (with_reducible exact beaconref17_Marks.mono _ _ _)
   | (with_reducible exact table_Count.mono _ _ _ _)
   | (with_reducible exact table_Find.mono _ _ _ _)
   | (with_reducible exact table_Marks.mono _ _ _)
   | (with_reducible exact LeO.refl _)
   | (with_reducible exact LeO.none _)
   | (with_reducible refine LeO.ite ?_ ?_)
   | (with_reducible refine LeO.bind ?_ (fun _ => ?_))
   | exact ih0 _ _ _
   | exact ih1 _ _ _
   | exact beaconlaw17_awake.mono _
   | exact beaconlaw17_own.mono _ _ _
   | exact beaconref09_SameEntries.mono _ _ _
   | exact beaconref17_Count.mono _ _ _ _
   | exact beaconref17_Find.mono _ _ _ _
   | exact beaconref17_Marks.mono _ _ _
   | exact table_Count.mono _ _ _ _
   | exact table_Find.mono _ _ _ _
   | exact table_Marks.mono _ _ _
   | exact LeO.none _
   | refine LeO.ite ?_ ?_
   | refine LeO.bind ?_ (fun _ => ?_)
  ·intro y0 y1 y2
   unfold beaconlaw17_TableFinds.l0
   repeat' first
   | (with_reducible exact ih0 _ _ _)
   | (with_reducible exact ih1 _ _ _)
   | (with_reducible exact beaconlaw17_awake.mono _)
   | (with_reducible exact beaconlaw17_own.mono _ _ _)
   | (with_reducible exact beaconref09_SameEntries.mono _ _ _)
   | (with_reducible exact beaconref17_Count.mono _ _ _ _)
   | (with_reducible exact beaconref17_Find.mono _ _ _ _)
   | (with_reducible exact beaconref17_Marks.mono _ _ _)
   | (with_reducible exact table_Count.mono _ _ _ _)
   | (with_reducible exact table_Find.mono _ _ _ _)
   | (with_reducible exact table_Marks.mono _ _ _)
   | (with_reducible exact LeO.refl _)
   | (with_reducible exact LeO.none _)
   | (with_reducible refine LeO.ite ?_ ?_)
   | (with_reducible refine LeO.bind ?_ (fun _ => ?_))
   | exact ih0 _ _ _
   | exact ih1 _ _ _
   | exact beaconlaw17_awake.mono _
   | exact beaconlaw17_own.mono _ _ _
   | exact beaconref09_SameEntries.mono _ _ _
   | exact beaconref17_Count.mono _ _ _ _
   | exact beaconref17_Find.mono _ _ _ _
   | exact beaconref17_Marks.mono _ _ _
   | exact table_Count.mono _ _ _ _
   | exact table_Find.mono _ _ _ _
   | exact table_Marks.mono _ _ _
   | exact LeO.none _
   | refine LeO.ite ?_ ?_
   | refine LeO.bind ?_ (fun _ => ?_)
theorem beaconlaw17_TableFinds.mono : ∀ a0 a1 a2 a3 k, LeO (beaconlaw17_TableFinds.f k a0 a1 a2 a3) (beaconlaw17_TableFinds.f (k + 1) a0 a1 a2 a3) := by
 intro a0 a1 a2 a3 k
 obtain ⟨ih0,ih1⟩:=beaconlaw17_TableFinds.mono_l k
 unfold beaconlaw17_TableFinds.f
 repeat' first
   | (with_reducible exact ih0 _ _ _)
   | (with_reducible exact ih1 _ _ _)
   | (with_reducible exact beaconlaw17_awake.mono _)
   | (with_reducible exact beaconlaw17_own.mono _ _ _)
   | (with_reducible exact beaconref09_SameEntries.mono _ _ _)
   | (with_reducible exact beaconref17_Count.mono _ _ _ _)
   | (with_reducible exact beaconref17_Find.mono _ _ _ _)
   | (with_reducible exact beaconref17_Marks.mono _ _ _)
   | (with_reducible exact table_Count.mono _ _ _ _)
   | (with_reducible exact table_Find.mono _ _ _ _)
   | (with_reducible exact table_Marks.mono _ _ _)
   | (with_reducible exact LeO.refl _)
   | (with_reducible exact LeO.none _)
   | (with_reducible refine LeO.ite ?_ ?_)
   | (with_reducible refine LeO.bind ?_ (fun _ => ?_))
   | exact ih0 _ _ _
   | exact ih1 _ _ _
   | exact beaconlaw17_awake.mono _
   | exact beaconlaw17_own.mono _ _ _
   | exact beaconref09_SameEntries.mono _ _ _
   | exact beaconref17_Count.mono _ _ _ _
   | exact beaconref17_Find.mono _ _ _ _
   | exact beaconref17_Marks.mono _ _ _
   | exact table_Count.mono _ _ _ _
   | exact table_Find.mono _ _ _ _
   | exact table_Marks.mono _ _ _
   | exact LeO.none _
   | refine LeO.ite ?_ ?_
   | refine LeO.bind ?_ (fun _ => ?_)
def beaconlaw17_TableFinds.T3 : Bool × List (List Nat × List Nat) := (true, [([], []), ([], []), ([0, 1], [0, 1]), ([2], [2]), ([3], [3]), ([4, 3], [3, 4]), ([3], [3]), ([6, 3], [3, 6]), ([5, 7, 3, 3], [3, 5, 7]), ([8, 3], [3, 8]), ([3, 9], [3, 9]), ([10, 8], [10]), ([11], [11]), ([12, 11, 11], [11, 12]), ([11], [11]), ([13, 14, 13, 11], [11, 13, 14]), ([11], [11]), ([11], [11]), ([16, 17, 15, 11], [11, 16, 17]), ([15, 18, 11], [11, 15, 18]), ([11, 19], [11, 19])])
def beaconlaw17_TableFinds.B3 : List Nat := [0, 0, 3, 7, 15, 31, 15, 79, 255, 511, 1023, 2047, 4095, 8191, 4095, 32767, 4095, 4095, 262143, 524287, 1048575]
theorem beaconlaw17_TableFinds.tab3 : rtab .any (opsOf Try.f7 3) = beaconlaw17_TableFinds.T3 := by kernel_rfl
theorem beaconlaw17_TableFinds.bits3 : waitsOk beaconlaw17_TableFinds.T3.2 beaconlaw17_TableFinds.B3 = true := by kernel_rfl
def beaconlaw17_TableFinds.T11 : Bool × List (List Nat × List Nat) := (true, [([], []), ([], []), ([0, 1], [0, 1]), ([2], [2]), ([], []), ([], []), ([4, 5], [4, 5]), ([6], [6]), ([3, 7], [3, 7])])
def beaconlaw17_TableFinds.B11 : List Nat := [0, 0, 3, 7, 0, 0, 48, 112, 255]
theorem beaconlaw17_TableFinds.tab11 : rtab .any (opsOf Try.f7 11) = beaconlaw17_TableFinds.T11 := by kernel_rfl
theorem beaconlaw17_TableFinds.bits11 : waitsOk beaconlaw17_TableFinds.T11.2 beaconlaw17_TableFinds.B11 = true := by kernel_rfl
set_option maxHeartbeats 8000000 in
set_option maxRecDepth 100000 in
theorem beaconlaw17_TableFinds.calls (k : Nat) (A0_0 : Option Addr) (c0_0 : Nat) (l0_0 : List (S39)) (a0_1 : Bool) (a1 : Int) (a2 : Int) (r : Bool) (w : World) (hr0_0 : Kd.C k39 w A0_0 l0_0.length l0_0) (hc0_0 : l0_0.length ≤ c0_0) (h : beaconlaw17_TableFinds.f k l0_0 a0_1 a1 a2 = some r) :
  Calls Try.prog 7 #[.agg #[.slice A0_0 l0_0.length c0_0,.bool a0_1],.int .i64 a1,.int .i64 a2] w fun e w' => e = .returned (.bool r) ∧ Below w.heap.size w w':=by
 have hu24:=Try.underlying24
 have hu39:=Try.underlying39
 have HR0_0:=Aside0.mk hr0_0
 have HC0_0:=Aside0.mk hc0_0
 clear hr0_0 hc0_0
 have HB:=Aside0.mk (Below.refl w.heap.size w)
 have H : ((beaconlaw17_own.f k l0_0 a0_1).bind fun bt336 => ((table_Find.f k bt336.1 bt336.2 a1).bind fun bt340 => ((beaconref17_Find.f k l0_0 a0_1 a1).bind fun bt348 => (if (bt340.2.2.2.2.2.2 != bt348.2.2.2.2.2.2) = true then (beaconlaw17_TableFinds.j0 k true l0_0 a0_1) else ((beaconref09_SameEntries.f k (([(⟨bt340.1,bt340.2.1,bt340.2.2.1,bt340.2.2.2.1,bt340.2.2.2.2.1,bt340.2.2.2.2.2.1⟩ : S39)] : List (S39))) (([(⟨bt348.1,bt348.2.1,bt348.2.2.1,bt348.2.2.2.1,bt348.2.2.2.2.1,bt348.2.2.2.2.2.1⟩ : S39)] : List (S39)))).bind fun t362 => (if t362 = true then ((beaconlaw17_own.f k l0_0 a0_1).bind fun bt363 => ((table_Count.f k bt363.1 bt363.2 a2).bind fun t367 => ((beaconref17_Count.f k l0_0 a0_1 a2).bind fun t368 => (beaconlaw17_TableFinds.j0 k (t367 != t368) l0_0 a0_1)))) else (beaconlaw17_TableFinds.j0 k true l0_0 a0_1))))))) = some r:=h
 clear h
 replace H:=Option.bind_eq_some_iff.mp H
 obtain ⟨⟨t336,t339⟩,A40,H⟩:=H
 replace H : ((table_Find.f k t336 t339 a1).bind fun bt340 => ((beaconref17_Find.f k l0_0 a0_1 a1).bind fun bt348 => (if (bt340.2.2.2.2.2.2 != bt348.2.2.2.2.2.2) = true then (beaconlaw17_TableFinds.j0 k true l0_0 a0_1) else ((beaconref09_SameEntries.f k (([(⟨bt340.1,bt340.2.1,bt340.2.2.1,bt340.2.2.2.1,bt340.2.2.2.2.1,bt340.2.2.2.2.2.1⟩ : S39)] : List (S39))) (([(⟨bt348.1,bt348.2.1,bt348.2.2.1,bt348.2.2.2.1,bt348.2.2.2.2.1,bt348.2.2.2.2.2.1⟩ : S39)] : List (S39)))).bind fun t362 => (if t362 = true then ((beaconlaw17_own.f k l0_0 a0_1).bind fun bt363 => ((table_Count.f k bt363.1 bt363.2 a2).bind fun t367 => ((beaconref17_Count.f k l0_0 a0_1 a2).bind fun t368 => (beaconlaw17_TableFinds.j0 k (t367 != t368) l0_0 a0_1)))) else (beaconlaw17_TableFinds.j0 k true l0_0 a0_1)))))) = some r:=H
 have A4:=Aside0.mk A40
 clear A40
 replace H:=Option.bind_eq_some_iff.mp H
 obtain ⟨⟨t340,t341,t342,t343,t344,t345,t346⟩,A50,H⟩:=H
 replace H : ((beaconref17_Find.f k l0_0 a0_1 a1).bind fun bt348 => (if (t346 != bt348.2.2.2.2.2.2) = true then (beaconlaw17_TableFinds.j0 k true l0_0 a0_1) else ((beaconref09_SameEntries.f k (([(⟨t340,t341,t342,t343,t344,t345⟩ : S39)] : List (S39))) (([(⟨bt348.1,bt348.2.1,bt348.2.2.1,bt348.2.2.2.1,bt348.2.2.2.2.1,bt348.2.2.2.2.2.1⟩ : S39)] : List (S39)))).bind fun t362 => (if t362 = true then ((beaconlaw17_own.f k l0_0 a0_1).bind fun bt363 => ((table_Count.f k bt363.1 bt363.2 a2).bind fun t367 => ((beaconref17_Count.f k l0_0 a0_1 a2).bind fun t368 => (beaconlaw17_TableFinds.j0 k (t367 != t368) l0_0 a0_1)))) else (beaconlaw17_TableFinds.j0 k true l0_0 a0_1))))) = some r:=H
 have A5:=Aside0.mk A50
 clear A50
 replace H:=Option.bind_eq_some_iff.mp H
 obtain ⟨⟨t348,t349,t350,t351,t352,t353,t354⟩,A60,H⟩:=H
 replace H : (if (t346 != t354) = true then (beaconlaw17_TableFinds.j0 k true l0_0 a0_1) else ((beaconref09_SameEntries.f k (([(⟨t340,t341,t342,t343,t344,t345⟩ : S39)] : List (S39))) (([(⟨t348,t349,t350,t351,t352,t353⟩ : S39)] : List (S39)))).bind fun t362 => (if t362 = true then ((beaconlaw17_own.f k l0_0 a0_1).bind fun bt363 => ((table_Count.f k bt363.1 bt363.2 a2).bind fun t367 => ((beaconref17_Count.f k l0_0 a0_1 a2).bind fun t368 => (beaconlaw17_TableFinds.j0 k (t367 != t368) l0_0 a0_1)))) else (beaconlaw17_TableFinds.j0 k true l0_0 a0_1)))) = some r:=H
 have A6:=Aside0.mk A60
 clear A60
 have HC7:=Aside0.mk H
 clear H
 go_enter Try.func7,Try.ntmps7
 go_upto_region 3 with (first|((with_reducible refine gate_dst (N:=3) rfl ?_);(try (refine gate_guard (by rfl) ?_;dsimp only));refine zb (N:=3) (cs:=#[.slice A0_0 l0_0.length c0_0,.bool a0_1]) (t:=24) ?_;intro G335 hg w8 hbox hb;have K335:=Aside0.mk (hbox);have GW335:=zN HB hg;have GE335:=zN HB hg;replace HB:=zS HB hb;clear hb hbox hg;have hcz9_0 : w8.cell? ⟨G335,0,none⟩ = some (.slice A0_0 l0_0.length c0_0):=zk K335 0;have hcz9_1 : w8.cell? ⟨G335,1,none⟩ = some (.bool a0_1):=zk K335 1;have hfz9_0:=bF K335.1 0;have hfz9_1:=bF K335.1 1)|((with_reducible refine gate_callee (f:=16) rfl ?_);refine zg (some 16) Try.func16 #[.agg #[.slice A0_0 l0_0.length c0_0,.bool a0_1]] ?_;(with_reducible refine (beaconlaw17_own.calls k _ _ l0_0 a0_1 t336 t339 _ ?side1 ?side2 A4.out).mono ?_);(case side1 => exact zC (Kd.C_below HR0_0.out HB.1));(case side2 => exact HC0_0.out);rintro e w10 ⟨v337,rfl,ho0,hb⟩;refine ⟨_,rfl,?_⟩;have HO338:=Aside0.mk (Kd.R_lower ho0 (zW HB));replace K335:=zB K335 hb;replace HB:=zS HB hb;(try clear hb);(try clear ho0);obtain ⟨Ao11,co11,eo11⟩:=Kd.R_slice HO338.out;subst eo11)|((with_reducible refine gate_callee (f:=23) rfl ?_);refine zg (some 18) Try.func23 #[.agg #[.slice Ao11 t336.length co11,.bool t339],.int .i64 a1] ?_;(with_reducible refine (table_Find.calls k _ _ t336 t339 a1 t340 t341 t342 t343 t344 t345 t346 _ ?side1 ?side2 A5.out).mono ?_);(case side1 => exact zC ((Kd.R_reads' HO338.out).2.2));(case side2 => exact (Kd.R_reads' HO338.out).2.1);rintro e w12 ⟨rfl,hb⟩;refine ⟨_,rfl,?_⟩;replace HO338:=Aside0.mk (Kd.R_below (zR HO338) hb);replace K335:=zB K335 hb;replace HB:=zS HB hb;(try clear hb))|((with_reducible refine gate_dst (N:=7) rfl ?_);(try (refine gate_guard (by rfl) ?_;dsimp only));refine zb (N:=7) (cs:=#[.int .i64 0,.int .i64 0,.float .f64 0,.int .i64 0,.float .f64 0,.int .i64 0]) (t:=39) ?_;intro G347 hg w13 hbox hb;replace HO338:=Aside0.mk (Kd.R_below (Kd.R_elderB (zR HO338) G347 (Nat.le_of_eq hg.symm)) hb);have K347:=Aside0.mk (hbox);have GW347:=zN HB hg;have GE347:=zN HB hg;replace HB:=zS HB hb;have NB335_347:=zL K335 hg;have NB347_335:=zG K335 hg;replace K335:=zB K335 hb;clear hb hbox hg;have hnb14:=NB347_335.1;have hnc14:=NB335_347.1;have hcz15_0 : w13.cell? ⟨G347,0,none⟩ = some (.int .i64 0):=zk K347 0;have hcz15_1 : w13.cell? ⟨G347,1,none⟩ = some (.int .i64 0):=zk K347 1;have hcz15_2 : w13.cell? ⟨G347,2,none⟩ = some (.float .f64 0):=zk K347 2;have hcz15_3 : w13.cell? ⟨G347,3,none⟩ = some (.int .i64 0):=zk K347 3;have hcz15_4 : w13.cell? ⟨G347,4,none⟩ = some (.float .f64 0):=zk K347 4;have hcz15_5 : w13.cell? ⟨G347,5,none⟩ = some (.int .i64 0):=zk K347 5;have hfz15_0:=bF K347.1 0;have hfz15_1:=bF K347.1 1;have hfz15_2:=bF K347.1 2;have hfz15_3:=bF K347.1 3;have hfz15_4:=bF K347.1 4;have hfz15_5:=bF K347.1 5)|((with_reducible refine gate_store (t:=39) (p:=7) rfl ?_);refine store_event (t:=39) (p:=7) (v:=?vo_w16) (w1:=((((((w13.setCell ⟨G347,0,none⟩ (.int .i64 t340)).setCell ⟨G347,1,none⟩ (.int .i64 t341)).setCell ⟨G347,2,none⟩ (.float .f64 t342)).setCell ⟨G347,3,none⟩ (.int .i64 t343)).setCell ⟨G347,4,none⟩ (.float .f64 t344)).setCell ⟨G347,5,none⟩ (.int .i64 t345))) ?hg ?ho ?hn ?hr ?_;(case ho => rfl);(case hg => rfl);(case hn => rfl);(case hr => first|(go_simp;done)|(go_simp;rfl));intro w16 hw;replace HO338 : Aside0 (Kd.R k39 39 w16 w.heap.size (fun k_ => k_ ≠ G347) (.slice Ao11 t336.length co11) t336):=⟨(by rw [hw];exact (by (with_reducible repeat (first|apply Kd.R_alloc|apply Kd.R_drewN|apply Kd.R_drew));exact Kd.R_mono (Kd.R_far (p:=⟨G347,5,none⟩) (Kd.R_far (p:=⟨G347,4,none⟩) (Kd.R_far (p:=⟨G347,3,none⟩) (Kd.R_far (p:=⟨G347,2,none⟩) (Kd.R_far (p:=⟨G347,1,none⟩) (Kd.R_far (p:=⟨G347,0,none⟩) (Kd.R_mono HO338.out (fun k_ hk => (⟨hk,hk.2⟩ : _ ∧ k_ ≠ G347))) (fun _ hk => hk.2) (.int .i64 t340)) (fun _ hk => hk.2) (.int .i64 t341)) (fun _ hk => hk.2) (.float .f64 t342)) (fun _ hk => hk.2) (.int .i64 t343)) (fun _ hk => hk.2) (.float .f64 t344)) (fun _ hk => hk.2) (.int .i64 t345)) (fun _ hk => hk.1.2)))⟩;replace K335 : Aside0 (w16.heap[G335]? = some (.cells #[.slice A0_0 l0_0.length c0_0,.bool a0_1] 24 (0,0))):=⟨(by rw [hw];exact (zf K335))⟩;replace K347 : Aside0 (w16.heap[G347]? = some (.cells #[.int .i64 t340,.int .i64 t341,.float .f64 t342,.int .i64 t343,.float .f64 t344,.int .i64 t345] 39 (0,0))):=⟨(by rw [hw];exact (zF K347))⟩;replace HB : Aside0 (Below w.heap.size w w16):=⟨(by rw [hw];exact (zH HB))⟩;clear hw;have hcz17_0 : w16.cell? ⟨G335,0,none⟩ = some (.slice A0_0 l0_0.length c0_0):=zk K335 0;have hcz17_1 : w16.cell? ⟨G335,1,none⟩ = some (.bool a0_1):=zk K335 1;have hfz17_0:=bF K335.1 0;have hfz17_1:=bF K335.1 1)|((with_reducible refine gate_callee (f:=24) rfl ?_);refine zg (some 24) Try.func24 #[.agg #[.slice A0_0 l0_0.length c0_0,.bool a0_1],.int .i64 a1] ?_;(with_reducible refine (beaconref17_Find.calls k _ _ l0_0 a0_1 a1 t348 t349 t350 t351 t352 t353 t354 _ ?side1 ?side2 A6.out).mono ?_);(case side1 => exact zC (Kd.C_below HR0_0.out HB.1));(case side2 => exact HC0_0.out);rintro e w18 ⟨rfl,hb⟩;refine ⟨_,rfl,?_⟩;replace HO338:=Aside0.mk (Kd.R_below (zR HO338) hb);replace K335:=zB K335 hb;replace K347:=zB K347 hb;replace HB:=zS HB hb;(try clear hb))|((with_reducible refine gate_dst (N:=9) rfl ?_);(try (refine gate_guard (by rfl) ?_;dsimp only));refine zb (N:=9) (cs:=#[.int .i64 0,.int .i64 0,.float .f64 0,.int .i64 0,.float .f64 0,.int .i64 0]) (t:=39) ?_;intro G355 hg w19 hbox hb;replace HO338:=Aside0.mk (Kd.R_below (Kd.R_elderB (zR HO338) G355 (Nat.le_of_eq hg.symm)) hb);have K355:=Aside0.mk (hbox);have GW355:=zN HB hg;have GE355:=zN HB hg;replace HB:=zS HB hb;have NB335_355:=zL K335 hg;have NB355_335:=zG K335 hg;replace K335:=zB K335 hb;have NB347_355:=zL K347 hg;have NB355_347:=zG K347 hg;replace K347:=zB K347 hb;clear hb hbox hg;have hnb20:=NB355_335.1;have hnc20:=NB335_355.1;have hnb21:=NB355_347.1;have hnc21:=NB347_355.1;have hcz22_0 : w19.cell? ⟨G355,0,none⟩ = some (.int .i64 0):=zk K355 0;have hcz22_1 : w19.cell? ⟨G355,1,none⟩ = some (.int .i64 0):=zk K355 1;have hcz22_2 : w19.cell? ⟨G355,2,none⟩ = some (.float .f64 0):=zk K355 2;have hcz22_3 : w19.cell? ⟨G355,3,none⟩ = some (.int .i64 0):=zk K355 3;have hcz22_4 : w19.cell? ⟨G355,4,none⟩ = some (.float .f64 0):=zk K355 4;have hcz22_5 : w19.cell? ⟨G355,5,none⟩ = some (.int .i64 0):=zk K355 5;have hfz22_0:=bF K355.1 0;have hfz22_1:=bF K355.1 1;have hfz22_2:=bF K355.1 2;have hfz22_3:=bF K355.1 3;have hfz22_4:=bF K355.1 4;have hfz22_5:=bF K355.1 5)|((with_reducible refine gate_store (t:=39) (p:=9) rfl ?_);refine store_event (t:=39) (p:=9) (v:=?vo_w23) (w1:=((((((w19.setCell ⟨G355,0,none⟩ (.int .i64 t348)).setCell ⟨G355,1,none⟩ (.int .i64 t349)).setCell ⟨G355,2,none⟩ (.float .f64 t350)).setCell ⟨G355,3,none⟩ (.int .i64 t351)).setCell ⟨G355,4,none⟩ (.float .f64 t352)).setCell ⟨G355,5,none⟩ (.int .i64 t353))) ?hg ?ho ?hn ?hr ?_;(case ho => rfl);(case hg => rfl);(case hn => rfl);(case hr => first|(go_simp;done)|(go_simp;rfl));intro w23 hw;replace HO338 : Aside0 (Kd.R k39 39 w23 w.heap.size (fun k_ => k_ ≠ G347 ∧ k_ ≠ G355) (.slice Ao11 t336.length co11) t336):=⟨(by rw [hw];exact (by (with_reducible repeat (first|apply Kd.R_alloc|apply Kd.R_drewN|apply Kd.R_drew));exact Kd.R_mono (Kd.R_far (p:=⟨G355,5,none⟩) (Kd.R_far (p:=⟨G355,4,none⟩) (Kd.R_far (p:=⟨G355,3,none⟩) (Kd.R_far (p:=⟨G355,2,none⟩) (Kd.R_far (p:=⟨G355,1,none⟩) (Kd.R_far (p:=⟨G355,0,none⟩) (Kd.R_mono HO338.out (fun k_ hk => (⟨hk,hk.2⟩ : _ ∧ k_ ≠ G355))) (fun _ hk => hk.2) (.int .i64 t348)) (fun _ hk => hk.2) (.int .i64 t349)) (fun _ hk => hk.2) (.float .f64 t350)) (fun _ hk => hk.2) (.int .i64 t351)) (fun _ hk => hk.2) (.float .f64 t352)) (fun _ hk => hk.2) (.int .i64 t353)) (fun _ hk => ⟨hk.1.1,hk.1.2⟩)))⟩;replace K335 : Aside0 (w23.heap[G335]? = some (.cells #[.slice A0_0 l0_0.length c0_0,.bool a0_1] 24 (0,0))):=⟨(by rw [hw];exact (zf K335))⟩;replace K347 : Aside0 (w23.heap[G347]? = some (.cells #[.int .i64 t340,.int .i64 t341,.float .f64 t342,.int .i64 t343,.float .f64 t344,.int .i64 t345] 39 (0,0))):=⟨(by rw [hw];exact (zf K347))⟩;replace K355 : Aside0 (w23.heap[G355]? = some (.cells #[.int .i64 t348,.int .i64 t349,.float .f64 t350,.int .i64 t351,.float .f64 t352,.int .i64 t353] 39 (0,0))):=⟨(by rw [hw];exact (zF K355))⟩;replace HB : Aside0 (Below w.heap.size w w23):=⟨(by rw [hw];exact (zH HB))⟩;clear hw))
 (try simp only [Act.put,xA,xB,xC])
 go_cut [47] (fun v47 wc => ∃ (kq : Nat) (x47_6 : Bool),v47 = .bool x47_6 ∧ Aside0 (beaconlaw17_TableFinds.j0 kq x47_6 l0_0 a0_1 = some r) ∧ Aside0 (kq ≤ k) ∧ Aside0 (wc.heap[G335]? = some (.cells #[(.slice A0_0 l0_0.length c0_0),.bool a0_1] 24 (0,0))) ∧ Aside0 (wc.heap[G347]? = some (.cells #[.int .i64 t340,.int .i64 t341,.float .f64 t342,.int .i64 t343,.float .f64 t344,.int .i64 t345] 39 (0,0))) ∧ Aside0 (wc.heap[G355]? = some (.cells #[.int .i64 t348,.int .i64 t349,.float .f64 t350,.int .i64 t351,.float .f64 t352,.int .i64 t353] 39 (0,0))) ∧ Aside0 (Below w.heap.size w wc))
 case first =>
  have H:=HC7.out
  clear HC7
  by_cases c24 : (t346 != t354) = true
  ·rw [if_pos c24] at H
   have c24b0 : (t346 != t354) = true:=c24
   (try (have c24b1 : decide (t346 = t354) = false:=by simpa using c24))
   (try (have c24b2 : (t346 == t354) = false:=by simpa using c24))
   (try (have c24b3 : ¬ (t346 = t354):=by simpa using c24))
   clear c24
   (first|rw [c24b0]|(simp only [i64_w,i32_w];rw [c24b0])|skip)
   have H':=Aside0.mk H
   clear H
   try go_wp2
   replace HO338:=Aside0.mk (Kd.R_drew HO338.out)
   replace K335:=Aside0.mk (bD K335.1)
   replace K347:=Aside0.mk (bD K347.1)
   replace K355:=Aside0.mk (bD K355.1)
   replace HB:=Aside0.mk (bw1 HB.1)
   refine start_ (n:=21) (S:=fun w' => True) (ds:=[]) #[F,F,F,F,F,F,F,F,F,F,F,F,F,F,F,F,F,F,F,F,F] (by kernel_rfl) rfl rfl trivial (fun hHeld => ?_);refine with_tabW beaconlaw17_TableFinds.tab3 beaconlaw17_TableFinds.bits3 (fun HT_ HW_ => ?_)
   generalize w23.drew = w25 at HO338 K335 K347 K355 HB hHeld ⊢
   refine pz 0 27 #[T,F,F,F,F,F,F,F,F,F,F,F,F,F,F,F,F,F,F,F,F] HT_.1 ?_
   refine pz 1 28 #[T,T,F,F,F,F,F,F,F,F,F,F,F,F,F,F,F,F,F,F,F] HT_.1 ?_
   refine pz 2 29 #[T,T,T,F,F,F,F,F,F,F,F,F,F,F,F,F,F,F,F,F,F] HT_.1 ?_
   refine pz 3 30 #[T,T,T,T,F,F,F,F,F,F,F,F,F,F,F,F,F,F,F,F,F] HT_.1 ?_
   refine pu 4 31 #[T,T,T,T,T,F,F,F,F,F,F,F,F,F,F,F,F,F,F,F,F] HT_.1 ?_
   refine pu 5 32 #[T,T,T,T,T,T,F,F,F,F,F,F,F,F,F,F,F,F,F,F,F] HT_.1 ?_
   refine pu 6 33 #[T,T,T,T,T,T,T,F,F,F,F,F,F,F,F,F,F,F,F,F,F] HT_.1 ?_
   refine pu 7 34 #[T,T,T,T,T,T,T,T,F,F,F,F,F,F,F,F,F,F,F,F,F] HT_.1 ?_
   refine pu 8 35 #[T,T,T,T,T,T,T,T,T,F,F,F,F,F,F,F,F,F,F,F,F] HT_.1 ?_
   refine pu 9 36 #[T,T,T,T,T,T,T,T,T,T,F,F,F,F,F,F,F,F,F,F,F] HT_.1 ?_
   refine pz 10 37 #[T,T,T,T,T,T,T,T,T,T,T,F,F,F,F,F,F,F,F,F,F] HT_.1 ?_
   refine pz 11 38 #[T,T,T,T,T,T,T,T,T,T,T,T,F,F,F,F,F,F,F,F,F] HT_.1 ?_
   refine pu 12 39 #[T,T,T,T,T,T,T,T,T,T,T,T,T,F,F,F,F,F,F,F,F] HT_.1 ?_
   refine pu 13 40 #[T,T,T,T,T,T,T,T,T,T,T,T,T,T,F,F,F,F,F,F,F] HT_.1 ?_
   refine pu 14 41 #[T,T,T,T,T,T,T,T,T,T,T,T,T,T,T,F,F,F,F,F,F] HT_.1 ?_
   refine pu 15 42 #[T,T,T,T,T,T,T,T,T,T,T,T,T,T,T,T,F,F,F,F,F] HT_.1 ?_
   refine pu 16 43 #[T,T,T,T,T,T,T,T,T,T,T,T,T,T,T,T,T,F,F,F,F] HT_.1 ?_
   refine pu 17 44 #[T,T,T,T,T,T,T,T,T,T,T,T,T,T,T,T,T,T,F,F,F] HT_.1 ?_
   refine pu 18 45 #[T,T,T,T,T,T,T,T,T,T,T,T,T,T,T,T,T,T,T,F,F] HT_.1 ?_
   refine pu 19 46 #[T,T,T,T,T,T,T,T,T,T,T,T,T,T,T,T,T,T,T,T,F] HT_.1 ?_
   refine pz 20 47 #[T,T,T,T,T,T,T,T,T,T,T,T,T,T,T,T,T,T,T,T,T] HT_.1 ?_
   refine done_ (done_of HT_.out (by kernel_rfl)) ?_
   try go_wp2
   go_meet
   case rel => exact ⟨_,(true),ze,H',⟨zo⟩,⟨z1 K335.1⟩,⟨z1 K347.1⟩,⟨z1 K355.1⟩,⟨zH HB⟩⟩
  ·rw [if_neg c24] at H
   have c24b0 : (t346 != t354) = false:=by simpa using c24
   (try (have c24b1 : decide (t346 = t354) = true:=by simpa using c24))
   (try (have c24b2 : (t346 == t354) = true:=by simpa using c24))
   clear c24
   (first|rw [c24b0]|(simp only [i64_w,i32_w];rw [c24b0])|skip)
   obtain ⟨y356,hy356⟩ : ∃ y_ : List (S39),y_ = (([(⟨t340,t341,t342,t343,t344,t345⟩ : S39)] : List (S39))):=⟨_,rfl⟩
   replace H : ((beaconref09_SameEntries.f k y356 (([(⟨t348,t349,t350,t351,t352,t353⟩ : S39)] : List (S39)))).bind fun t362 => (if t362 = true then ((beaconlaw17_own.f k l0_0 a0_1).bind fun bt363 => ((table_Count.f k bt363.1 bt363.2 a2).bind fun t367 => ((beaconref17_Count.f k l0_0 a0_1 a2).bind fun t368 => (beaconlaw17_TableFinds.j0 k (t367 != t368) l0_0 a0_1)))) else (beaconlaw17_TableFinds.j0 k true l0_0 a0_1))) = some r:=by first|(rw [hy356];with_reducible exact H)|(have H2_:=(Option.bind_some _ _).symm.trans H;rw [hy356];with_reducible exact H2_)|(have H2_:=(Option.bind_some _ _).symm.trans H;with_reducible exact H2_)|with_reducible exact H|(rw [hy356];exact H)|exact H
   have Ny356:=Aside0.mk hy356
   clear hy356
   obtain ⟨y359,hy359⟩ : ∃ y_ : List (S39),y_ = (([(⟨t348,t349,t350,t351,t352,t353⟩ : S39)] : List (S39))):=⟨_,rfl⟩
   replace H : ((beaconref09_SameEntries.f k y356 y359).bind fun t362 => (if t362 = true then ((beaconlaw17_own.f k l0_0 a0_1).bind fun bt363 => ((table_Count.f k bt363.1 bt363.2 a2).bind fun t367 => ((beaconref17_Count.f k l0_0 a0_1 a2).bind fun t368 => (beaconlaw17_TableFinds.j0 k (t367 != t368) l0_0 a0_1)))) else (beaconlaw17_TableFinds.j0 k true l0_0 a0_1))) = some r:=by first|(rw [hy359];with_reducible exact H)|(have H2_:=(Option.bind_some _ _).symm.trans H;rw [hy359];with_reducible exact H2_)|(have H2_:=(Option.bind_some _ _).symm.trans H;with_reducible exact H2_)|with_reducible exact H|(rw [hy359];exact H)|exact H
   have Ny359:=Aside0.mk hy359
   clear hy359
   replace H:=Option.bind_eq_some_iff.mp H
   obtain ⟨t362,A260,H⟩:=H
   replace H : (if t362 = true then ((beaconlaw17_own.f k l0_0 a0_1).bind fun bt363 => ((table_Count.f k bt363.1 bt363.2 a2).bind fun t367 => ((beaconref17_Count.f k l0_0 a0_1 a2).bind fun t368 => (beaconlaw17_TableFinds.j0 k (t367 != t368) l0_0 a0_1)))) else (beaconlaw17_TableFinds.j0 k true l0_0 a0_1)) = some r:=H
   have A26:=Aside0.mk A260
   clear A260
   by_cases c27 : t362 = true
   ·subst c27
    have H1 : ((beaconlaw17_own.f k l0_0 a0_1).bind fun bt363 => ((table_Count.f k bt363.1 bt363.2 a2).bind fun t367 => ((beaconref17_Count.f k l0_0 a0_1 a2).bind fun t368 => (beaconlaw17_TableFinds.j0 k (t367 != t368) l0_0 a0_1)))) = some r:=by rw [if_pos rfl] at H;exact H
    clear H
    have H:=H1
    clear H1
    replace H:=Option.bind_eq_some_iff.mp H
    obtain ⟨⟨t363,t366⟩,A280,H⟩:=H
    replace H : ((table_Count.f k t363 t366 a2).bind fun t367 => ((beaconref17_Count.f k l0_0 a0_1 a2).bind fun t368 => (beaconlaw17_TableFinds.j0 k (t367 != t368) l0_0 a0_1))) = some r:=H
    have A28:=Aside0.mk A280
    clear A280
    replace H:=Option.bind_eq_some_iff.mp H
    obtain ⟨t367,A290,H⟩:=H
    replace H : ((beaconref17_Count.f k l0_0 a0_1 a2).bind fun t368 => (beaconlaw17_TableFinds.j0 k (t367 != t368) l0_0 a0_1)) = some r:=H
    have A29:=Aside0.mk A290
    clear A290
    replace H:=Option.bind_eq_some_iff.mp H
    obtain ⟨t368,A300,H⟩:=H
    replace H : (beaconlaw17_TableFinds.j0 k (t367 != t368) l0_0 a0_1) = some r:=H
    have A30:=Aside0.mk A300
    clear A300
    have H':=Aside0.mk H
    clear H
    try go_wp2
    replace HO338:=Aside0.mk (Kd.R_drew HO338.out)
    replace K335:=Aside0.mk (bD K335.1)
    replace K347:=Aside0.mk (bD K347.1)
    replace K355:=Aside0.mk (bD K355.1)
    replace HB:=Aside0.mk (bw1 HB.1)
    refine start_ (n:=21) (S:=fun w' => True) (ds:=[]) #[F,F,F,F,F,F,F,F,F,F,F,F,F,F,F,F,F,F,F,F,F] (by kernel_rfl) rfl rfl trivial (fun hHeld => ?_);refine with_tabW beaconlaw17_TableFinds.tab3 beaconlaw17_TableFinds.bits3 (fun HT_ HW_ => ?_)
    generalize w23.drew = w31 at HO338 K335 K347 K355 HB hHeld ⊢
    refine pz 0 27 #[T,F,F,F,F,F,F,F,F,F,F,F,F,F,F,F,F,F,F,F,F] HT_.1 ?_
    refine pz 1 28 #[T,T,F,F,F,F,F,F,F,F,F,F,F,F,F,F,F,F,F,F,F] HT_.1 ?_
    refine inv_at [2,3,4,5,6,7,8,9,10,11,12,13,14,15,16,17,18,19,20] (fun a0_ b a w' => ∃ (v357 : Value) (v360 : Value) (v364 : Value) (m13_ : Value),a = putSel a0_ b [(2,29,.bool (t346 != t354)),(3,30,.bool (t346 != t354)),(4,31,.agg #[.int .i64 t340,.int .i64 t341,.float .f64 t342,.int .i64 t343,.float .f64 t344,.int .i64 t345]),(5,32,v357),(6,33,.agg #[.int .i64 t348,.int .i64 t349,.float .f64 t350,.int .i64 t351,.float .f64 t352,.int .i64 t353]),(7,34,v360),(8,35,.bool true),(9,36,.bool (!true)),(10,37,.bool (!true)),(11,38,.bool (!true)),(12,39,.agg #[.slice A0_0 l0_0.length c0_0,.bool a0_1]),(13,40,m13_),(14,41,.int .i64 a2),(15,42,.int .i64 t367),(16,43,.agg #[.slice A0_0 l0_0.length c0_0,.bool a0_1]),(17,44,.int .i64 a2),(18,45,.int .i64 t368),(19,46,.bool (t367 != t368)),(20,47,.bool (t367 != t368))] ∧ (Kd.R k39 39 w' w.heap.size (fun k_ => k_ ≠ G347 ∧ k_ ≠ G355) (.slice Ao11 t336.length co11) t336) ∧ (w'.heap[G335]? = some (.cells #[.slice A0_0 l0_0.length c0_0,.bool a0_1] 24 (0,0))) ∧ (w'.heap[G347]? = some (.cells #[.int .i64 t340,.int .i64 t341,.float .f64 t342,.int .i64 t343,.float .f64 t344,.int .i64 t345] 39 (0,0))) ∧ (w'.heap[G355]? = some (.cells #[.int .i64 t348,.int .i64 t349,.float .f64 t350,.int .i64 t351,.float .f64 t352,.int .i64 t353] 39 (0,0))) ∧ (Below w.heap.size w w') ∧ (b 5 = true → Kd.R k39 39 w' w.heap.size (fun k_ => some k_ ≠ (.slice Ao11 t336.length co11 : Value).ownBlock ∧ k_ ≠ G347 ∧ k_ ≠ G355) v357 y356) ∧ (b 7 = true → Kd.R k39 39 w' w.heap.size (fun k_ => some k_ ≠ (.slice Ao11 t336.length co11 : Value).ownBlock ∧ k_ ≠ G347 ∧ k_ ≠ G355) v360 y359) ∧ (b 13 = true → Kd.R k39 39 w' w.heap.size (fun k_ => some k_ ≠ (.slice Ao11 t336.length co11 : Value).ownBlock ∧ k_ ≠ G347 ∧ k_ ≠ G355) v364 t363) ∧ (b 13 = true → (m13_ : Value) = .agg #[v364,.bool t366])) HT_.out HW_.out (by kernel_rfl) (by kernel_rfl) ?_ ?_ ?_
    ·exact ⟨.bool false,.bool false,.bool false,.bool false,by simp only [putSel,Bool.false_eq_true,if_false],HO338.out,K335.1,K347.1,K355.1,HB.1,fun h_ => absurd h_ (by decide),fun h_ => absurd h_ (by decide),fun h_ => absurd h_ (by decide),fun h_ => absurd h_ (by decide)⟩
    ·skip
     clear K335 K347 K355 HB HO338
     refine steps_cons ?_ ?_
     ·rintro b a w' ⟨v357,v360,v364,m13_,ha,Q_HO338,Q_BK335,Q_BK347,Q_BK355,Q_HB,Q_HO358,Q_HO361,Q_HO365,Q_X13_⟩ hb_ hon hoff
      refine ⟨_,rfl,fun K hK => ?_⟩
      have e27 : a.tmps[27]? = some (.bool t346):=by rw [ha];exact (putSel_off rfl).trans rfl
      have e28 : a.tmps[28]? = some (.bool t354):=by rw [ha];exact (putSel_off rfl).trans rfl
      replace ha:=Aside0.mk ha
      have HO338:=Aside0.mk Q_HO338
      have K335:=Aside0.mk Q_BK335
      have K347:=Aside0.mk Q_BK347
      have K355:=Aside0.mk Q_BK355
      have HB:=Aside0.mk Q_HB
      refine value_ (w1:=w') (v:=.bool (t346 != t354)) (by rfl) rfl ?_ ?_
      ·go_simp
       (try simp only [i64_w])
       try rfl
      refine hK.out _ _ ⟨v357,v360,v364,m13_,(by rw [ha.out];exact putSel_upk 0 hb_ rfl rfl rfl),Q_HO338,Q_BK335,Q_BK347,Q_BK355,Q_HB,fun h0_ => absurd ((hoff 5 (by kernel_rfl)).symm.trans h0_) (by decide),fun h0_ => absurd ((hoff 7 (by kernel_rfl)).symm.trans h0_) (by decide),fun h0_ => absurd ((hoff 13 (by kernel_rfl)).symm.trans h0_) (by decide),fun h0_ => absurd ((hoff 13 (by kernel_rfl)).symm.trans h0_) (by decide)⟩
     refine steps_cons ?_ ?_
     ·rintro b a w' ⟨v357,v360,v364,m13_,ha,Q_HO338,Q_BK335,Q_BK347,Q_BK355,Q_HB,Q_HO358,Q_HO361,Q_HO365,Q_X13_⟩ hb_ hon hoff
      refine ⟨_,rfl,fun K hK => ?_⟩
      have e29 : a.tmps[29]? = some (.bool (t346 != t354)):=by rw [ha];exact putSel_on (e:=(2,29,.bool (t346 != t354))) 0 rfl rfl (hon 2 (by kernel_rfl)) rfl
      replace ha:=Aside0.mk ha
      have HO338:=Aside0.mk Q_HO338
      have K335:=Aside0.mk Q_BK335
      have K347:=Aside0.mk Q_BK347
      have K355:=Aside0.mk Q_BK355
      have HB:=Aside0.mk Q_HB
      refine value_ (w1:=w') (v:=.bool (t346 != t354)) (by rfl) rfl ?_ ?_
      ·go_simp
       (try simp only [i64_w])
       try rfl
      refine hK.out _ _ ⟨v357,v360,v364,m13_,(by rw [ha.out];exact putSel_upk 1 hb_ rfl rfl rfl),Q_HO338,Q_BK335,Q_BK347,Q_BK355,Q_HB,fun h0_ => absurd ((hoff 5 (by kernel_rfl)).symm.trans h0_) (by decide),fun h0_ => absurd ((hoff 7 (by kernel_rfl)).symm.trans h0_) (by decide),fun h0_ => absurd ((hoff 13 (by kernel_rfl)).symm.trans h0_) (by decide),fun h0_ => absurd ((hoff 13 (by kernel_rfl)).symm.trans h0_) (by decide)⟩
     refine steps_cons ?_ ?_
     ·rintro b a w' ⟨v357,v360,v364,m13_,ha,Q_HO338,Q_BK335,Q_BK347,Q_BK355,Q_HB,Q_HO358,Q_HO361,Q_HO365,Q_X13_⟩ hb_ hon hoff
      refine ⟨_,rfl,fun K hK => ?_⟩
      have e7 : a.tmps[7]? = some (.pointer (some ⟨G347,0,none⟩)):=by rw [ha];exact (putSel_off rfl).trans rfl
      have e30 : a.tmps[30]? = some (.bool (t346 != t354)):=by rw [ha];exact putSel_on (e:=(3,30,.bool (t346 != t354))) 1 rfl rfl (hon 3 (by kernel_rfl)) rfl
      replace ha:=Aside0.mk ha
      have HO338:=Aside0.mk Q_HO338
      have K335:=Aside0.mk Q_BK335
      have K347:=Aside0.mk Q_BK347
      have K355:=Aside0.mk Q_BK355
      have HB:=Aside0.mk Q_HB
      have hc0_ : w'.cell? ⟨G347,0,none⟩ = some (.int .i64 t340):=zk K347 0
      have hc1_ : w'.cell? ⟨G347,1,none⟩ = some (.int .i64 t341):=zk K347 1
      have hc2_ : w'.cell? ⟨G347,2,none⟩ = some (.float .f64 t342):=zk K347 2
      have hc3_ : w'.cell? ⟨G347,3,none⟩ = some (.int .i64 t343):=zk K347 3
      have hc4_ : w'.cell? ⟨G347,4,none⟩ = some (.float .f64 t344):=zk K347 4
      have hc5_ : w'.cell? ⟨G347,5,none⟩ = some (.int .i64 t345):=zk K347 5
      refine value_ (w1:=w') (v:=.agg #[.int .i64 t340,.int .i64 t341,.float .f64 t342,.int .i64 t343,.float .f64 t344,.int .i64 t345]) (wanted_on rfl rfl rfl (e30.trans (by first|rfl|(simp [*];done)))) rfl ?_ ?_
      ·go_simp
       (try simp only [i64_w])
       try rfl
      refine hK.out _ _ ⟨v357,v360,v364,m13_,(by rw [ha.out];exact putSel_upk 2 hb_ rfl rfl rfl),Q_HO338,Q_BK335,Q_BK347,Q_BK355,Q_HB,fun h0_ => absurd ((hoff 5 (by kernel_rfl)).symm.trans h0_) (by decide),Q_HO361,fun h0_ => absurd ((hoff 13 (by kernel_rfl)).symm.trans h0_) (by decide),fun h0_ => absurd ((hoff 13 (by kernel_rfl)).symm.trans h0_) (by decide)⟩
     refine steps_cons ?_ ?_
     ·rintro b a w' ⟨v357,v360,v364,m13_,ha,Q_HO338,Q_BK335,Q_BK347,Q_BK355,Q_HB,Q_HO358,Q_HO361,Q_HO365,Q_X13_⟩ hb_ hon hoff
      refine ⟨_,rfl,fun K hK => ?_⟩
      have e31 : a.tmps[31]? = some (.agg #[.int .i64 t340,.int .i64 t341,.float .f64 t342,.int .i64 t343,.float .f64 t344,.int .i64 t345]):=by rw [ha];exact putSel_on (e:=(4,31,.agg #[.int .i64 t340,.int .i64 t341,.float .f64 t342,.int .i64 t343,.float .f64 t344,.int .i64 t345])) 2 rfl rfl (hon 4 (by kernel_rfl)) rfl
      have e30 : a.tmps[30]? = some (.bool (t346 != t354)):=by rw [ha];exact putSel_on (e:=(3,30,.bool (t346 != t354))) 1 rfl rfl (hon 3 (by kernel_rfl)) rfl
      replace ha:=Aside0.mk ha
      have HO338:=Aside0.mk Q_HO338
      have K335:=Aside0.mk Q_BK335
      have K347:=Aside0.mk Q_BK347
      have K355:=Aside0.mk Q_BK355
      have HB:=Aside0.mk Q_HB
      refine Kd.R_lit_step k39 _ 39 ?hg (N:=32) ?hd (xs:=([(⟨t340,t341,t342,t343,t344,t345⟩ : S39)] : List (S39))) (inner:=[.int .i64 t340,.int .i64 t341,.float .f64 t342,.int .i64 t343,.float .f64 t344,.int .i64 t345]) (ok:=fun _ => True) (okp:=fun _ => True) ?hr ?hp (fun _ hk => hk) trivial (Below.refl _ _) (Nat.le_refl _) (by simp) ?_;(case hd => rfl);(case hg => exact zw);(case hr => first|(go_simp;done)|(go_simp;rfl));(case hp => exact (Reps.c6 (show Kd.M k39 _ _ _ (⟨t340,t341,t342,t343,t344,t345⟩ : S39) [.int .i64 t340,.int .i64 t341,.float .f64 t342,.int .i64 t343,.float .f64 t344,.int .i64 t345] from (k39_mkM _ _ _ (⟨t340,t341,t342,t343,t344,t345⟩ : S39) )) (Reps.none _ _)))
      intro v357 w32 ho33 hb hg_ hnew_
      clear hg_ hnew_
      (first|rw [← Ny356.out] at ho33|(simp only [Int.reduceToNat] at ho33;rw [← Ny356.out] at ho33))
      have n0_:=Aside0.mk (Kd.R_elder' (zR HO338) (Kd.R_base ho33) hb)
      have n1_:=Aside0.mk (Kd.R_lower (Kd.R_newB (Kd.R_newB (Kd.R_new' ho33 (Kd.R_lt (zR HO338))) (g:=G347) (z1 K347.1)) (g:=G355) (z1 K355.1)) (zW HB))
      have n2_:=zB K335 hb
      have n3_:=zB K347 hb
      have n4_:=zB K355 hb
      have n5_:=zS HB hb
      have z_HO361:=fun (h0_ : b 7 = true) => (show Kd.R k39 39 w32 w.heap.size (fun k_ => some k_ ≠ (.slice Ao11 t336.length co11 : Value).ownBlock ∧ k_ ≠ G347 ∧ k_ ≠ G355) v360 y359 from by first|exact (Kd.R_elder' (by (with_reducible repeat (first|apply Kd.R_alloc|apply Kd.R_drewN|apply Kd.R_drew));exact (Q_HO361 h0_)) (Kd.R_base ho33) hb)|exact Kd.R_mono (Kd.R_elder' (by (with_reducible repeat (first|apply Kd.R_alloc|apply Kd.R_drewN|apply Kd.R_drew));exact (Q_HO361 h0_)) (Kd.R_base ho33) hb) (fun _ h_ => by first|trivial|exact h_|exact h_.1))
      clear HO338
      clear K335
      clear K347
      clear K355
      clear HB
      have HO338:=n0_
      have HO358:=n1_
      have K335:=n2_
      have K347:=n3_
      have K355:=n4_
      have HB:=n5_
      clear n0_ n1_ n2_ n3_ n4_ n5_
      clear hb ho33
      refine hK.out _ _ ⟨v357,v360,v364,m13_,(by rw [ha.out];exact putSel_upk 3 hb_ rfl rfl rfl),(by (with_reducible repeat (first|apply Kd.R_alloc|apply Kd.R_drewN|apply Kd.R_drew));exact Kd.R_mono HO338.out (fun _ hk => Z21.zm hk)),(z1 K335.1),(z1 K347.1),(z1 K355.1),(zH HB),fun _ => (by (with_reducible repeat (first|apply Kd.R_alloc|apply Kd.R_drewN|apply Kd.R_drew));exact Kd.R_mono HO358.out (fun _ hk => Z21.zm hk)),z_HO361,fun h0_ => absurd ((hoff 13 (by kernel_rfl)).symm.trans h0_) (by decide),fun h0_ => absurd ((hoff 13 (by kernel_rfl)).symm.trans h0_) (by decide)⟩
     refine steps_cons ?_ ?_
     ·rintro b a w' ⟨v357,v360,v364,m13_,ha,Q_HO338,Q_BK335,Q_BK347,Q_BK355,Q_HB,Q_HO358,Q_HO361,Q_HO365,Q_X13_⟩ hb_ hon hoff
      refine ⟨_,rfl,fun K hK => ?_⟩
      have e9 : a.tmps[9]? = some (.pointer (some ⟨G355,0,none⟩)):=by rw [ha];exact (putSel_off rfl).trans rfl
      have e30 : a.tmps[30]? = some (.bool (t346 != t354)):=by rw [ha];exact putSel_on (e:=(3,30,.bool (t346 != t354))) 1 rfl rfl (hon 3 (by kernel_rfl)) rfl
      replace ha:=Aside0.mk ha
      have HO338:=Aside0.mk Q_HO338
      have K335:=Aside0.mk Q_BK335
      have K347:=Aside0.mk Q_BK347
      have K355:=Aside0.mk Q_BK355
      have HB:=Aside0.mk Q_HB
      have hc0_ : w'.cell? ⟨G355,0,none⟩ = some (.int .i64 t348):=zk K355 0
      have hc1_ : w'.cell? ⟨G355,1,none⟩ = some (.int .i64 t349):=zk K355 1
      have hc2_ : w'.cell? ⟨G355,2,none⟩ = some (.float .f64 t350):=zk K355 2
      have hc3_ : w'.cell? ⟨G355,3,none⟩ = some (.int .i64 t351):=zk K355 3
      have hc4_ : w'.cell? ⟨G355,4,none⟩ = some (.float .f64 t352):=zk K355 4
      have hc5_ : w'.cell? ⟨G355,5,none⟩ = some (.int .i64 t353):=zk K355 5
      refine value_ (w1:=w') (v:=.agg #[.int .i64 t348,.int .i64 t349,.float .f64 t350,.int .i64 t351,.float .f64 t352,.int .i64 t353]) (wanted_on rfl rfl rfl (e30.trans (by first|rfl|(simp [*];done)))) rfl ?_ ?_
      ·go_simp
       (try simp only [i64_w])
       try rfl
      refine hK.out _ _ ⟨v357,v360,v364,m13_,(by rw [ha.out];exact putSel_upk 4 hb_ rfl rfl rfl),Q_HO338,Q_BK335,Q_BK347,Q_BK355,Q_HB,Q_HO358,fun h0_ => absurd ((hoff 7 (by kernel_rfl)).symm.trans h0_) (by decide),fun h0_ => absurd ((hoff 13 (by kernel_rfl)).symm.trans h0_) (by decide),fun h0_ => absurd ((hoff 13 (by kernel_rfl)).symm.trans h0_) (by decide)⟩
     refine steps_cons ?_ ?_
     ·rintro b a w' ⟨v357,v360,v364,m13_,ha,Q_HO338,Q_BK335,Q_BK347,Q_BK355,Q_HB,Q_HO358,Q_HO361,Q_HO365,Q_X13_⟩ hb_ hon hoff
      refine ⟨_,rfl,fun K hK => ?_⟩
      have e33 : a.tmps[33]? = some (.agg #[.int .i64 t348,.int .i64 t349,.float .f64 t350,.int .i64 t351,.float .f64 t352,.int .i64 t353]):=by rw [ha];exact putSel_on (e:=(6,33,.agg #[.int .i64 t348,.int .i64 t349,.float .f64 t350,.int .i64 t351,.float .f64 t352,.int .i64 t353])) 4 rfl rfl (hon 6 (by kernel_rfl)) rfl
      have e30 : a.tmps[30]? = some (.bool (t346 != t354)):=by rw [ha];exact putSel_on (e:=(3,30,.bool (t346 != t354))) 1 rfl rfl (hon 3 (by kernel_rfl)) rfl
      replace ha:=Aside0.mk ha
      have HO338:=Aside0.mk Q_HO338
      have K335:=Aside0.mk Q_BK335
      have K347:=Aside0.mk Q_BK347
      have K355:=Aside0.mk Q_BK355
      have HB:=Aside0.mk Q_HB
      refine Kd.R_lit_step k39 _ 39 ?hg (N:=34) ?hd (xs:=([(⟨t348,t349,t350,t351,t352,t353⟩ : S39)] : List (S39))) (inner:=[.int .i64 t348,.int .i64 t349,.float .f64 t350,.int .i64 t351,.float .f64 t352,.int .i64 t353]) (ok:=fun _ => True) (okp:=fun _ => True) ?hr ?hp (fun _ hk => hk) trivial (Below.refl _ _) (Nat.le_refl _) (by simp) ?_;(case hd => rfl);(case hg => exact zw);(case hr => first|(go_simp;done)|(go_simp;rfl));(case hp => exact (Reps.c6 (show Kd.M k39 _ _ _ (⟨t348,t349,t350,t351,t352,t353⟩ : S39) [.int .i64 t348,.int .i64 t349,.float .f64 t350,.int .i64 t351,.float .f64 t352,.int .i64 t353] from (k39_mkM _ _ _ (⟨t348,t349,t350,t351,t352,t353⟩ : S39) )) (Reps.none _ _)))
      intro v360 w32 ho33 hb hg_ hnew_
      clear hg_ hnew_
      (first|rw [← Ny359.out] at ho33|(simp only [Int.reduceToNat] at ho33;rw [← Ny359.out] at ho33))
      have n0_:=Aside0.mk (Kd.R_elder' (zR HO338) (Kd.R_base ho33) hb)
      have n1_:=Aside0.mk (Kd.R_lower (Kd.R_newB (Kd.R_newB (Kd.R_new' ho33 (Kd.R_lt (zR HO338))) (g:=G347) (z1 K347.1)) (g:=G355) (z1 K355.1)) (zW HB))
      have n2_:=zB K335 hb
      have n3_:=zB K347 hb
      have n4_:=zB K355 hb
      have n5_:=zS HB hb
      have z_HO358:=fun (h0_ : b 5 = true) => (show Kd.R k39 39 w32 w.heap.size (fun k_ => some k_ ≠ (.slice Ao11 t336.length co11 : Value).ownBlock ∧ k_ ≠ G347 ∧ k_ ≠ G355) v357 y356 from by first|exact (Kd.R_elder' (by (with_reducible repeat (first|apply Kd.R_alloc|apply Kd.R_drewN|apply Kd.R_drew));exact (Q_HO358 h0_)) (Kd.R_base ho33) hb)|exact Kd.R_mono (Kd.R_elder' (by (with_reducible repeat (first|apply Kd.R_alloc|apply Kd.R_drewN|apply Kd.R_drew));exact (Q_HO358 h0_)) (Kd.R_base ho33) hb) (fun _ h_ => by first|trivial|exact h_|exact h_.1))
      clear HO338
      clear K335
      clear K347
      clear K355
      clear HB
      have HO338:=n0_
      have HO361:=n1_
      have K335:=n2_
      have K347:=n3_
      have K355:=n4_
      have HB:=n5_
      clear n0_ n1_ n2_ n3_ n4_ n5_
      clear hb ho33
      refine hK.out _ _ ⟨v357,v360,v364,m13_,(by rw [ha.out];exact putSel_upk 5 hb_ rfl rfl rfl),(by (with_reducible repeat (first|apply Kd.R_alloc|apply Kd.R_drewN|apply Kd.R_drew));exact Kd.R_mono HO338.out (fun _ hk => Z21.zm hk)),(z1 K335.1),(z1 K347.1),(z1 K355.1),(zH HB),z_HO358,fun _ => (by (with_reducible repeat (first|apply Kd.R_alloc|apply Kd.R_drewN|apply Kd.R_drew));exact Kd.R_mono HO361.out (fun _ hk => Z21.zm hk)),fun h0_ => absurd ((hoff 13 (by kernel_rfl)).symm.trans h0_) (by decide),fun h0_ => absurd ((hoff 13 (by kernel_rfl)).symm.trans h0_) (by decide)⟩
     refine steps_cons ?_ ?_
     ·rintro b a w' ⟨v357,v360,v364,m13_,ha,Q_HO338,Q_BK335,Q_BK347,Q_BK355,Q_HB,Q_HO358,Q_HO361,Q_HO365,Q_X13_⟩ hb_ hon hoff
      refine ⟨_,rfl,fun K hK => ?_⟩
      have e32 : a.tmps[32]? = some (v357):=by rw [ha];exact putSel_on (e:=(5,32,v357)) 3 rfl rfl (hon 5 (by kernel_rfl)) rfl
      have e34 : a.tmps[34]? = some (v360):=by rw [ha];exact putSel_on (e:=(7,34,v360)) 5 rfl rfl (hon 7 (by kernel_rfl)) rfl
      have e30 : a.tmps[30]? = some (.bool (t346 != t354)):=by rw [ha];exact putSel_on (e:=(3,30,.bool (t346 != t354))) 1 rfl rfl (hon 3 (by kernel_rfl)) rfl
      replace ha:=Aside0.mk ha
      have HO338:=Aside0.mk Q_HO338
      have K335:=Aside0.mk Q_BK335
      have K347:=Aside0.mk Q_BK347
      have K355:=Aside0.mk Q_BK355
      have HB:=Aside0.mk Q_HB
      have HO358:=Aside0.mk (Q_HO358 (hon 5 (by kernel_rfl)))
      have HO361:=Aside0.mk (Q_HO361 (hon 7 (by kernel_rfl)))
      obtain ⟨Ao37,co37,eo37⟩:=Kd.R_slice HO358.out
      (first|subst eo37|(injection eo37 with f1_ f2_ f3_;have f4_:=f1_.symm;have f5_:=f3_.symm;clear f1_ f2_ f3_;subst f4_;subst f5_))
      obtain ⟨Ao38,co38,eo38⟩:=Kd.R_slice HO361.out
      (first|subst eo38|(injection eo38 with f1_ f2_ f3_;have f4_:=f1_.symm;have f5_:=f3_.symm;clear f1_ f2_ f3_;subst f4_;subst f5_))
      refine goes_ Try.func21 (by kernel_rfl) rfl #[.slice Ao37 y356.length co37,.slice Ao38 y359.length co38] zw rfl rfl (by first|(simp only [List.map_toArray,List.map_cons,List.map_nil,Act.eval,Array.getD_eq_getD_getElem?,Option.getD_some,e32,e34,e30];done)|(simp only [List.map_toArray,List.map_cons,List.map_nil,Act.eval,Array.getD_eq_getD_getElem?,Option.getD_some,e32,e34,e30];rfl)) ?_
      with_reducible refine (beaconref09_SameEntries.calls k _ _ y356 _ _ y359 true _ ?side1 ?side2 ?side3 ?side4 A26.out).mono ?_
      (case side1 => exact zC ((Kd.R_reads' HO358.out).2.2))
      (case side2 => exact (Kd.R_reads' HO358.out).2.1)
      (case side3 => exact zC ((Kd.R_reads' HO361.out).2.2))
      (case side4 => exact (Kd.R_reads' HO361.out).2.1)
      rintro e w39 ⟨rfl,hb⟩
      refine ⟨_,rfl,?_⟩
      replace HO338:=Aside0.mk (Kd.R_below (zR HO338) hb)
      replace HO358:=Aside0.mk (Kd.R_below (zR HO358) hb)
      replace HO361:=Aside0.mk (Kd.R_below (zR HO361) hb)
      replace K335:=zB K335 hb
      replace K347:=zB K347 hb
      replace K355:=zB K355 hb
      replace HB:=zS HB hb
      (try clear hb)
      (try clear hb2)
      (try clear hk)
      (try clear hi)
      refine hK.out _ _ ⟨.slice Ao37 y356.length co37,.slice Ao38 y359.length co38,v364,m13_,(by rw [ha.out];exact putSel_upk 6 hb_ rfl rfl rfl),(zR HO338),(z1 K335.1),(z1 K347.1),(z1 K355.1),(zH HB),fun _ => (zR HO358),fun _ => (zR HO361),fun h0_ => absurd ((hoff 13 (by kernel_rfl)).symm.trans h0_) (by decide),fun h0_ => absurd ((hoff 13 (by kernel_rfl)).symm.trans h0_) (by decide)⟩
     refine steps_cons ?_ ?_
     ·rintro b a w' ⟨v357,v360,v364,m13_,ha,Q_HO338,Q_BK335,Q_BK347,Q_BK355,Q_HB,Q_HO358,Q_HO361,Q_HO365,Q_X13_⟩ hb_ hon hoff
      refine ⟨_,rfl,fun K hK => ?_⟩
      have e35 : a.tmps[35]? = some (.bool true):=by rw [ha];exact putSel_on (e:=(8,35,.bool true)) 6 rfl rfl (hon 8 (by kernel_rfl)) rfl
      have e30 : a.tmps[30]? = some (.bool (t346 != t354)):=by rw [ha];exact putSel_on (e:=(3,30,.bool (t346 != t354))) 1 rfl rfl (hon 3 (by kernel_rfl)) rfl
      replace ha:=Aside0.mk ha
      have HO338:=Aside0.mk Q_HO338
      have K335:=Aside0.mk Q_BK335
      have K347:=Aside0.mk Q_BK347
      have K355:=Aside0.mk Q_BK355
      have HB:=Aside0.mk Q_HB
      have HO358:=Aside0.mk (Q_HO358 (hon 5 (by kernel_rfl)))
      have HO361:=Aside0.mk (Q_HO361 (hon 7 (by kernel_rfl)))
      refine value_ (w1:=w') (v:=.bool (!true)) (wanted_on rfl rfl rfl (e30.trans (by first|rfl|(simp [*];done)))) rfl ?_ ?_
      ·go_simp
       (try simp only [i64_w])
       try rfl
      refine hK.out _ _ ⟨v357,v360,v364,m13_,(by rw [ha.out];exact putSel_upk 7 hb_ rfl rfl rfl),Q_HO338,Q_BK335,Q_BK347,Q_BK355,Q_HB,Q_HO358,Q_HO361,fun h0_ => absurd ((hoff 13 (by kernel_rfl)).symm.trans h0_) (by decide),fun h0_ => absurd ((hoff 13 (by kernel_rfl)).symm.trans h0_) (by decide)⟩
     refine steps_cons ?_ ?_
     ·rintro b a w' ⟨v357,v360,v364,m13_,ha,Q_HO338,Q_BK335,Q_BK347,Q_BK355,Q_HB,Q_HO358,Q_HO361,Q_HO365,Q_X13_⟩ hb_ hon hoff
      refine ⟨_,rfl,fun K hK => ?_⟩
      have e30 : a.tmps[30]? = some (.bool (t346 != t354)):=by rw [ha];exact putSel_on (e:=(3,30,.bool (t346 != t354))) 1 rfl rfl (hon 3 (by kernel_rfl)) rfl
      have e36 : a.tmps[36]? = some (.bool (!true)):=by rw [ha];exact putSel_on (e:=(9,36,.bool (!true))) 7 rfl rfl (hon 9 (by kernel_rfl)) rfl
      replace ha:=Aside0.mk ha
      have HO338:=Aside0.mk Q_HO338
      have K335:=Aside0.mk Q_BK335
      have K347:=Aside0.mk Q_BK347
      have K355:=Aside0.mk Q_BK355
      have HB:=Aside0.mk Q_HB
      have HO358:=Aside0.mk (Q_HO358 (hon 5 (by kernel_rfl)))
      have HO361:=Aside0.mk (Q_HO361 (hon 7 (by kernel_rfl)))
      refine value_ (w1:=w') (v:=.bool (!true)) (by rfl) rfl ?_ ?_
      ·go_simp
       (try simp only [i64_w])
       try rfl
      refine hK.out _ _ ⟨v357,v360,v364,m13_,(by rw [ha.out];exact putSel_upk 8 hb_ rfl rfl rfl),Q_HO338,Q_BK335,Q_BK347,Q_BK355,Q_HB,Q_HO358,Q_HO361,fun h0_ => absurd ((hoff 13 (by kernel_rfl)).symm.trans h0_) (by decide),fun h0_ => absurd ((hoff 13 (by kernel_rfl)).symm.trans h0_) (by decide)⟩
     refine steps_cons ?_ ?_
     ·rintro b a w' ⟨v357,v360,v364,m13_,ha,Q_HO338,Q_BK335,Q_BK347,Q_BK355,Q_HB,Q_HO358,Q_HO361,Q_HO365,Q_X13_⟩ hb_ hon hoff
      refine ⟨_,rfl,fun K hK => ?_⟩
      have e37 : a.tmps[37]? = some (.bool (!true)):=by rw [ha];exact putSel_on (e:=(10,37,.bool (!true))) 8 rfl rfl (hon 10 (by kernel_rfl)) rfl
      replace ha:=Aside0.mk ha
      have HO338:=Aside0.mk Q_HO338
      have K335:=Aside0.mk Q_BK335
      have K347:=Aside0.mk Q_BK347
      have K355:=Aside0.mk Q_BK355
      have HB:=Aside0.mk Q_HB
      have HO358:=Aside0.mk (Q_HO358 (hon 5 (by kernel_rfl)))
      have HO361:=Aside0.mk (Q_HO361 (hon 7 (by kernel_rfl)))
      refine value_ (w1:=w') (v:=.bool (!true)) (by rfl) rfl ?_ ?_
      ·go_simp
       (try simp only [i64_w])
       try rfl
      refine hK.out _ _ ⟨v357,v360,v364,m13_,(by rw [ha.out];exact putSel_upk 9 hb_ rfl rfl rfl),Q_HO338,Q_BK335,Q_BK347,Q_BK355,Q_HB,Q_HO358,Q_HO361,fun h0_ => absurd ((hoff 13 (by kernel_rfl)).symm.trans h0_) (by decide),fun h0_ => absurd ((hoff 13 (by kernel_rfl)).symm.trans h0_) (by decide)⟩
     refine steps_cons ?_ ?_
     ·rintro b a w' ⟨v357,v360,v364,m13_,ha,Q_HO338,Q_BK335,Q_BK347,Q_BK355,Q_HB,Q_HO358,Q_HO361,Q_HO365,Q_X13_⟩ hb_ hon hoff
      refine ⟨_,rfl,fun K hK => ?_⟩
      have e3 : a.tmps[3]? = some (.pointer (some ⟨G335,0,none⟩)):=by rw [ha];exact (putSel_off rfl).trans rfl
      have e38 : a.tmps[38]? = some (.bool (!true)):=by rw [ha];exact putSel_on (e:=(11,38,.bool (!true))) 9 rfl rfl (hon 11 (by kernel_rfl)) rfl
      replace ha:=Aside0.mk ha
      have HO338:=Aside0.mk Q_HO338
      have K335:=Aside0.mk Q_BK335
      have K347:=Aside0.mk Q_BK347
      have K355:=Aside0.mk Q_BK355
      have HB:=Aside0.mk Q_HB
      have HO358:=Aside0.mk (Q_HO358 (hon 5 (by kernel_rfl)))
      have HO361:=Aside0.mk (Q_HO361 (hon 7 (by kernel_rfl)))
      have hc0_ : w'.cell? ⟨G335,0,none⟩ = some (.slice A0_0 l0_0.length c0_0):=zk K335 0
      have hc1_ : w'.cell? ⟨G335,1,none⟩ = some (.bool a0_1):=zk K335 1
      refine value_ (w1:=w') (v:=.agg #[.slice A0_0 l0_0.length c0_0,.bool a0_1]) (wanted_on rfl rfl rfl (e38.trans (by first|rfl|(simp [*];done)))) rfl ?_ ?_
      ·go_simp
       (try simp only [i64_w])
       try rfl
      refine hK.out _ _ ⟨v357,v360,v364,m13_,(by rw [ha.out];exact putSel_upk 10 hb_ rfl rfl rfl),Q_HO338,Q_BK335,Q_BK347,Q_BK355,Q_HB,Q_HO358,Q_HO361,fun h0_ => absurd ((hoff 13 (by kernel_rfl)).symm.trans h0_) (by decide),fun h0_ => absurd ((hoff 13 (by kernel_rfl)).symm.trans h0_) (by decide)⟩
     refine steps_cons ?_ ?_
     ·rintro b a w' ⟨v357,v360,v364,m13_,ha,Q_HO338,Q_BK335,Q_BK347,Q_BK355,Q_HB,Q_HO358,Q_HO361,Q_HO365,Q_X13_⟩ hb_ hon hoff
      refine ⟨_,rfl,fun K hK => ?_⟩
      have e39 : a.tmps[39]? = some (.agg #[.slice A0_0 l0_0.length c0_0,.bool a0_1]):=by rw [ha];exact putSel_on (e:=(12,39,.agg #[.slice A0_0 l0_0.length c0_0,.bool a0_1])) 10 rfl rfl (hon 12 (by kernel_rfl)) rfl
      have e38 : a.tmps[38]? = some (.bool (!true)):=by rw [ha];exact putSel_on (e:=(11,38,.bool (!true))) 9 rfl rfl (hon 11 (by kernel_rfl)) rfl
      replace ha:=Aside0.mk ha
      have HO338:=Aside0.mk Q_HO338
      have K335:=Aside0.mk Q_BK335
      have K347:=Aside0.mk Q_BK347
      have K355:=Aside0.mk Q_BK355
      have HB:=Aside0.mk Q_HB
      have HO358:=Aside0.mk (Q_HO358 (hon 5 (by kernel_rfl)))
      have HO361:=Aside0.mk (Q_HO361 (hon 7 (by kernel_rfl)))
      refine goes_ Try.func16 (by kernel_rfl) rfl #[.agg #[.slice A0_0 l0_0.length c0_0,.bool a0_1]] zw rfl rfl (by first|(simp only [List.map_toArray,List.map_cons,List.map_nil,Act.eval,Array.getD_eq_getD_getElem?,Option.getD_some,e39,e38];done)|(simp only [List.map_toArray,List.map_cons,List.map_nil,Act.eval,Array.getD_eq_getD_getElem?,Option.getD_some,e39,e38];rfl)) ?_
      with_reducible refine (beaconlaw17_own.calls k _ _ l0_0 a0_1 t363 t366 _ ?side1 ?side2 A28.out).mono ?_
      (case side1 => exact zC (Kd.C_below HR0_0.out HB.1))
      (case side2 => exact HC0_0.out)
      rintro e w40 ⟨v364,rfl,ho0,hb⟩
      refine ⟨_,rfl,?_⟩
      have HO365:=Aside0.mk (Kd.R_lower (Kd.R_newB (Kd.R_newB (Kd.R_new' (Kd.R_new' (Kd.R_new' ho0 (Kd.R_lt (zR HO338))) (Kd.R_lt (zR HO358))) (Kd.R_lt (zR HO361))) (g:=G347) (z1 K347.1)) (g:=G355) (z1 K355.1)) (zW HB))
      replace HO338:=Aside0.mk (Kd.R_elder' (zR HO338) (Kd.R_base ho0) hb)
      replace HO358:=Aside0.mk (Kd.R_elder' (zR HO358) (Kd.R_base ho0) hb)
      replace HO361:=Aside0.mk (Kd.R_elder' (zR HO361) (Kd.R_base ho0) hb)
      replace K335:=zB K335 hb
      replace K347:=zB K347 hb
      replace K355:=zB K355 hb
      replace HB:=zS HB hb
      (try clear hb)
      (try clear hb2)
      (try clear hk)
      (try clear hi)
      (try clear ho0)
      refine hK.out _ _ ⟨v357,v360,v364,(.agg #[v364,.bool t366]),(by rw [ha.out];exact putSel_upk 11 hb_ rfl rfl rfl),(by (with_reducible repeat (first|apply Kd.R_alloc|apply Kd.R_drewN|apply Kd.R_drew));exact Kd.R_mono HO338.out (fun _ hk => Z21.zm hk)),(z1 K335.1),(z1 K347.1),(z1 K355.1),(zH HB),fun _ => (by (with_reducible repeat (first|apply Kd.R_alloc|apply Kd.R_drewN|apply Kd.R_drew));exact Kd.R_mono HO358.out (fun _ hk => Z21.zm hk)),fun _ => (by (with_reducible repeat (first|apply Kd.R_alloc|apply Kd.R_drewN|apply Kd.R_drew));exact Kd.R_mono HO361.out (fun _ hk => Z21.zm hk)),fun _ => (by (with_reducible repeat (first|apply Kd.R_alloc|apply Kd.R_drewN|apply Kd.R_drew));exact Kd.R_mono HO365.out (fun _ hk => Z21.zm hk)),fun _ => rfl⟩
     refine steps_cons ?_ ?_
     ·rintro b a w' ⟨v357,v360,v364,m13_,ha,Q_HO338,Q_BK335,Q_BK347,Q_BK355,Q_HB,Q_HO358,Q_HO361,Q_HO365,Q_X13_⟩ hb_ hon hoff
      refine ⟨_,rfl,fun K hK => ?_⟩
      have e2 : a.tmps[2]? = some (.int .i64 a2):=by rw [ha];exact (putSel_off rfl).trans rfl
      have e38 : a.tmps[38]? = some (.bool (!true)):=by rw [ha];exact putSel_on (e:=(11,38,.bool (!true))) 9 rfl rfl (hon 11 (by kernel_rfl)) rfl
      replace ha:=Aside0.mk ha
      have HO338:=Aside0.mk Q_HO338
      have K335:=Aside0.mk Q_BK335
      have K347:=Aside0.mk Q_BK347
      have K355:=Aside0.mk Q_BK355
      have HB:=Aside0.mk Q_HB
      have HO358:=Aside0.mk (Q_HO358 (hon 5 (by kernel_rfl)))
      have HO361:=Aside0.mk (Q_HO361 (hon 7 (by kernel_rfl)))
      refine value_ (w1:=w') (v:=.int .i64 a2) (wanted_on rfl rfl rfl (e38.trans (by first|rfl|(simp [*];done)))) rfl ?_ ?_
      ·go_simp
       (try simp only [i64_w])
       try rfl
      refine hK.out _ _ ⟨v357,v360,v364,m13_,(by rw [ha.out];exact putSel_upk 12 hb_ rfl rfl rfl),Q_HO338,Q_BK335,Q_BK347,Q_BK355,Q_HB,Q_HO358,Q_HO361,Q_HO365,Q_X13_⟩
     refine steps_cons ?_ ?_
     ·rintro b a w' ⟨v357,v360,v364,m13_,ha,Q_HO338,Q_BK335,Q_BK347,Q_BK355,Q_HB,Q_HO358,Q_HO361,Q_HO365,Q_X13_⟩ hb_ hon hoff
      refine ⟨_,rfl,fun K hK => ?_⟩
      have e40 : a.tmps[40]? = some (m13_):=by rw [ha];exact putSel_on (e:=(13,40,m13_)) 11 rfl rfl (hon 13 (by kernel_rfl)) rfl
      rw [Q_X13_ (hon 13 (by kernel_rfl))] at e40
      have e41 : a.tmps[41]? = some (.int .i64 a2):=by rw [ha];exact putSel_on (e:=(14,41,.int .i64 a2)) 12 rfl rfl (hon 14 (by kernel_rfl)) rfl
      have e38 : a.tmps[38]? = some (.bool (!true)):=by rw [ha];exact putSel_on (e:=(11,38,.bool (!true))) 9 rfl rfl (hon 11 (by kernel_rfl)) rfl
      replace ha:=Aside0.mk ha
      have HO338:=Aside0.mk Q_HO338
      have K335:=Aside0.mk Q_BK335
      have K347:=Aside0.mk Q_BK347
      have K355:=Aside0.mk Q_BK355
      have HB:=Aside0.mk Q_HB
      have HO358:=Aside0.mk (Q_HO358 (hon 5 (by kernel_rfl)))
      have HO361:=Aside0.mk (Q_HO361 (hon 7 (by kernel_rfl)))
      have HO365:=Aside0.mk (Q_HO365 (hon 13 (by kernel_rfl)))
      obtain ⟨Ao41,co41,eo41⟩:=Kd.R_slice HO365.out
      (first|subst eo41|(injection eo41 with f1_ f2_ f3_;have f4_:=f1_.symm;have f5_:=f3_.symm;clear f1_ f2_ f3_;subst f4_;subst f5_))
      refine goes_ Try.func25 (by kernel_rfl) rfl #[.agg #[.slice Ao41 t363.length co41,.bool t366],.int .i64 a2] zw rfl rfl (by first|(simp only [List.map_toArray,List.map_cons,List.map_nil,Act.eval,Array.getD_eq_getD_getElem?,Option.getD_some,e40,e41,e38];done)|(simp only [List.map_toArray,List.map_cons,List.map_nil,Act.eval,Array.getD_eq_getD_getElem?,Option.getD_some,e40,e41,e38];rfl)) ?_
      with_reducible refine (table_Count.calls k _ _ t363 t366 a2 t367 _ ?side1 ?side2 A29.out).mono ?_
      (case side1 => exact zC ((Kd.R_reads' HO365.out).2.2))
      (case side2 => exact (Kd.R_reads' HO365.out).2.1)
      rintro e w42 ⟨rfl,hb⟩
      refine ⟨_,rfl,?_⟩
      replace HO338:=Aside0.mk (Kd.R_below (zR HO338) hb)
      replace HO358:=Aside0.mk (Kd.R_below (zR HO358) hb)
      replace HO361:=Aside0.mk (Kd.R_below (zR HO361) hb)
      replace HO365:=Aside0.mk (Kd.R_below (zR HO365) hb)
      replace K335:=zB K335 hb
      replace K347:=zB K347 hb
      replace K355:=zB K355 hb
      replace HB:=zS HB hb
      (try clear hb)
      (try clear hb2)
      (try clear hk)
      (try clear hi)
      refine hK.out _ _ ⟨v357,v360,.slice Ao41 t363.length co41,m13_,(by rw [ha.out];exact putSel_upk 13 hb_ rfl rfl rfl),(zR HO338),(z1 K335.1),(z1 K347.1),(z1 K355.1),(zH HB),fun _ => (zR HO358),fun _ => (zR HO361),fun _ => (zR HO365),Q_X13_⟩
     refine steps_cons ?_ ?_
     ·rintro b a w' ⟨v357,v360,v364,m13_,ha,Q_HO338,Q_BK335,Q_BK347,Q_BK355,Q_HB,Q_HO358,Q_HO361,Q_HO365,Q_X13_⟩ hb_ hon hoff
      refine ⟨_,rfl,fun K hK => ?_⟩
      have e3 : a.tmps[3]? = some (.pointer (some ⟨G335,0,none⟩)):=by rw [ha];exact (putSel_off rfl).trans rfl
      have e38 : a.tmps[38]? = some (.bool (!true)):=by rw [ha];exact putSel_on (e:=(11,38,.bool (!true))) 9 rfl rfl (hon 11 (by kernel_rfl)) rfl
      replace ha:=Aside0.mk ha
      have HO338:=Aside0.mk Q_HO338
      have K335:=Aside0.mk Q_BK335
      have K347:=Aside0.mk Q_BK347
      have K355:=Aside0.mk Q_BK355
      have HB:=Aside0.mk Q_HB
      have HO358:=Aside0.mk (Q_HO358 (hon 5 (by kernel_rfl)))
      have HO361:=Aside0.mk (Q_HO361 (hon 7 (by kernel_rfl)))
      have hc0_ : w'.cell? ⟨G335,0,none⟩ = some (.slice A0_0 l0_0.length c0_0):=zk K335 0
      have hc1_ : w'.cell? ⟨G335,1,none⟩ = some (.bool a0_1):=zk K335 1
      refine value_ (w1:=w') (v:=.agg #[.slice A0_0 l0_0.length c0_0,.bool a0_1]) (wanted_on rfl rfl rfl (e38.trans (by first|rfl|(simp [*];done)))) rfl ?_ ?_
      ·go_simp
       (try simp only [i64_w])
       try rfl
      refine hK.out _ _ ⟨v357,v360,v364,m13_,(by rw [ha.out];exact putSel_upk 14 hb_ rfl rfl rfl),Q_HO338,Q_BK335,Q_BK347,Q_BK355,Q_HB,Q_HO358,Q_HO361,Q_HO365,Q_X13_⟩
     refine steps_cons ?_ ?_
     ·rintro b a w' ⟨v357,v360,v364,m13_,ha,Q_HO338,Q_BK335,Q_BK347,Q_BK355,Q_HB,Q_HO358,Q_HO361,Q_HO365,Q_X13_⟩ hb_ hon hoff
      refine ⟨_,rfl,fun K hK => ?_⟩
      have e2 : a.tmps[2]? = some (.int .i64 a2):=by rw [ha];exact (putSel_off rfl).trans rfl
      have e38 : a.tmps[38]? = some (.bool (!true)):=by rw [ha];exact putSel_on (e:=(11,38,.bool (!true))) 9 rfl rfl (hon 11 (by kernel_rfl)) rfl
      replace ha:=Aside0.mk ha
      have HO338:=Aside0.mk Q_HO338
      have K335:=Aside0.mk Q_BK335
      have K347:=Aside0.mk Q_BK347
      have K355:=Aside0.mk Q_BK355
      have HB:=Aside0.mk Q_HB
      have HO358:=Aside0.mk (Q_HO358 (hon 5 (by kernel_rfl)))
      have HO361:=Aside0.mk (Q_HO361 (hon 7 (by kernel_rfl)))
      refine value_ (w1:=w') (v:=.int .i64 a2) (wanted_on rfl rfl rfl (e38.trans (by first|rfl|(simp [*];done)))) rfl ?_ ?_
      ·go_simp
       (try simp only [i64_w])
       try rfl
      refine hK.out _ _ ⟨v357,v360,v364,m13_,(by rw [ha.out];exact putSel_upk 15 hb_ rfl rfl rfl),Q_HO338,Q_BK335,Q_BK347,Q_BK355,Q_HB,Q_HO358,Q_HO361,Q_HO365,Q_X13_⟩
     refine steps_cons ?_ ?_
     ·rintro b a w' ⟨v357,v360,v364,m13_,ha,Q_HO338,Q_BK335,Q_BK347,Q_BK355,Q_HB,Q_HO358,Q_HO361,Q_HO365,Q_X13_⟩ hb_ hon hoff
      refine ⟨_,rfl,fun K hK => ?_⟩
      have e43 : a.tmps[43]? = some (.agg #[.slice A0_0 l0_0.length c0_0,.bool a0_1]):=by rw [ha];exact putSel_on (e:=(16,43,.agg #[.slice A0_0 l0_0.length c0_0,.bool a0_1])) 14 rfl rfl (hon 16 (by kernel_rfl)) rfl
      have e44 : a.tmps[44]? = some (.int .i64 a2):=by rw [ha];exact putSel_on (e:=(17,44,.int .i64 a2)) 15 rfl rfl (hon 17 (by kernel_rfl)) rfl
      have e38 : a.tmps[38]? = some (.bool (!true)):=by rw [ha];exact putSel_on (e:=(11,38,.bool (!true))) 9 rfl rfl (hon 11 (by kernel_rfl)) rfl
      replace ha:=Aside0.mk ha
      have HO338:=Aside0.mk Q_HO338
      have K335:=Aside0.mk Q_BK335
      have K347:=Aside0.mk Q_BK347
      have K355:=Aside0.mk Q_BK355
      have HB:=Aside0.mk Q_HB
      have HO358:=Aside0.mk (Q_HO358 (hon 5 (by kernel_rfl)))
      have HO361:=Aside0.mk (Q_HO361 (hon 7 (by kernel_rfl)))
      have HO365:=Aside0.mk (Q_HO365 (hon 13 (by kernel_rfl)))
      refine goes_ Try.func26 (by kernel_rfl) rfl #[.agg #[.slice A0_0 l0_0.length c0_0,.bool a0_1],.int .i64 a2] zw rfl rfl (by first|(simp only [List.map_toArray,List.map_cons,List.map_nil,Act.eval,Array.getD_eq_getD_getElem?,Option.getD_some,e43,e44,e38];done)|(simp only [List.map_toArray,List.map_cons,List.map_nil,Act.eval,Array.getD_eq_getD_getElem?,Option.getD_some,e43,e44,e38];rfl)) ?_
      with_reducible refine (beaconref17_Count.calls k _ _ l0_0 a0_1 a2 t368 _ ?side1 ?side2 A30.out).mono ?_
      (case side1 => exact zC (Kd.C_below HR0_0.out HB.1))
      (case side2 => exact HC0_0.out)
      rintro e w43 ⟨rfl,hb⟩
      refine ⟨_,rfl,?_⟩
      replace HO338:=Aside0.mk (Kd.R_below (zR HO338) hb)
      replace HO358:=Aside0.mk (Kd.R_below (zR HO358) hb)
      replace HO361:=Aside0.mk (Kd.R_below (zR HO361) hb)
      replace HO365:=Aside0.mk (Kd.R_below (zR HO365) hb)
      replace K335:=zB K335 hb
      replace K347:=zB K347 hb
      replace K355:=zB K355 hb
      replace HB:=zS HB hb
      (try clear hb)
      (try clear hb2)
      (try clear hk)
      (try clear hi)
      refine hK.out _ _ ⟨v357,v360,v364,m13_,(by rw [ha.out];exact putSel_upk 16 hb_ rfl rfl rfl),(zR HO338),(z1 K335.1),(z1 K347.1),(z1 K355.1),(zH HB),fun _ => (zR HO358),fun _ => (zR HO361),fun _ => (zR HO365),Q_X13_⟩
     refine steps_cons ?_ ?_
     ·rintro b a w' ⟨v357,v360,v364,m13_,ha,Q_HO338,Q_BK335,Q_BK347,Q_BK355,Q_HB,Q_HO358,Q_HO361,Q_HO365,Q_X13_⟩ hb_ hon hoff
      refine ⟨_,rfl,fun K hK => ?_⟩
      have e42 : a.tmps[42]? = some (.int .i64 t367):=by rw [ha];exact putSel_on (e:=(15,42,.int .i64 t367)) 13 rfl rfl (hon 15 (by kernel_rfl)) rfl
      have e45 : a.tmps[45]? = some (.int .i64 t368):=by rw [ha];exact putSel_on (e:=(18,45,.int .i64 t368)) 16 rfl rfl (hon 18 (by kernel_rfl)) rfl
      have e38 : a.tmps[38]? = some (.bool (!true)):=by rw [ha];exact putSel_on (e:=(11,38,.bool (!true))) 9 rfl rfl (hon 11 (by kernel_rfl)) rfl
      replace ha:=Aside0.mk ha
      have HO338:=Aside0.mk Q_HO338
      have K335:=Aside0.mk Q_BK335
      have K347:=Aside0.mk Q_BK347
      have K355:=Aside0.mk Q_BK355
      have HB:=Aside0.mk Q_HB
      have HO358:=Aside0.mk (Q_HO358 (hon 5 (by kernel_rfl)))
      have HO361:=Aside0.mk (Q_HO361 (hon 7 (by kernel_rfl)))
      have HO365:=Aside0.mk (Q_HO365 (hon 13 (by kernel_rfl)))
      refine value_ (w1:=w') (v:=.bool (t367 != t368)) (wanted_on rfl rfl rfl (e38.trans (by first|rfl|(simp [*];done)))) rfl ?_ ?_
      ·go_simp
       (try simp only [i64_w])
       try rfl
      refine hK.out _ _ ⟨v357,v360,v364,m13_,(by rw [ha.out];exact putSel_upk 17 hb_ rfl rfl rfl),Q_HO338,Q_BK335,Q_BK347,Q_BK355,Q_HB,Q_HO358,Q_HO361,Q_HO365,Q_X13_⟩
     refine steps_cons ?_ ?_
     ·rintro b a w' ⟨v357,v360,v364,m13_,ha,Q_HO338,Q_BK335,Q_BK347,Q_BK355,Q_HB,Q_HO358,Q_HO361,Q_HO365,Q_X13_⟩ hb_ hon hoff
      refine ⟨_,rfl,fun K hK => ?_⟩
      have e38 : a.tmps[38]? = some (.bool (!true)):=by rw [ha];exact putSel_on (e:=(11,38,.bool (!true))) 9 rfl rfl (hon 11 (by kernel_rfl)) rfl
      have e46 : a.tmps[46]? = some (.bool (t367 != t368)):=by rw [ha];exact putSel_on (e:=(19,46,.bool (t367 != t368))) 17 rfl rfl (hon 19 (by kernel_rfl)) rfl
      replace ha:=Aside0.mk ha
      have HO338:=Aside0.mk Q_HO338
      have K335:=Aside0.mk Q_BK335
      have K347:=Aside0.mk Q_BK347
      have K355:=Aside0.mk Q_BK355
      have HB:=Aside0.mk Q_HB
      have HO358:=Aside0.mk (Q_HO358 (hon 5 (by kernel_rfl)))
      have HO361:=Aside0.mk (Q_HO361 (hon 7 (by kernel_rfl)))
      have HO365:=Aside0.mk (Q_HO365 (hon 13 (by kernel_rfl)))
      refine value_ (w1:=w') (v:=.bool (t367 != t368)) (by rfl) rfl ?_ ?_
      ·go_simp
       (try simp only [i64_w])
       try rfl
      refine hK.out _ _ ⟨v357,v360,v364,m13_,(by rw [ha.out];exact putSel_upk 18 hb_ rfl rfl rfl),Q_HO338,Q_BK335,Q_BK347,Q_BK355,Q_HB,Q_HO358,Q_HO361,Q_HO365,Q_X13_⟩
     exact steps_nil
    rintro b a w43 hall ⟨v357,v360,v364,m13_,ha,Q_HO338,Q_BK335,Q_BK347,Q_BK355,Q_HB,Q_HO358,Q_HO361,Q_HO365,Q_X13_⟩
    clear K335 K347 K355 HB HO338
    have hb2_:=hall 2 (by kernel_rfl)
    have hb3_:=hall 3 (by kernel_rfl)
    have hb4_:=hall 4 (by kernel_rfl)
    have hb5_:=hall 5 (by kernel_rfl)
    have hb6_:=hall 6 (by kernel_rfl)
    have hb7_:=hall 7 (by kernel_rfl)
    have hb8_:=hall 8 (by kernel_rfl)
    have hb9_:=hall 9 (by kernel_rfl)
    have hb10_:=hall 10 (by kernel_rfl)
    have hb11_:=hall 11 (by kernel_rfl)
    have hb12_:=hall 12 (by kernel_rfl)
    have hb13_:=hall 13 (by kernel_rfl)
    have hb14_:=hall 14 (by kernel_rfl)
    have hb15_:=hall 15 (by kernel_rfl)
    have hb16_:=hall 16 (by kernel_rfl)
    have hb17_:=hall 17 (by kernel_rfl)
    have hb18_:=hall 18 (by kernel_rfl)
    have hb19_:=hall 19 (by kernel_rfl)
    have hb20_:=hall 20 (by kernel_rfl)
    subst ha
    obtain rfl:=Q_X13_ hb13_
    simp only [putSel,hb2_,hb3_,hb4_,hb5_,hb6_,hb7_,hb8_,hb9_,hb10_,hb11_,hb12_,hb13_,hb14_,hb15_,hb16_,hb17_,hb18_,hb19_,hb20_,if_true,Act.put,xA,xB,xC]
    have HO338:=Aside0.mk Q_HO338
    clear Q_HO338
    have K335:=Aside0.mk Q_BK335
    clear Q_BK335
    have K347:=Aside0.mk Q_BK347
    clear Q_BK347
    have K355:=Aside0.mk Q_BK355
    clear Q_BK355
    have HB:=Aside0.mk Q_HB
    clear Q_HB
    have HO358:=Aside0.mk (Q_HO358 hb5_)
    clear Q_HO358
    have HO361:=Aside0.mk (Q_HO361 hb7_)
    clear Q_HO361
    have HO365:=Aside0.mk (Q_HO365 hb13_)
    clear Q_HO365
    clear hall hb2_ hb3_ hb4_ hb5_ hb6_ hb7_ hb8_ hb9_ hb10_ hb11_ hb12_ hb13_ hb14_ hb15_ hb16_ hb17_ hb18_ hb19_ hb20_
    try go_wp2
    go_meet
    case rel => exact ⟨_,((t367 != t368)),ze,H',⟨zo⟩,⟨z1 K335.1⟩,⟨z1 K347.1⟩,⟨z1 K355.1⟩,⟨zH HB⟩⟩
   ·replace c27:=Bool.eq_false_iff.mpr c27
    subst c27
    have H1 : (beaconlaw17_TableFinds.j0 k true l0_0 a0_1) = some r:=by rw [if_neg (show ¬ (false = true) by decide)] at H;exact H
    clear H
    have H:=H1
    clear H1
    have H':=Aside0.mk H
    clear H
    try go_wp2
    replace HO338:=Aside0.mk (Kd.R_drew HO338.out)
    replace K335:=Aside0.mk (bD K335.1)
    replace K347:=Aside0.mk (bD K347.1)
    replace K355:=Aside0.mk (bD K355.1)
    replace HB:=Aside0.mk (bw1 HB.1)
    refine start_ (n:=21) (S:=fun w' => True) (ds:=[]) #[F,F,F,F,F,F,F,F,F,F,F,F,F,F,F,F,F,F,F,F,F] (by kernel_rfl) rfl rfl trivial (fun hHeld => ?_);refine with_tabW beaconlaw17_TableFinds.tab3 beaconlaw17_TableFinds.bits3 (fun HT_ HW_ => ?_)
    generalize w23.drew = w44 at HO338 K335 K347 K355 HB hHeld ⊢
    refine pz 0 27 #[T,F,F,F,F,F,F,F,F,F,F,F,F,F,F,F,F,F,F,F,F] HT_.1 ?_
    refine pz 1 28 #[T,T,F,F,F,F,F,F,F,F,F,F,F,F,F,F,F,F,F,F,F] HT_.1 ?_
    refine inv_at [2,3,4,5,6,7,8,9,10,11,12,13,14,15,16,17,18,19,20] (fun a0_ b a w' => ∃ (v357 : Value) (v360 : Value),a = putSel a0_ b [(2,29,.bool (t346 != t354)),(3,30,.bool (t346 != t354)),(4,31,.agg #[.int .i64 t340,.int .i64 t341,.float .f64 t342,.int .i64 t343,.float .f64 t344,.int .i64 t345]),(5,32,v357),(6,33,.agg #[.int .i64 t348,.int .i64 t349,.float .f64 t350,.int .i64 t351,.float .f64 t352,.int .i64 t353]),(7,34,v360),(8,35,.bool false),(9,36,.bool (!false)),(10,37,.bool (!false)),(11,38,.bool (!false)),(12,39,undef),(13,40,undef),(14,41,undef),(15,42,undef),(16,43,undef),(17,44,undef),(18,45,undef),(19,46,undef),(20,47,.bool true)] ∧ (Kd.R k39 39 w' w.heap.size (fun k_ => k_ ≠ G347 ∧ k_ ≠ G355) (.slice Ao11 t336.length co11) t336) ∧ (w'.heap[G335]? = some (.cells #[.slice A0_0 l0_0.length c0_0,.bool a0_1] 24 (0,0))) ∧ (w'.heap[G347]? = some (.cells #[.int .i64 t340,.int .i64 t341,.float .f64 t342,.int .i64 t343,.float .f64 t344,.int .i64 t345] 39 (0,0))) ∧ (w'.heap[G355]? = some (.cells #[.int .i64 t348,.int .i64 t349,.float .f64 t350,.int .i64 t351,.float .f64 t352,.int .i64 t353] 39 (0,0))) ∧ (Below w.heap.size w w') ∧ (b 5 = true → Kd.R k39 39 w' w.heap.size (fun k_ => some k_ ≠ (.slice Ao11 t336.length co11 : Value).ownBlock ∧ k_ ≠ G347 ∧ k_ ≠ G355) v357 y356) ∧ (b 7 = true → Kd.R k39 39 w' w.heap.size (fun k_ => some k_ ≠ (.slice Ao11 t336.length co11 : Value).ownBlock ∧ k_ ≠ G347 ∧ k_ ≠ G355) v360 y359)) HT_.out HW_.out (by kernel_rfl) (by kernel_rfl) ?_ ?_ ?_
    ·exact ⟨.bool false,.bool false,by simp only [putSel,Bool.false_eq_true,if_false],HO338.out,K335.1,K347.1,K355.1,HB.1,fun h_ => absurd h_ (by decide),fun h_ => absurd h_ (by decide)⟩
    ·skip
     clear K335 K347 K355 HB HO338
     refine steps_cons ?_ ?_
     ·rintro b a w' ⟨v357,v360,ha,Q_HO338,Q_BK335,Q_BK347,Q_BK355,Q_HB,Q_HO358,Q_HO361⟩ hb_ hon hoff
      refine ⟨_,rfl,fun K hK => ?_⟩
      have e27 : a.tmps[27]? = some (.bool t346):=by rw [ha];exact (putSel_off rfl).trans rfl
      have e28 : a.tmps[28]? = some (.bool t354):=by rw [ha];exact (putSel_off rfl).trans rfl
      replace ha:=Aside0.mk ha
      have HO338:=Aside0.mk Q_HO338
      have K335:=Aside0.mk Q_BK335
      have K347:=Aside0.mk Q_BK347
      have K355:=Aside0.mk Q_BK355
      have HB:=Aside0.mk Q_HB
      refine value_ (w1:=w') (v:=.bool (t346 != t354)) (by rfl) rfl ?_ ?_
      ·go_simp
       (try simp only [i64_w])
       try rfl
      refine hK.out _ _ ⟨v357,v360,(by rw [ha.out];exact putSel_upk 0 hb_ rfl rfl rfl),Q_HO338,Q_BK335,Q_BK347,Q_BK355,Q_HB,fun h0_ => absurd ((hoff 5 (by kernel_rfl)).symm.trans h0_) (by decide),fun h0_ => absurd ((hoff 7 (by kernel_rfl)).symm.trans h0_) (by decide)⟩
     refine steps_cons ?_ ?_
     ·rintro b a w' ⟨v357,v360,ha,Q_HO338,Q_BK335,Q_BK347,Q_BK355,Q_HB,Q_HO358,Q_HO361⟩ hb_ hon hoff
      refine ⟨_,rfl,fun K hK => ?_⟩
      have e29 : a.tmps[29]? = some (.bool (t346 != t354)):=by rw [ha];exact putSel_on (e:=(2,29,.bool (t346 != t354))) 0 rfl rfl (hon 2 (by kernel_rfl)) rfl
      replace ha:=Aside0.mk ha
      have HO338:=Aside0.mk Q_HO338
      have K335:=Aside0.mk Q_BK335
      have K347:=Aside0.mk Q_BK347
      have K355:=Aside0.mk Q_BK355
      have HB:=Aside0.mk Q_HB
      refine value_ (w1:=w') (v:=.bool (t346 != t354)) (by rfl) rfl ?_ ?_
      ·go_simp
       (try simp only [i64_w])
       try rfl
      refine hK.out _ _ ⟨v357,v360,(by rw [ha.out];exact putSel_upk 1 hb_ rfl rfl rfl),Q_HO338,Q_BK335,Q_BK347,Q_BK355,Q_HB,fun h0_ => absurd ((hoff 5 (by kernel_rfl)).symm.trans h0_) (by decide),fun h0_ => absurd ((hoff 7 (by kernel_rfl)).symm.trans h0_) (by decide)⟩
     refine steps_cons ?_ ?_
     ·rintro b a w' ⟨v357,v360,ha,Q_HO338,Q_BK335,Q_BK347,Q_BK355,Q_HB,Q_HO358,Q_HO361⟩ hb_ hon hoff
      refine ⟨_,rfl,fun K hK => ?_⟩
      have e7 : a.tmps[7]? = some (.pointer (some ⟨G347,0,none⟩)):=by rw [ha];exact (putSel_off rfl).trans rfl
      have e30 : a.tmps[30]? = some (.bool (t346 != t354)):=by rw [ha];exact putSel_on (e:=(3,30,.bool (t346 != t354))) 1 rfl rfl (hon 3 (by kernel_rfl)) rfl
      replace ha:=Aside0.mk ha
      have HO338:=Aside0.mk Q_HO338
      have K335:=Aside0.mk Q_BK335
      have K347:=Aside0.mk Q_BK347
      have K355:=Aside0.mk Q_BK355
      have HB:=Aside0.mk Q_HB
      have hc0_ : w'.cell? ⟨G347,0,none⟩ = some (.int .i64 t340):=zk K347 0
      have hc1_ : w'.cell? ⟨G347,1,none⟩ = some (.int .i64 t341):=zk K347 1
      have hc2_ : w'.cell? ⟨G347,2,none⟩ = some (.float .f64 t342):=zk K347 2
      have hc3_ : w'.cell? ⟨G347,3,none⟩ = some (.int .i64 t343):=zk K347 3
      have hc4_ : w'.cell? ⟨G347,4,none⟩ = some (.float .f64 t344):=zk K347 4
      have hc5_ : w'.cell? ⟨G347,5,none⟩ = some (.int .i64 t345):=zk K347 5
      refine value_ (w1:=w') (v:=.agg #[.int .i64 t340,.int .i64 t341,.float .f64 t342,.int .i64 t343,.float .f64 t344,.int .i64 t345]) (wanted_on rfl rfl rfl (e30.trans (by first|rfl|(simp [*];done)))) rfl ?_ ?_
      ·go_simp
       (try simp only [i64_w])
       try rfl
      refine hK.out _ _ ⟨v357,v360,(by rw [ha.out];exact putSel_upk 2 hb_ rfl rfl rfl),Q_HO338,Q_BK335,Q_BK347,Q_BK355,Q_HB,fun h0_ => absurd ((hoff 5 (by kernel_rfl)).symm.trans h0_) (by decide),Q_HO361⟩
     refine steps_cons ?_ ?_
     ·rintro b a w' ⟨v357,v360,ha,Q_HO338,Q_BK335,Q_BK347,Q_BK355,Q_HB,Q_HO358,Q_HO361⟩ hb_ hon hoff
      refine ⟨_,rfl,fun K hK => ?_⟩
      have e31 : a.tmps[31]? = some (.agg #[.int .i64 t340,.int .i64 t341,.float .f64 t342,.int .i64 t343,.float .f64 t344,.int .i64 t345]):=by rw [ha];exact putSel_on (e:=(4,31,.agg #[.int .i64 t340,.int .i64 t341,.float .f64 t342,.int .i64 t343,.float .f64 t344,.int .i64 t345])) 2 rfl rfl (hon 4 (by kernel_rfl)) rfl
      have e30 : a.tmps[30]? = some (.bool (t346 != t354)):=by rw [ha];exact putSel_on (e:=(3,30,.bool (t346 != t354))) 1 rfl rfl (hon 3 (by kernel_rfl)) rfl
      replace ha:=Aside0.mk ha
      have HO338:=Aside0.mk Q_HO338
      have K335:=Aside0.mk Q_BK335
      have K347:=Aside0.mk Q_BK347
      have K355:=Aside0.mk Q_BK355
      have HB:=Aside0.mk Q_HB
      refine Kd.R_lit_step k39 _ 39 ?hg (N:=32) ?hd (xs:=([(⟨t340,t341,t342,t343,t344,t345⟩ : S39)] : List (S39))) (inner:=[.int .i64 t340,.int .i64 t341,.float .f64 t342,.int .i64 t343,.float .f64 t344,.int .i64 t345]) (ok:=fun _ => True) (okp:=fun _ => True) ?hr ?hp (fun _ hk => hk) trivial (Below.refl _ _) (Nat.le_refl _) (by simp) ?_;(case hd => rfl);(case hg => exact zw);(case hr => first|(go_simp;done)|(go_simp;rfl));(case hp => exact (Reps.c6 (show Kd.M k39 _ _ _ (⟨t340,t341,t342,t343,t344,t345⟩ : S39) [.int .i64 t340,.int .i64 t341,.float .f64 t342,.int .i64 t343,.float .f64 t344,.int .i64 t345] from (k39_mkM _ _ _ (⟨t340,t341,t342,t343,t344,t345⟩ : S39) )) (Reps.none _ _)))
      intro v357 w45 ho46 hb hg_ hnew_
      clear hg_ hnew_
      (first|rw [← Ny356.out] at ho46|(simp only [Int.reduceToNat] at ho46;rw [← Ny356.out] at ho46))
      have n0_:=Aside0.mk (Kd.R_elder' (zR HO338) (Kd.R_base ho46) hb)
      have n1_:=Aside0.mk (Kd.R_lower (Kd.R_newB (Kd.R_newB (Kd.R_new' ho46 (Kd.R_lt (zR HO338))) (g:=G347) (z1 K347.1)) (g:=G355) (z1 K355.1)) (zW HB))
      have n2_:=zB K335 hb
      have n3_:=zB K347 hb
      have n4_:=zB K355 hb
      have n5_:=zS HB hb
      have z_HO361:=fun (h0_ : b 7 = true) => (show Kd.R k39 39 w45 w.heap.size (fun k_ => some k_ ≠ (.slice Ao11 t336.length co11 : Value).ownBlock ∧ k_ ≠ G347 ∧ k_ ≠ G355) v360 y359 from by first|exact (Kd.R_elder' (by (with_reducible repeat (first|apply Kd.R_alloc|apply Kd.R_drewN|apply Kd.R_drew));exact (Q_HO361 h0_)) (Kd.R_base ho46) hb)|exact Kd.R_mono (Kd.R_elder' (by (with_reducible repeat (first|apply Kd.R_alloc|apply Kd.R_drewN|apply Kd.R_drew));exact (Q_HO361 h0_)) (Kd.R_base ho46) hb) (fun _ h_ => by first|trivial|exact h_|exact h_.1))
      clear HO338
      clear K335
      clear K347
      clear K355
      clear HB
      have HO338:=n0_
      have HO358:=n1_
      have K335:=n2_
      have K347:=n3_
      have K355:=n4_
      have HB:=n5_
      clear n0_ n1_ n2_ n3_ n4_ n5_
      clear hb ho46
      refine hK.out _ _ ⟨v357,v360,(by rw [ha.out];exact putSel_upk 3 hb_ rfl rfl rfl),(by (with_reducible repeat (first|apply Kd.R_alloc|apply Kd.R_drewN|apply Kd.R_drew));exact Kd.R_mono HO338.out (fun _ hk => Z21.zm hk)),(z1 K335.1),(z1 K347.1),(z1 K355.1),(zH HB),fun _ => (by (with_reducible repeat (first|apply Kd.R_alloc|apply Kd.R_drewN|apply Kd.R_drew));exact Kd.R_mono HO358.out (fun _ hk => Z21.zm hk)),z_HO361⟩
     refine steps_cons ?_ ?_
     ·rintro b a w' ⟨v357,v360,ha,Q_HO338,Q_BK335,Q_BK347,Q_BK355,Q_HB,Q_HO358,Q_HO361⟩ hb_ hon hoff
      refine ⟨_,rfl,fun K hK => ?_⟩
      have e9 : a.tmps[9]? = some (.pointer (some ⟨G355,0,none⟩)):=by rw [ha];exact (putSel_off rfl).trans rfl
      have e30 : a.tmps[30]? = some (.bool (t346 != t354)):=by rw [ha];exact putSel_on (e:=(3,30,.bool (t346 != t354))) 1 rfl rfl (hon 3 (by kernel_rfl)) rfl
      replace ha:=Aside0.mk ha
      have HO338:=Aside0.mk Q_HO338
      have K335:=Aside0.mk Q_BK335
      have K347:=Aside0.mk Q_BK347
      have K355:=Aside0.mk Q_BK355
      have HB:=Aside0.mk Q_HB
      have hc0_ : w'.cell? ⟨G355,0,none⟩ = some (.int .i64 t348):=zk K355 0
      have hc1_ : w'.cell? ⟨G355,1,none⟩ = some (.int .i64 t349):=zk K355 1
      have hc2_ : w'.cell? ⟨G355,2,none⟩ = some (.float .f64 t350):=zk K355 2
      have hc3_ : w'.cell? ⟨G355,3,none⟩ = some (.int .i64 t351):=zk K355 3
      have hc4_ : w'.cell? ⟨G355,4,none⟩ = some (.float .f64 t352):=zk K355 4
      have hc5_ : w'.cell? ⟨G355,5,none⟩ = some (.int .i64 t353):=zk K355 5
      refine value_ (w1:=w') (v:=.agg #[.int .i64 t348,.int .i64 t349,.float .f64 t350,.int .i64 t351,.float .f64 t352,.int .i64 t353]) (wanted_on rfl rfl rfl (e30.trans (by first|rfl|(simp [*];done)))) rfl ?_ ?_
      ·go_simp
       (try simp only [i64_w])
       try rfl
      refine hK.out _ _ ⟨v357,v360,(by rw [ha.out];exact putSel_upk 4 hb_ rfl rfl rfl),Q_HO338,Q_BK335,Q_BK347,Q_BK355,Q_HB,Q_HO358,fun h0_ => absurd ((hoff 7 (by kernel_rfl)).symm.trans h0_) (by decide)⟩
     refine steps_cons ?_ ?_
     ·rintro b a w' ⟨v357,v360,ha,Q_HO338,Q_BK335,Q_BK347,Q_BK355,Q_HB,Q_HO358,Q_HO361⟩ hb_ hon hoff
      refine ⟨_,rfl,fun K hK => ?_⟩
      have e33 : a.tmps[33]? = some (.agg #[.int .i64 t348,.int .i64 t349,.float .f64 t350,.int .i64 t351,.float .f64 t352,.int .i64 t353]):=by rw [ha];exact putSel_on (e:=(6,33,.agg #[.int .i64 t348,.int .i64 t349,.float .f64 t350,.int .i64 t351,.float .f64 t352,.int .i64 t353])) 4 rfl rfl (hon 6 (by kernel_rfl)) rfl
      have e30 : a.tmps[30]? = some (.bool (t346 != t354)):=by rw [ha];exact putSel_on (e:=(3,30,.bool (t346 != t354))) 1 rfl rfl (hon 3 (by kernel_rfl)) rfl
      replace ha:=Aside0.mk ha
      have HO338:=Aside0.mk Q_HO338
      have K335:=Aside0.mk Q_BK335
      have K347:=Aside0.mk Q_BK347
      have K355:=Aside0.mk Q_BK355
      have HB:=Aside0.mk Q_HB
      refine Kd.R_lit_step k39 _ 39 ?hg (N:=34) ?hd (xs:=([(⟨t348,t349,t350,t351,t352,t353⟩ : S39)] : List (S39))) (inner:=[.int .i64 t348,.int .i64 t349,.float .f64 t350,.int .i64 t351,.float .f64 t352,.int .i64 t353]) (ok:=fun _ => True) (okp:=fun _ => True) ?hr ?hp (fun _ hk => hk) trivial (Below.refl _ _) (Nat.le_refl _) (by simp) ?_;(case hd => rfl);(case hg => exact zw);(case hr => first|(go_simp;done)|(go_simp;rfl));(case hp => exact (Reps.c6 (show Kd.M k39 _ _ _ (⟨t348,t349,t350,t351,t352,t353⟩ : S39) [.int .i64 t348,.int .i64 t349,.float .f64 t350,.int .i64 t351,.float .f64 t352,.int .i64 t353] from (k39_mkM _ _ _ (⟨t348,t349,t350,t351,t352,t353⟩ : S39) )) (Reps.none _ _)))
      intro v360 w45 ho46 hb hg_ hnew_
      clear hg_ hnew_
      (first|rw [← Ny359.out] at ho46|(simp only [Int.reduceToNat] at ho46;rw [← Ny359.out] at ho46))
      have n0_:=Aside0.mk (Kd.R_elder' (zR HO338) (Kd.R_base ho46) hb)
      have n1_:=Aside0.mk (Kd.R_lower (Kd.R_newB (Kd.R_newB (Kd.R_new' ho46 (Kd.R_lt (zR HO338))) (g:=G347) (z1 K347.1)) (g:=G355) (z1 K355.1)) (zW HB))
      have n2_:=zB K335 hb
      have n3_:=zB K347 hb
      have n4_:=zB K355 hb
      have n5_:=zS HB hb
      have z_HO358:=fun (h0_ : b 5 = true) => (show Kd.R k39 39 w45 w.heap.size (fun k_ => some k_ ≠ (.slice Ao11 t336.length co11 : Value).ownBlock ∧ k_ ≠ G347 ∧ k_ ≠ G355) v357 y356 from by first|exact (Kd.R_elder' (by (with_reducible repeat (first|apply Kd.R_alloc|apply Kd.R_drewN|apply Kd.R_drew));exact (Q_HO358 h0_)) (Kd.R_base ho46) hb)|exact Kd.R_mono (Kd.R_elder' (by (with_reducible repeat (first|apply Kd.R_alloc|apply Kd.R_drewN|apply Kd.R_drew));exact (Q_HO358 h0_)) (Kd.R_base ho46) hb) (fun _ h_ => by first|trivial|exact h_|exact h_.1))
      clear HO338
      clear K335
      clear K347
      clear K355
      clear HB
      have HO338:=n0_
      have HO361:=n1_
      have K335:=n2_
      have K347:=n3_
      have K355:=n4_
      have HB:=n5_
      clear n0_ n1_ n2_ n3_ n4_ n5_
      clear hb ho46
      refine hK.out _ _ ⟨v357,v360,(by rw [ha.out];exact putSel_upk 5 hb_ rfl rfl rfl),(by (with_reducible repeat (first|apply Kd.R_alloc|apply Kd.R_drewN|apply Kd.R_drew));exact Kd.R_mono HO338.out (fun _ hk => Z21.zm hk)),(z1 K335.1),(z1 K347.1),(z1 K355.1),(zH HB),z_HO358,fun _ => (by (with_reducible repeat (first|apply Kd.R_alloc|apply Kd.R_drewN|apply Kd.R_drew));exact Kd.R_mono HO361.out (fun _ hk => Z21.zm hk))⟩
     refine steps_cons ?_ ?_
     ·rintro b a w' ⟨v357,v360,ha,Q_HO338,Q_BK335,Q_BK347,Q_BK355,Q_HB,Q_HO358,Q_HO361⟩ hb_ hon hoff
      refine ⟨_,rfl,fun K hK => ?_⟩
      have e32 : a.tmps[32]? = some (v357):=by rw [ha];exact putSel_on (e:=(5,32,v357)) 3 rfl rfl (hon 5 (by kernel_rfl)) rfl
      have e34 : a.tmps[34]? = some (v360):=by rw [ha];exact putSel_on (e:=(7,34,v360)) 5 rfl rfl (hon 7 (by kernel_rfl)) rfl
      have e30 : a.tmps[30]? = some (.bool (t346 != t354)):=by rw [ha];exact putSel_on (e:=(3,30,.bool (t346 != t354))) 1 rfl rfl (hon 3 (by kernel_rfl)) rfl
      replace ha:=Aside0.mk ha
      have HO338:=Aside0.mk Q_HO338
      have K335:=Aside0.mk Q_BK335
      have K347:=Aside0.mk Q_BK347
      have K355:=Aside0.mk Q_BK355
      have HB:=Aside0.mk Q_HB
      have HO358:=Aside0.mk (Q_HO358 (hon 5 (by kernel_rfl)))
      have HO361:=Aside0.mk (Q_HO361 (hon 7 (by kernel_rfl)))
      obtain ⟨Ao50,co50,eo50⟩:=Kd.R_slice HO358.out
      (first|subst eo50|(injection eo50 with f1_ f2_ f3_;have f4_:=f1_.symm;have f5_:=f3_.symm;clear f1_ f2_ f3_;subst f4_;subst f5_))
      obtain ⟨Ao51,co51,eo51⟩:=Kd.R_slice HO361.out
      (first|subst eo51|(injection eo51 with f1_ f2_ f3_;have f4_:=f1_.symm;have f5_:=f3_.symm;clear f1_ f2_ f3_;subst f4_;subst f5_))
      refine goes_ Try.func21 (by kernel_rfl) rfl #[.slice Ao50 y356.length co50,.slice Ao51 y359.length co51] zw rfl rfl (by first|(simp only [List.map_toArray,List.map_cons,List.map_nil,Act.eval,Array.getD_eq_getD_getElem?,Option.getD_some,e32,e34,e30];done)|(simp only [List.map_toArray,List.map_cons,List.map_nil,Act.eval,Array.getD_eq_getD_getElem?,Option.getD_some,e32,e34,e30];rfl)) ?_
      with_reducible refine (beaconref09_SameEntries.calls k _ _ y356 _ _ y359 false _ ?side1 ?side2 ?side3 ?side4 A26.out).mono ?_
      (case side1 => exact zC ((Kd.R_reads' HO358.out).2.2))
      (case side2 => exact (Kd.R_reads' HO358.out).2.1)
      (case side3 => exact zC ((Kd.R_reads' HO361.out).2.2))
      (case side4 => exact (Kd.R_reads' HO361.out).2.1)
      rintro e w52 ⟨rfl,hb⟩
      refine ⟨_,rfl,?_⟩
      replace HO338:=Aside0.mk (Kd.R_below (zR HO338) hb)
      replace HO358:=Aside0.mk (Kd.R_below (zR HO358) hb)
      replace HO361:=Aside0.mk (Kd.R_below (zR HO361) hb)
      replace K335:=zB K335 hb
      replace K347:=zB K347 hb
      replace K355:=zB K355 hb
      replace HB:=zS HB hb
      (try clear hb)
      (try clear hb2)
      (try clear hk)
      (try clear hi)
      refine hK.out _ _ ⟨.slice Ao50 y356.length co50,.slice Ao51 y359.length co51,(by rw [ha.out];exact putSel_upk 6 hb_ rfl rfl rfl),(zR HO338),(z1 K335.1),(z1 K347.1),(z1 K355.1),(zH HB),fun _ => (zR HO358),fun _ => (zR HO361)⟩
     refine steps_cons ?_ ?_
     ·rintro b a w' ⟨v357,v360,ha,Q_HO338,Q_BK335,Q_BK347,Q_BK355,Q_HB,Q_HO358,Q_HO361⟩ hb_ hon hoff
      refine ⟨_,rfl,fun K hK => ?_⟩
      have e35 : a.tmps[35]? = some (.bool false):=by rw [ha];exact putSel_on (e:=(8,35,.bool false)) 6 rfl rfl (hon 8 (by kernel_rfl)) rfl
      have e30 : a.tmps[30]? = some (.bool (t346 != t354)):=by rw [ha];exact putSel_on (e:=(3,30,.bool (t346 != t354))) 1 rfl rfl (hon 3 (by kernel_rfl)) rfl
      replace ha:=Aside0.mk ha
      have HO338:=Aside0.mk Q_HO338
      have K335:=Aside0.mk Q_BK335
      have K347:=Aside0.mk Q_BK347
      have K355:=Aside0.mk Q_BK355
      have HB:=Aside0.mk Q_HB
      have HO358:=Aside0.mk (Q_HO358 (hon 5 (by kernel_rfl)))
      have HO361:=Aside0.mk (Q_HO361 (hon 7 (by kernel_rfl)))
      refine value_ (w1:=w') (v:=.bool (!false)) (wanted_on rfl rfl rfl (e30.trans (by first|rfl|(simp [*];done)))) rfl ?_ ?_
      ·go_simp
       (try simp only [i64_w])
       try rfl
      refine hK.out _ _ ⟨v357,v360,(by rw [ha.out];exact putSel_upk 7 hb_ rfl rfl rfl),Q_HO338,Q_BK335,Q_BK347,Q_BK355,Q_HB,Q_HO358,Q_HO361⟩
     refine steps_cons ?_ ?_
     ·rintro b a w' ⟨v357,v360,ha,Q_HO338,Q_BK335,Q_BK347,Q_BK355,Q_HB,Q_HO358,Q_HO361⟩ hb_ hon hoff
      refine ⟨_,rfl,fun K hK => ?_⟩
      have e30 : a.tmps[30]? = some (.bool (t346 != t354)):=by rw [ha];exact putSel_on (e:=(3,30,.bool (t346 != t354))) 1 rfl rfl (hon 3 (by kernel_rfl)) rfl
      have e36 : a.tmps[36]? = some (.bool (!false)):=by rw [ha];exact putSel_on (e:=(9,36,.bool (!false))) 7 rfl rfl (hon 9 (by kernel_rfl)) rfl
      replace ha:=Aside0.mk ha
      have HO338:=Aside0.mk Q_HO338
      have K335:=Aside0.mk Q_BK335
      have K347:=Aside0.mk Q_BK347
      have K355:=Aside0.mk Q_BK355
      have HB:=Aside0.mk Q_HB
      have HO358:=Aside0.mk (Q_HO358 (hon 5 (by kernel_rfl)))
      have HO361:=Aside0.mk (Q_HO361 (hon 7 (by kernel_rfl)))
      refine value_ (w1:=w') (v:=.bool (!false)) (by rfl) rfl ?_ ?_
      ·go_simp
       (try simp only [i64_w])
       try rfl
      refine hK.out _ _ ⟨v357,v360,(by rw [ha.out];exact putSel_upk 8 hb_ rfl rfl rfl),Q_HO338,Q_BK335,Q_BK347,Q_BK355,Q_HB,Q_HO358,Q_HO361⟩
     refine steps_cons ?_ ?_
     ·rintro b a w' ⟨v357,v360,ha,Q_HO338,Q_BK335,Q_BK347,Q_BK355,Q_HB,Q_HO358,Q_HO361⟩ hb_ hon hoff
      refine ⟨_,rfl,fun K hK => ?_⟩
      have e37 : a.tmps[37]? = some (.bool (!false)):=by rw [ha];exact putSel_on (e:=(10,37,.bool (!false))) 8 rfl rfl (hon 10 (by kernel_rfl)) rfl
      replace ha:=Aside0.mk ha
      have HO338:=Aside0.mk Q_HO338
      have K335:=Aside0.mk Q_BK335
      have K347:=Aside0.mk Q_BK347
      have K355:=Aside0.mk Q_BK355
      have HB:=Aside0.mk Q_HB
      have HO358:=Aside0.mk (Q_HO358 (hon 5 (by kernel_rfl)))
      have HO361:=Aside0.mk (Q_HO361 (hon 7 (by kernel_rfl)))
      refine value_ (w1:=w') (v:=.bool (!false)) (by rfl) rfl ?_ ?_
      ·go_simp
       (try simp only [i64_w])
       try rfl
      refine hK.out _ _ ⟨v357,v360,(by rw [ha.out];exact putSel_upk 9 hb_ rfl rfl rfl),Q_HO338,Q_BK335,Q_BK347,Q_BK355,Q_HB,Q_HO358,Q_HO361⟩
     refine steps_cons ?_ ?_
     ·rintro b a w' ⟨v357,v360,ha,Q_HO338,Q_BK335,Q_BK347,Q_BK355,Q_HB,Q_HO358,Q_HO361⟩ hb_ hon hoff
      refine ⟨_,rfl,fun K hK => ?_⟩
      have e38 : a.tmps[38]? = some (.bool (!false)):=by rw [ha];exact putSel_on (e:=(11,38,.bool (!false))) 9 rfl rfl (hon 11 (by kernel_rfl)) rfl
      replace ha:=Aside0.mk ha
      have HO338:=Aside0.mk Q_HO338
      have K335:=Aside0.mk Q_BK335
      have K347:=Aside0.mk Q_BK347
      have K355:=Aside0.mk Q_BK355
      have HB:=Aside0.mk Q_HB
      have HO358:=Aside0.mk (Q_HO358 (hon 5 (by kernel_rfl)))
      have HO361:=Aside0.mk (Q_HO361 (hon 7 (by kernel_rfl)))
      refine off_ (wanted_off rfl rfl rfl (e38.trans (by first|rfl|(simp [*];done)))) ?_
      refine hK.out _ _ ⟨v357,v360,(by rw [ha.out];exact putSel_upk 10 hb_ rfl rfl rfl),Q_HO338,Q_BK335,Q_BK347,Q_BK355,Q_HB,Q_HO358,Q_HO361⟩
     refine steps_cons ?_ ?_
     ·rintro b a w' ⟨v357,v360,ha,Q_HO338,Q_BK335,Q_BK347,Q_BK355,Q_HB,Q_HO358,Q_HO361⟩ hb_ hon hoff
      refine ⟨_,rfl,fun K hK => ?_⟩
      have e38 : a.tmps[38]? = some (.bool (!false)):=by rw [ha];exact putSel_on (e:=(11,38,.bool (!false))) 9 rfl rfl (hon 11 (by kernel_rfl)) rfl
      replace ha:=Aside0.mk ha
      have HO338:=Aside0.mk Q_HO338
      have K335:=Aside0.mk Q_BK335
      have K347:=Aside0.mk Q_BK347
      have K355:=Aside0.mk Q_BK355
      have HB:=Aside0.mk Q_HB
      have HO358:=Aside0.mk (Q_HO358 (hon 5 (by kernel_rfl)))
      have HO361:=Aside0.mk (Q_HO361 (hon 7 (by kernel_rfl)))
      refine off_ (wanted_off rfl rfl rfl (e38.trans (by first|rfl|(simp [*];done)))) ?_
      refine hK.out _ _ ⟨v357,v360,(by rw [ha.out];exact putSel_upk 11 hb_ rfl rfl rfl),Q_HO338,Q_BK335,Q_BK347,Q_BK355,Q_HB,Q_HO358,Q_HO361⟩
     refine steps_cons ?_ ?_
     ·rintro b a w' ⟨v357,v360,ha,Q_HO338,Q_BK335,Q_BK347,Q_BK355,Q_HB,Q_HO358,Q_HO361⟩ hb_ hon hoff
      refine ⟨_,rfl,fun K hK => ?_⟩
      have e38 : a.tmps[38]? = some (.bool (!false)):=by rw [ha];exact putSel_on (e:=(11,38,.bool (!false))) 9 rfl rfl (hon 11 (by kernel_rfl)) rfl
      replace ha:=Aside0.mk ha
      have HO338:=Aside0.mk Q_HO338
      have K335:=Aside0.mk Q_BK335
      have K347:=Aside0.mk Q_BK347
      have K355:=Aside0.mk Q_BK355
      have HB:=Aside0.mk Q_HB
      have HO358:=Aside0.mk (Q_HO358 (hon 5 (by kernel_rfl)))
      have HO361:=Aside0.mk (Q_HO361 (hon 7 (by kernel_rfl)))
      refine off_ (wanted_off rfl rfl rfl (e38.trans (by first|rfl|(simp [*];done)))) ?_
      refine hK.out _ _ ⟨v357,v360,(by rw [ha.out];exact putSel_upk 12 hb_ rfl rfl rfl),Q_HO338,Q_BK335,Q_BK347,Q_BK355,Q_HB,Q_HO358,Q_HO361⟩
     refine steps_cons ?_ ?_
     ·rintro b a w' ⟨v357,v360,ha,Q_HO338,Q_BK335,Q_BK347,Q_BK355,Q_HB,Q_HO358,Q_HO361⟩ hb_ hon hoff
      refine ⟨_,rfl,fun K hK => ?_⟩
      have e38 : a.tmps[38]? = some (.bool (!false)):=by rw [ha];exact putSel_on (e:=(11,38,.bool (!false))) 9 rfl rfl (hon 11 (by kernel_rfl)) rfl
      replace ha:=Aside0.mk ha
      have HO338:=Aside0.mk Q_HO338
      have K335:=Aside0.mk Q_BK335
      have K347:=Aside0.mk Q_BK347
      have K355:=Aside0.mk Q_BK355
      have HB:=Aside0.mk Q_HB
      have HO358:=Aside0.mk (Q_HO358 (hon 5 (by kernel_rfl)))
      have HO361:=Aside0.mk (Q_HO361 (hon 7 (by kernel_rfl)))
      refine off_ (wanted_off rfl rfl rfl (e38.trans (by first|rfl|(simp [*];done)))) ?_
      refine hK.out _ _ ⟨v357,v360,(by rw [ha.out];exact putSel_upk 13 hb_ rfl rfl rfl),Q_HO338,Q_BK335,Q_BK347,Q_BK355,Q_HB,Q_HO358,Q_HO361⟩
     refine steps_cons ?_ ?_
     ·rintro b a w' ⟨v357,v360,ha,Q_HO338,Q_BK335,Q_BK347,Q_BK355,Q_HB,Q_HO358,Q_HO361⟩ hb_ hon hoff
      refine ⟨_,rfl,fun K hK => ?_⟩
      have e38 : a.tmps[38]? = some (.bool (!false)):=by rw [ha];exact putSel_on (e:=(11,38,.bool (!false))) 9 rfl rfl (hon 11 (by kernel_rfl)) rfl
      replace ha:=Aside0.mk ha
      have HO338:=Aside0.mk Q_HO338
      have K335:=Aside0.mk Q_BK335
      have K347:=Aside0.mk Q_BK347
      have K355:=Aside0.mk Q_BK355
      have HB:=Aside0.mk Q_HB
      have HO358:=Aside0.mk (Q_HO358 (hon 5 (by kernel_rfl)))
      have HO361:=Aside0.mk (Q_HO361 (hon 7 (by kernel_rfl)))
      refine off_ (wanted_off rfl rfl rfl (e38.trans (by first|rfl|(simp [*];done)))) ?_
      refine hK.out _ _ ⟨v357,v360,(by rw [ha.out];exact putSel_upk 14 hb_ rfl rfl rfl),Q_HO338,Q_BK335,Q_BK347,Q_BK355,Q_HB,Q_HO358,Q_HO361⟩
     refine steps_cons ?_ ?_
     ·rintro b a w' ⟨v357,v360,ha,Q_HO338,Q_BK335,Q_BK347,Q_BK355,Q_HB,Q_HO358,Q_HO361⟩ hb_ hon hoff
      refine ⟨_,rfl,fun K hK => ?_⟩
      have e38 : a.tmps[38]? = some (.bool (!false)):=by rw [ha];exact putSel_on (e:=(11,38,.bool (!false))) 9 rfl rfl (hon 11 (by kernel_rfl)) rfl
      replace ha:=Aside0.mk ha
      have HO338:=Aside0.mk Q_HO338
      have K335:=Aside0.mk Q_BK335
      have K347:=Aside0.mk Q_BK347
      have K355:=Aside0.mk Q_BK355
      have HB:=Aside0.mk Q_HB
      have HO358:=Aside0.mk (Q_HO358 (hon 5 (by kernel_rfl)))
      have HO361:=Aside0.mk (Q_HO361 (hon 7 (by kernel_rfl)))
      refine off_ (wanted_off rfl rfl rfl (e38.trans (by first|rfl|(simp [*];done)))) ?_
      refine hK.out _ _ ⟨v357,v360,(by rw [ha.out];exact putSel_upk 15 hb_ rfl rfl rfl),Q_HO338,Q_BK335,Q_BK347,Q_BK355,Q_HB,Q_HO358,Q_HO361⟩
     refine steps_cons ?_ ?_
     ·rintro b a w' ⟨v357,v360,ha,Q_HO338,Q_BK335,Q_BK347,Q_BK355,Q_HB,Q_HO358,Q_HO361⟩ hb_ hon hoff
      refine ⟨_,rfl,fun K hK => ?_⟩
      have e38 : a.tmps[38]? = some (.bool (!false)):=by rw [ha];exact putSel_on (e:=(11,38,.bool (!false))) 9 rfl rfl (hon 11 (by kernel_rfl)) rfl
      replace ha:=Aside0.mk ha
      have HO338:=Aside0.mk Q_HO338
      have K335:=Aside0.mk Q_BK335
      have K347:=Aside0.mk Q_BK347
      have K355:=Aside0.mk Q_BK355
      have HB:=Aside0.mk Q_HB
      have HO358:=Aside0.mk (Q_HO358 (hon 5 (by kernel_rfl)))
      have HO361:=Aside0.mk (Q_HO361 (hon 7 (by kernel_rfl)))
      refine off_ (wanted_off rfl rfl rfl (e38.trans (by first|rfl|(simp [*];done)))) ?_
      refine hK.out _ _ ⟨v357,v360,(by rw [ha.out];exact putSel_upk 16 hb_ rfl rfl rfl),Q_HO338,Q_BK335,Q_BK347,Q_BK355,Q_HB,Q_HO358,Q_HO361⟩
     refine steps_cons ?_ ?_
     ·rintro b a w' ⟨v357,v360,ha,Q_HO338,Q_BK335,Q_BK347,Q_BK355,Q_HB,Q_HO358,Q_HO361⟩ hb_ hon hoff
      refine ⟨_,rfl,fun K hK => ?_⟩
      have e38 : a.tmps[38]? = some (.bool (!false)):=by rw [ha];exact putSel_on (e:=(11,38,.bool (!false))) 9 rfl rfl (hon 11 (by kernel_rfl)) rfl
      replace ha:=Aside0.mk ha
      have HO338:=Aside0.mk Q_HO338
      have K335:=Aside0.mk Q_BK335
      have K347:=Aside0.mk Q_BK347
      have K355:=Aside0.mk Q_BK355
      have HB:=Aside0.mk Q_HB
      have HO358:=Aside0.mk (Q_HO358 (hon 5 (by kernel_rfl)))
      have HO361:=Aside0.mk (Q_HO361 (hon 7 (by kernel_rfl)))
      refine off_ (wanted_off rfl rfl rfl (e38.trans (by first|rfl|(simp [*];done)))) ?_
      refine hK.out _ _ ⟨v357,v360,(by rw [ha.out];exact putSel_upk 17 hb_ rfl rfl rfl),Q_HO338,Q_BK335,Q_BK347,Q_BK355,Q_HB,Q_HO358,Q_HO361⟩
     refine steps_cons ?_ ?_
     ·rintro b a w' ⟨v357,v360,ha,Q_HO338,Q_BK335,Q_BK347,Q_BK355,Q_HB,Q_HO358,Q_HO361⟩ hb_ hon hoff
      refine ⟨_,rfl,fun K hK => ?_⟩
      have e38 : a.tmps[38]? = some (.bool (!false)):=by rw [ha];exact putSel_on (e:=(11,38,.bool (!false))) 9 rfl rfl (hon 11 (by kernel_rfl)) rfl
      have e46 : a.tmps[46]? = some (undef):=by rw [ha];exact putSel_on (e:=(19,46,undef)) 17 rfl rfl (hon 19 (by kernel_rfl)) rfl
      replace ha:=Aside0.mk ha
      have HO338:=Aside0.mk Q_HO338
      have K335:=Aside0.mk Q_BK335
      have K347:=Aside0.mk Q_BK347
      have K355:=Aside0.mk Q_BK355
      have HB:=Aside0.mk Q_HB
      have HO358:=Aside0.mk (Q_HO358 (hon 5 (by kernel_rfl)))
      have HO361:=Aside0.mk (Q_HO361 (hon 7 (by kernel_rfl)))
      refine value_ (w1:=w') (v:=.bool true) (by rfl) rfl ?_ ?_
      ·go_simp
       (try simp only [i64_w])
       try rfl
      refine hK.out _ _ ⟨v357,v360,(by rw [ha.out];exact putSel_upk 18 hb_ rfl rfl rfl),Q_HO338,Q_BK335,Q_BK347,Q_BK355,Q_HB,Q_HO358,Q_HO361⟩
     exact steps_nil
    rintro b a w52 hall ⟨v357,v360,ha,Q_HO338,Q_BK335,Q_BK347,Q_BK355,Q_HB,Q_HO358,Q_HO361⟩
    clear K335 K347 K355 HB HO338
    have hb2_:=hall 2 (by kernel_rfl)
    have hb3_:=hall 3 (by kernel_rfl)
    have hb4_:=hall 4 (by kernel_rfl)
    have hb5_:=hall 5 (by kernel_rfl)
    have hb6_:=hall 6 (by kernel_rfl)
    have hb7_:=hall 7 (by kernel_rfl)
    have hb8_:=hall 8 (by kernel_rfl)
    have hb9_:=hall 9 (by kernel_rfl)
    have hb10_:=hall 10 (by kernel_rfl)
    have hb11_:=hall 11 (by kernel_rfl)
    have hb12_:=hall 12 (by kernel_rfl)
    have hb13_:=hall 13 (by kernel_rfl)
    have hb14_:=hall 14 (by kernel_rfl)
    have hb15_:=hall 15 (by kernel_rfl)
    have hb16_:=hall 16 (by kernel_rfl)
    have hb17_:=hall 17 (by kernel_rfl)
    have hb18_:=hall 18 (by kernel_rfl)
    have hb19_:=hall 19 (by kernel_rfl)
    have hb20_:=hall 20 (by kernel_rfl)
    subst ha
    simp only [putSel,hb2_,hb3_,hb4_,hb5_,hb6_,hb7_,hb8_,hb9_,hb10_,hb11_,hb12_,hb13_,hb14_,hb15_,hb16_,hb17_,hb18_,hb19_,hb20_,if_true,Act.put,xA,xB,xC]
    have HO338:=Aside0.mk Q_HO338
    clear Q_HO338
    have K335:=Aside0.mk Q_BK335
    clear Q_BK335
    have K347:=Aside0.mk Q_BK347
    clear Q_BK347
    have K355:=Aside0.mk Q_BK355
    clear Q_BK355
    have HB:=Aside0.mk Q_HB
    clear Q_HB
    have HO358:=Aside0.mk (Q_HO358 hb5_)
    clear Q_HO358
    have HO361:=Aside0.mk (Q_HO361 hb7_)
    clear Q_HO361
    clear hall hb2_ hb3_ hb4_ hb5_ hb6_ hb7_ hb8_ hb9_ hb10_ hb11_ hb12_ hb13_ hb14_ hb15_ hb16_ hb17_ hb18_ hb19_ hb20_
    try go_wp2
    go_meet
    case rel => exact ⟨_,(true),ze,H',⟨zo⟩,⟨z1 K335.1⟩,⟨z1 K347.1⟩,⟨z1 K355.1⟩,⟨zH HB⟩⟩
 case rest =>
  clear HC7
  try clear c1;try clear c2;try clear p2;try clear c3;try clear c4;try clear c5;try clear c6;try clear c21;try clear c26;try clear c27
  obtain ⟨kq,x47_6,rfl,HA,HJ6,K335,K347,K355,HB⟩:=hcut
  cases kq with
  | zero => exact absurd HA.out (by simp [beaconlaw17_TableFinds.j0])
  | succ kj6 =>
   have H:=HA.out
   clear HA
   simp only [beaconlaw17_TableFinds.j0] at H
   by_cases c53 : x47_6 = true
   ·subst c53
    have H1 : (some false) = some r:=by rw [if_pos rfl] at H;exact H
    clear H
    have H:=H1
    clear H1
    obtain rfl:=Option.some.inj H
    go_wp2
    go_ret
    exact ⟨by first|rfl|(simp [errW_none,errW_some] <;> rfl)|(simp [*,errW_none,errW_some] <;> rfl),zH HB⟩
   ·replace c53:=Bool.eq_false_iff.mpr c53
    subst c53
    have H1 : ((beaconlaw17_own.f kj6 l0_0 a0_1).bind fun bt369 => ((table_Marks.f kj6 bt369.1 bt369.2).bind fun t373 => ((beaconref17_Marks.f kj6 l0_0 a0_1).bind fun t376 => (if (t373.length : Int) = (t376.length : Int) then (beaconlaw17_TableFinds.l0 kj6 t373 t376 0) else (some false))))) = some r:=by rw [if_neg (show ¬ (false = true) by decide)] at H;exact H
    clear H
    have H:=H1
    clear H1
    replace H:=Option.bind_eq_some_iff.mp H
    obtain ⟨⟨t369,t372⟩,A540,H⟩:=H
    replace H : ((table_Marks.f kj6 t369 t372).bind fun t373 => ((beaconref17_Marks.f kj6 l0_0 a0_1).bind fun t376 => (if (t373.length : Int) = (t376.length : Int) then (beaconlaw17_TableFinds.l0 kj6 t373 t376 0) else (some false)))) = some r:=H
    have A54:=Aside0.mk A540
    clear A540
    replace H:=Option.bind_eq_some_iff.mp H
    obtain ⟨t373,A550,H⟩:=H
    replace H : ((beaconref17_Marks.f kj6 l0_0 a0_1).bind fun t376 => (if (t373.length : Int) = (t376.length : Int) then (beaconlaw17_TableFinds.l0 kj6 t373 t376 0) else (some false))) = some r:=H
    have A55:=Aside0.mk A550
    clear A550
    replace H:=Option.bind_eq_some_iff.mp H
    obtain ⟨t376,A560,H⟩:=H
    replace H : (if (t373.length : Int) = (t376.length : Int) then (beaconlaw17_TableFinds.l0 kj6 t373 t376 0) else (some false)) = some r:=H
    have A56:=Aside0.mk A560
    clear A560
    by_cases c57 : (t373.length : Int) = (t376.length : Int)
    ·rw [if_pos c57] at H
     have c57b0 : ((t373.length : Int) == (t376.length : Int)) = true:=beq_iff_eq.mpr c57
     have c57b1 : ((t373.length : Int) != (t376.length : Int)) = false:=bne_eq_false_iff_eq.mpr c57
     have c57b2 : (t373.length == t376.length) = true:=by first|simpa using c57|(simp at c57 ⊢;omega)
     clear c57
     have H':=Aside0.mk H
     clear H
     try go_wp2
     replace K335:=Aside0.mk (bD K335.1)
     replace K347:=Aside0.mk (bD K347.1)
     replace K355:=Aside0.mk (bD K355.1)
     replace HB:=Aside0.mk (bw1 HB.1)
     refine start_ (n:=7) (S:=fun w' => w'.cell? ⟨G335,0,none⟩ = some (.slice A0_0 l0_0.length c0_0) ∧ w'.cell? ⟨G335,1,none⟩ = some (.bool a0_1)) (ds:=[]) #[F,F,F,F,F,F,F] (by kernel_rfl) rfl rfl ⟨zk K335 0,zk K335 1⟩ (fun hHeld => ?_)
     generalize wc.drew = w58 at K335 K347 K355 HB hHeld ⊢
     refine tk 0 48 #[T,F,F,F,F,F,F] hHeld ?_
     refine tk 3 51 #[T,F,F,T,F,F,F] hHeld ?_
     refine one_ (i:=1) (N:=some 49) #[T,T,F,T,F,F,F] rfl rfl (by kernel_rfl) (by decide) (fun K hK => ?_)
     refine goes_ Try.func16 (by kernel_rfl) rfl #[.agg #[.slice A0_0 l0_0.length c0_0,.bool a0_1]] (by rfl) rfl rfl (by (try simp only [List.map_toArray,List.map_cons,List.map_nil]);first|done|rfl|(simp only [List.length_drop,List.length_take];rfl)) ?_
     with_reducible refine (beaconlaw17_own.calls kj6 _ _ l0_0 a0_1 t369 t372 _ ?side1 ?side2 A54.out).mono ?_
     (case side1 => exact zC (Kd.C_below HR0_0.out HB.1))
     (case side2 => exact HC0_0.out)
     rintro e w59 ⟨v370,rfl,ho0,hb⟩
     refine ⟨_,rfl,?_⟩
     have HO371:=Aside0.mk (Kd.R_lower (Kd.R_newB (Kd.R_newB ho0 (g:=G347) (z1 K347.1)) (g:=G355) (z1 K355.1)) (zW HB))
     replace K335:=zB K335 hb
     replace K347:=zB K347 hb
     replace K355:=zB K355 hb
     replace HB:=zS HB hb
     (try clear hb)
     (try clear hb2)
     (try clear hk)
     (try clear hi)
     (try clear ho0)
     obtain ⟨Ao60,co60,eo60⟩:=Kd.R_slice HO371.out
     (first|subst eo60|(injection eo60 with f1_ f2_ f3_;have f4_:=f1_.symm;have f5_:=f3_.symm;clear f1_ f2_ f3_;subst f4_;subst f5_))
     refine hK.out _ _ ⟨zk K335 0,zk K335 1⟩ (fun hHeld => ?_)
     clear hK K
     refine nz 49 ?_
     refine one_ (i:=2) (N:=some 50) #[T,T,T,T,F,F,F] rfl rfl (by kernel_rfl) (by decide) (fun K hK => ?_)
     refine goes_ Try.func22 (by kernel_rfl) rfl #[.agg #[.slice Ao60 t369.length co60,.bool t372]] (by rfl) rfl rfl (by (try simp only [List.map_toArray,List.map_cons,List.map_nil]);first|done|rfl|(simp only [List.length_drop,List.length_take];rfl)) ?_
     with_reducible refine (table_Marks.calls kj6 _ _ t369 t372 t373 _ ?side1 ?side2 A55.out).mono ?_
     (case side1 => exact zC ((Kd.R_reads' HO371.out).2.2))
     (case side2 => exact (Kd.R_reads' HO371.out).2.1)
     rintro e w61 ⟨v374,rfl,ho0,hb⟩
     refine ⟨_,rfl,?_⟩
     replace HO371:=Aside0.mk (Kd.R_below (zR HO371) hb)
     have HO375:=Aside0.mk (Kd.R_lower ho0 (zW HB))
     replace K335:=zB K335 hb
     replace K347:=zB K347 hb
     replace K355:=zB K355 hb
     replace HB:=zS HB hb
     (try clear hb)
     (try clear hb2)
     (try clear hk)
     (try clear hi)
     (try clear ho0)
     refine hK.out _ _ ⟨zk K335 0,zk K335 1⟩ (fun hHeld => ?_)
     clear hK K
     refine nz 50 ?_
     refine one_ (i:=4) (N:=some 52) #[T,T,T,T,T,F,F] rfl rfl (by kernel_rfl) (by decide) (fun K hK => ?_)
     refine goes_ Try.func27 (by kernel_rfl) rfl #[.agg #[.slice A0_0 l0_0.length c0_0,.bool a0_1]] (by rfl) rfl rfl (by (try simp only [List.map_toArray,List.map_cons,List.map_nil]);first|done|rfl|(simp only [List.length_drop,List.length_take];rfl)) ?_
     with_reducible refine (beaconref17_Marks.calls kj6 _ _ l0_0 a0_1 t376 _ ?side1 ?side2 A56.out).mono ?_
     (case side1 => exact zC (Kd.C_below HR0_0.out HB.1))
     (case side2 => exact HC0_0.out)
     rintro e w62 ⟨v377,rfl,ho0,hb⟩
     refine ⟨_,rfl,?_⟩
     replace HO371:=Aside0.mk (Kd.R_below (zR HO371) hb)
     have HO378:=Aside0.mk (Kd.R_lower (Kd.R_new' ho0 (Kd.R_lt (zR HO375))) (zW HB))
     replace HO375:=Aside0.mk (Kd.R_elder' (zR HO375) (Kd.R_base ho0) hb)
     replace K335:=zB K335 hb
     replace K347:=zB K347 hb
     replace K355:=zB K355 hb
     replace HB:=zS HB hb
     (try clear hb)
     (try clear hb2)
     (try clear hk)
     (try clear hi)
     (try clear ho0)
     refine hK.out _ _ ⟨zk K335 0,zk K335 1⟩ (fun hHeld => ?_)
     clear hK K
     refine nz 52 ?_
     refine pk 5 11 #[T,T,T,T,T,T,F] ?_
     refine pk 6 12 #[T,T,T,T,T,T,T] ?_
     refine done_ (by kernel_rfl) ?_
     obtain ⟨Ao63,co63,eo63⟩:=Kd.R_slice HO375.out
     subst eo63
     obtain ⟨Ao64,co64,eo64⟩:=Kd.R_slice HO378.out
     subst eo64
     try go_wp2
     go_loopg [13] kj6 (fun kq v13 w' => ∃ (x13_2 : Int),v13 = .int .i64 x13_2 ∧ Aside0 (beaconlaw17_TableFinds.l0 kq t373 t376 x13_2 = some r) ∧ Aside0 (kq ≤ kj6) ∧ Aside0 (Kd.R (Kd.int .i64) 3 w' w.heap.size (fun k_ => some k_ ≠ ((.slice Ao64 t376.length co64) : Value).ownBlock) (.slice Ao63 t373.length co63) t373) ∧ Aside0 (Kd.R (Kd.int .i64) 3 w' w.heap.size (fun k_ => some k_ ≠ ((.slice Ao63 t373.length co63) : Value).ownBlock) (.slice Ao64 t376.length co64) t376) ∧ Aside0 (w'.heap[G335]? = some (.cells #[(.slice A0_0 l0_0.length c0_0),.bool a0_1] 24 (0,0))) ∧ Aside0 (w'.heap[G347]? = some (.cells #[.int .i64 t340,.int .i64 t341,.float .f64 t342,.int .i64 t343,.float .f64 t344,.int .i64 t345] 39 (0,0))) ∧ Aside0 (w'.heap[G355]? = some (.cells #[.int .i64 t348,.int .i64 t349,.float .f64 t350,.int .i64 t351,.float .f64 t352,.int .i64 t353] 39 (0,0))) ∧ Aside0 (Below w.heap.size w w'))
     case atStart => exact ⟨(0),ze,H',⟨Nat.le_refl _⟩,⟨by (with_reducible repeat (first|apply Kd.R_alloc|apply Kd.R_drewN|apply Kd.R_drew));exact Kd.R_mono HO375.out (fun _ hk => hk.2)⟩,⟨by (with_reducible repeat (first|apply Kd.R_alloc|apply Kd.R_drewN|apply Kd.R_drew));exact Kd.R_mono HO378.out (fun _ hk => hk.2)⟩,⟨z1 K335.1⟩,⟨z1 K347.1⟩,⟨z1 K355.1⟩,⟨zH HB⟩⟩
     case round =>
      clear H'
      try clear c1;try clear c2;try clear p2;try clear c3;try clear c4;try clear c5;try clear c6;try clear c16;try clear c21;try clear c22;try clear c26;try clear c27;try clear c53;try clear c57;try clear c57b0;try clear c57b1;try clear c57b2;try clear p2
      obtain ⟨x13_2,rfl,HA,HK2,HO_11,HO_12,K335,K347,K355,HB⟩:=hrel
      cases gk with
      | zero => exact absurd HA.out (by simp [beaconlaw17_TableFinds.l0])
      | succ k2 =>
       have H:=HA.out
       clear HA
       simp only [beaconlaw17_TableFinds.l0] at H
       by_cases c65 : x13_2 < (t373.length : Int)
       ·rw [if_pos c65] at H
        have c65b0 : decide (x13_2 < (t373.length : Int)) = true:=decide_eq_true c65
        clear c65
        by_cases c66 : 0 ≤ x13_2
        ·rw [if_pos c66] at H
         have c66b0 : decide (0 ≤ x13_2) = true:=decide_eq_true c66
         clear c66
         by_cases c67 : x13_2 < (t376.length : Int)
         ·rw [if_pos c67] at H
          have c67b0 : decide (x13_2 < (t376.length : Int)) = true:=decide_eq_true c67
          clear c67
          by_cases c68 : (rd t373 x13_2) = (rd t376 x13_2)
          ·rw [if_pos c68] at H
           have c68b0 : ((rd t373 x13_2) == (rd t376 x13_2)) = true:=beq_iff_eq.mpr c68
           have c68b1 : ((rd t373 x13_2) != (rd t376 x13_2)) = false:=bne_eq_false_iff_eq.mpr c68
           clear c68
           have H':=Aside0.mk H
           clear H
           try go_wp2
           replace HO_11:=Aside0.mk (Kd.R_drew HO_11.out)
           replace HO_12:=Aside0.mk (Kd.R_drew HO_12.out)
           replace K335:=Aside0.mk (bD K335.1)
           replace K347:=Aside0.mk (bD K347.1)
           replace K355:=Aside0.mk (bD K355.1)
           replace HB:=Aside0.mk (bw1 HB.1)
           have p379 : 0 ≤ (x13_2 : Int):=zd
           have q379 : x13_2 < (t373.length : Int):=zd
           obtain ⟨ad379,e379,hx379_0⟩:=Kd.at_int (Kd.R_reads' HO_11.out).2.2 x13_2 p379 q379
           cases e379
           replace p379:=eq_true p379
           replace q379:=eq_true q379
           have p380 : 0 ≤ (x13_2 : Int):=zd
           have q380 : x13_2 < (t376.length : Int):=zd
           obtain ⟨ad380,e380,hx380_0⟩:=Kd.at_int (Kd.R_reads' HO_12.out).2.2 x13_2 p380 q380
           cases e380
           replace p380:=eq_true p380
           replace q380:=eq_true q380
           refine start_ (n:=9) (S:=fun w' => w'.cell? (ad379.add (x13_2).toNat) = some (.int .i64 (rd t373 x13_2)) ∧ w'.cell? (ad380.add (x13_2).toNat) = some (.int .i64 (rd t376 x13_2))) (ds:=[]) #[F,F,F,F,F,F,F,F,F] (by kernel_rfl) rfl rfl ⟨hx379_0,hx380_0⟩ (fun hHeld => ?_);refine with_tabW beaconlaw17_TableFinds.tab11 beaconlaw17_TableFinds.bits11 (fun HT_ HW_ => ?_)
           generalize wr.drew = w69 at HO_11 HO_12 K335 K347 K355 HB hx379_0 hx380_0 hHeld ⊢
           refine pz 0 64 #[T,F,F,F,F,F,F,F,F] HT_.1 ?_
           refine pz 1 65 #[T,T,F,F,F,F,F,F,F] HT_.1 ?_
           refine pz 2 66 #[T,T,T,F,F,F,F,F,F] HT_.1 ?_
           refine pz 4 68 #[T,T,T,F,T,F,F,F,F] HT_.1 ?_
           refine pz 5 69 #[T,T,T,F,T,T,F,F,F] HT_.1 ?_
           refine pz 6 70 #[T,T,T,F,T,T,T,F,F] HT_.1 ?_
           refine tz 3 67 #[T,T,T,T,T,T,T,F,F] HT_.1 HW_.1 hHeld ?_
           refine tz 7 71 #[T,T,T,T,T,T,T,T,F] HT_.1 HW_.1 hHeld ?_
           refine pz 8 72 #[T,T,T,T,T,T,T,T,T] HT_.1 ?_
           refine done_ (done_of HT_.out (by kernel_rfl)) ?_
           try go_wp2
           go_roundg k2
           case measure => have:=HJ6.out;have:=HK2.out;omega
           case rel => exact ⟨(wrap64 (x13_2 + 1)),ze,H',⟨by have:=HJ6.out;have:=HK2.out;omega⟩,⟨zR HO_11⟩,⟨zR HO_12⟩,⟨z1 K335.1⟩,⟨z1 K347.1⟩,⟨z1 K355.1⟩,⟨zH HB⟩⟩
          ·rw [if_neg c68] at H
           have c68b0 : ((rd t373 x13_2) == (rd t376 x13_2)) = false:=beq_eq_false_iff_ne.mpr c68
           have c68b1 : ((rd t373 x13_2) != (rd t376 x13_2)) = true:=bne_iff_ne.mpr c68
           obtain rfl:=Option.some.inj H
           try go_wp2
           replace HO_11:=Aside0.mk (Kd.R_drew HO_11.out)
           replace HO_12:=Aside0.mk (Kd.R_drew HO_12.out)
           replace K335:=Aside0.mk (bD K335.1)
           replace K347:=Aside0.mk (bD K347.1)
           replace K355:=Aside0.mk (bD K355.1)
           replace HB:=Aside0.mk (bw1 HB.1)
           have p379 : 0 ≤ (x13_2 : Int):=zd
           have q379 : x13_2 < (t373.length : Int):=zd
           obtain ⟨ad379,e379,hx379_0⟩:=Kd.at_int (Kd.R_reads' HO_11.out).2.2 x13_2 p379 q379
           cases e379
           replace p379:=eq_true p379
           replace q379:=eq_true q379
           have p380 : 0 ≤ (x13_2 : Int):=zd
           have q380 : x13_2 < (t376.length : Int):=zd
           obtain ⟨ad380,e380,hx380_0⟩:=Kd.at_int (Kd.R_reads' HO_12.out).2.2 x13_2 p380 q380
           cases e380
           replace p380:=eq_true p380
           replace q380:=eq_true q380
           refine start_ (n:=9) (S:=fun w' => w'.cell? (ad379.add (x13_2).toNat) = some (.int .i64 (rd t373 x13_2)) ∧ w'.cell? (ad380.add (x13_2).toNat) = some (.int .i64 (rd t376 x13_2))) (ds:=[]) #[F,F,F,F,F,F,F,F,F] (by kernel_rfl) rfl rfl ⟨hx379_0,hx380_0⟩ (fun hHeld => ?_);refine with_tabW beaconlaw17_TableFinds.tab11 beaconlaw17_TableFinds.bits11 (fun HT_ HW_ => ?_)
           generalize wr.drew = w70 at HO_11 HO_12 K335 K347 K355 HB hx379_0 hx380_0 hHeld ⊢
           refine pz 0 64 #[T,F,F,F,F,F,F,F,F] HT_.1 ?_
           refine pz 1 65 #[T,T,F,F,F,F,F,F,F] HT_.1 ?_
           refine pz 2 66 #[T,T,T,F,F,F,F,F,F] HT_.1 ?_
           refine pz 4 68 #[T,T,T,F,T,F,F,F,F] HT_.1 ?_
           refine pz 5 69 #[T,T,T,F,T,T,F,F,F] HT_.1 ?_
           refine pz 6 70 #[T,T,T,F,T,T,T,F,F] HT_.1 ?_
           refine tz 3 67 #[T,T,T,T,T,T,T,F,F] HT_.1 HW_.1 hHeld ?_
           refine tz 7 71 #[T,T,T,T,T,T,T,T,F] HT_.1 HW_.1 hHeld ?_
           refine pz 8 72 #[T,T,T,T,T,T,T,T,T] HT_.1 ?_
           refine done_ (done_of HT_.out (by kernel_rfl)) ?_
           try go_wp2
           go_ret
           exact ⟨by first|rfl|(simp [errW_none,errW_some] <;> rfl)|(simp [*,errW_none,errW_some] <;> rfl),zH HB⟩
         ·rw [if_neg c67] at H
          exact absurd H (by simp)
        ·rw [if_neg c66] at H
         exact absurd H (by simp)
       ·rw [if_neg c65] at H
        have c65b0 : decide (x13_2 < (t373.length : Int)) = false:=decide_eq_false c65
        clear c65
        replace H:=Option.bind_eq_some_iff.mp H
        obtain ⟨t381,A710,H⟩:=H
        replace H : (some t381) = some r:=H
        have A71:=Aside0.mk A710
        clear A710
        obtain rfl:=Option.some.inj H
        go_wp2_with (first|((with_reducible refine gate_callee (f:=13) rfl ?_);refine zg (some 73) Try.func13 #[] ?_;(with_reducible refine (beaconlaw17_awake.calls k2  t381 _ A71.out).mono ?_);rintro e w72 ⟨rfl,hb⟩;refine ⟨_,rfl,?_⟩;replace HO_11:=Aside0.mk (Kd.R_below (zR HO_11) hb);replace HO_12:=Aside0.mk (Kd.R_below (zR HO_12) hb);replace K335:=zB K335 hb;replace K347:=zB K347 hb;replace K355:=zB K355 hb;replace HB:=zS HB hb;(try clear hb)))
        go_ret
        exact ⟨by first|rfl|(simp [errW_none,errW_some] <;> rfl)|(simp [*,errW_none,errW_some] <;> rfl),zH HB⟩
    ·rw [if_neg c57] at H
     have c57b0 : ((t373.length : Int) == (t376.length : Int)) = false:=beq_eq_false_iff_ne.mpr c57
     have c57b1 : ((t373.length : Int) != (t376.length : Int)) = true:=bne_iff_ne.mpr c57
     have c57b2 : (t373.length == t376.length) = false:=by first|simpa using c57|(simp at c57 ⊢;omega)
     obtain rfl:=Option.some.inj H
     try go_wp2
     replace K335:=Aside0.mk (bD K335.1)
     replace K347:=Aside0.mk (bD K347.1)
     replace K355:=Aside0.mk (bD K355.1)
     replace HB:=Aside0.mk (bw1 HB.1)
     refine start_ (n:=7) (S:=fun w' => w'.cell? ⟨G335,0,none⟩ = some (.slice A0_0 l0_0.length c0_0) ∧ w'.cell? ⟨G335,1,none⟩ = some (.bool a0_1)) (ds:=[]) #[F,F,F,F,F,F,F] (by kernel_rfl) rfl rfl ⟨zk K335 0,zk K335 1⟩ (fun hHeld => ?_)
     generalize wc.drew = w73 at K335 K347 K355 HB hHeld ⊢
     refine tk 0 48 #[T,F,F,F,F,F,F] hHeld ?_
     refine tk 3 51 #[T,F,F,T,F,F,F] hHeld ?_
     refine one_ (i:=1) (N:=some 49) #[T,T,F,T,F,F,F] rfl rfl (by kernel_rfl) (by decide) (fun K hK => ?_)
     refine goes_ Try.func16 (by kernel_rfl) rfl #[.agg #[.slice A0_0 l0_0.length c0_0,.bool a0_1]] (by rfl) rfl rfl (by (try simp only [List.map_toArray,List.map_cons,List.map_nil]);first|done|rfl|(simp only [List.length_drop,List.length_take];rfl)) ?_
     with_reducible refine (beaconlaw17_own.calls kj6 _ _ l0_0 a0_1 t369 t372 _ ?side1 ?side2 A54.out).mono ?_
     (case side1 => exact zC (Kd.C_below HR0_0.out HB.1))
     (case side2 => exact HC0_0.out)
     rintro e w74 ⟨v370,rfl,ho0,hb⟩
     refine ⟨_,rfl,?_⟩
     have HO371:=Aside0.mk (Kd.R_lower (Kd.R_newB (Kd.R_newB ho0 (g:=G347) (z1 K347.1)) (g:=G355) (z1 K355.1)) (zW HB))
     replace K335:=zB K335 hb
     replace K347:=zB K347 hb
     replace K355:=zB K355 hb
     replace HB:=zS HB hb
     (try clear hb)
     (try clear hb2)
     (try clear hk)
     (try clear hi)
     (try clear ho0)
     obtain ⟨Ao75,co75,eo75⟩:=Kd.R_slice HO371.out
     (first|subst eo75|(injection eo75 with f1_ f2_ f3_;have f4_:=f1_.symm;have f5_:=f3_.symm;clear f1_ f2_ f3_;subst f4_;subst f5_))
     refine hK.out _ _ ⟨zk K335 0,zk K335 1⟩ (fun hHeld => ?_)
     clear hK K
     refine nz 49 ?_
     refine one_ (i:=2) (N:=some 50) #[T,T,T,T,F,F,F] rfl rfl (by kernel_rfl) (by decide) (fun K hK => ?_)
     refine goes_ Try.func22 (by kernel_rfl) rfl #[.agg #[.slice Ao75 t369.length co75,.bool t372]] (by rfl) rfl rfl (by (try simp only [List.map_toArray,List.map_cons,List.map_nil]);first|done|rfl|(simp only [List.length_drop,List.length_take];rfl)) ?_
     with_reducible refine (table_Marks.calls kj6 _ _ t369 t372 t373 _ ?side1 ?side2 A55.out).mono ?_
     (case side1 => exact zC ((Kd.R_reads' HO371.out).2.2))
     (case side2 => exact (Kd.R_reads' HO371.out).2.1)
     rintro e w76 ⟨v374,rfl,ho0,hb⟩
     refine ⟨_,rfl,?_⟩
     replace HO371:=Aside0.mk (Kd.R_below (zR HO371) hb)
     have HO375:=Aside0.mk (Kd.R_lower ho0 (zW HB))
     replace K335:=zB K335 hb
     replace K347:=zB K347 hb
     replace K355:=zB K355 hb
     replace HB:=zS HB hb
     (try clear hb)
     (try clear hb2)
     (try clear hk)
     (try clear hi)
     (try clear ho0)
     refine hK.out _ _ ⟨zk K335 0,zk K335 1⟩ (fun hHeld => ?_)
     clear hK K
     refine nz 50 ?_
     refine one_ (i:=4) (N:=some 52) #[T,T,T,T,T,F,F] rfl rfl (by kernel_rfl) (by decide) (fun K hK => ?_)
     refine goes_ Try.func27 (by kernel_rfl) rfl #[.agg #[.slice A0_0 l0_0.length c0_0,.bool a0_1]] (by rfl) rfl rfl (by (try simp only [List.map_toArray,List.map_cons,List.map_nil]);first|done|rfl|(simp only [List.length_drop,List.length_take];rfl)) ?_
     with_reducible refine (beaconref17_Marks.calls kj6 _ _ l0_0 a0_1 t376 _ ?side1 ?side2 A56.out).mono ?_
     (case side1 => exact zC (Kd.C_below HR0_0.out HB.1))
     (case side2 => exact HC0_0.out)
     rintro e w77 ⟨v377,rfl,ho0,hb⟩
     refine ⟨_,rfl,?_⟩
     replace HO371:=Aside0.mk (Kd.R_below (zR HO371) hb)
     have HO378:=Aside0.mk (Kd.R_lower (Kd.R_new' ho0 (Kd.R_lt (zR HO375))) (zW HB))
     replace HO375:=Aside0.mk (Kd.R_elder' (zR HO375) (Kd.R_base ho0) hb)
     replace K335:=zB K335 hb
     replace K347:=zB K347 hb
     replace K355:=zB K355 hb
     replace HB:=zS HB hb
     (try clear hb)
     (try clear hb2)
     (try clear hk)
     (try clear hi)
     (try clear ho0)
     refine hK.out _ _ ⟨zk K335 0,zk K335 1⟩ (fun hHeld => ?_)
     clear hK K
     refine nz 52 ?_
     refine pk 5 11 #[T,T,T,T,T,T,F] ?_
     refine pk 6 12 #[T,T,T,T,T,T,T] ?_
     refine done_ (by kernel_rfl) ?_
     obtain ⟨Ao78,co78,eo78⟩:=Kd.R_slice HO375.out
     subst eo78
     obtain ⟨Ao79,co79,eo79⟩:=Kd.R_slice HO378.out
     subst eo79
     try go_wp2
     go_ret
     exact ⟨by first|rfl|(simp [errW_none,errW_some] <;> rfl)|(simp [*,errW_none,errW_some] <;> rfl),zH HB⟩

end Go.Proofs.Ytgmjlhpigfaicaa.XA
