/- Go functions of this seat as Lean functions, with proofs that the calls come to them. (Written by xprint.py, a program of this session, over the kit's print.) -/
import Derived.Test.YtgmjlhpigfaicaaXFx0
import Derived.Test.YtgmjlhpigfaicaaXFx11
namespace Go.Proofs.Ytgmjlhpigfaicaa.XF
open Go.RowKit Go.Proofs.YtgmjlhpigfaicaaW.PrintWords Go.Proofs.YtgmjlhpigfaicaaW.PrintLast Go.Proofs.YtgmjlhpigfaicaaW.PrintMore
attribute [local go_sem] max2_int min2_int max_two min_two max_three min_three max_four min_four   -- for this text's walks alone
set_option linter.unusedVariables false
set_option linter.unusedSimpArgs false
open List renaming setIfInBounds_toArray → xA, set_cons_zero → xB, set_cons_succ → xC
open Go.Proofs.YtgmjlhpigfaicaaW.PrintWords renaming blk_drewN → bN, blk_drew → bD, blk_alloc → bA, below_set → bS, blk_frozen → bF, blk_cell → bC, cell_far → cF, blk_far → bZ, blk_below → bB, pw_below_drewN → bwN, below_drew1 → bw1, below_alloc → bwA
open Go.Proofs.YtgmjlhpigfaicaaW.PrintZ
open Bool renaming true → T,false → F

/-! ### beaconref17_may: function 43 -/
def beaconref17_may.l0 : Nat → List (S39) → Int → Option (Bool)
 | 0, _, _ => none
 | k + 1, x0, x3 => if x3 < (x0.length : Int) then (if 0 ≤ x3 then (if ((rd_T39 x0 x3).f1) < 1 then (some false) else (if ((rd_T39 x0 x3).f1) > 3 then (some false) else ((beaconref02_CheckId.f ((rd_T39 x0 x3).f0)).bind fun t232 => (if t232 = 0 then (if x3 > 0 then (if 0 ≤ (wrap64 (x3 - 1)) then (if (wrap64 (x3 - 1)) < (x0.length : Int) then ((beaconref17_before.f ((rd_T39 x0 (wrap64 (x3 - 1))).f0) ((rd_T39 x0 (wrap64 (x3 - 1))).f1) ((rd_T39 x0 (wrap64 (x3 - 1))).f2) ((rd_T39 x0 (wrap64 (x3 - 1))).f3) ((rd_T39 x0 (wrap64 (x3 - 1))).f4) ((rd_T39 x0 (wrap64 (x3 - 1))).f5) ((rd_T39 x0 x3).f0) ((rd_T39 x0 x3).f1) ((rd_T39 x0 x3).f2) ((rd_T39 x0 x3).f3) ((rd_T39 x0 x3).f4) ((rd_T39 x0 x3).f5)).bind fun t235 => (if t235 = true then (beaconref17_may.l0 k x0 (wrap64 (x3 + 1))) else (some false))) else (none)) else (none)) else (beaconref17_may.l0 k x0 (wrap64 (x3 + 1)))) else (some false))))) else (none)) else (some true)
def beaconref17_may.f (k : Nat) (l0 : List (S39)) : Option (Bool) := beaconref17_may.l0 k l0 0
theorem beaconref17_may.mono_l : ∀ k, (∀ y0 y1, LeO (beaconref17_may.l0 k y0 y1) (beaconref17_may.l0 (k + 1) y0 y1))
 | 0 => fun _ _ r h => by simp [beaconref17_may.l0] at h
 | k + 1 => by
  have ih0:=beaconref17_may.mono_l k
  ·intro y0 y1
   unfold beaconref17_may.l0
   repeat' first
   | (with_reducible exact ih0 _ _)
   | (with_reducible exact LeO.refl _)
   | (with_reducible exact LeO.none _)
   | (with_reducible refine LeO.ite ?_ ?_)
   | (with_reducible refine LeO.bind ?_ (fun _ => ?_))
   | exact ih0 _ _
   | exact LeO.none _
   | refine LeO.ite ?_ ?_
   | refine LeO.bind ?_ (fun _ => ?_)
theorem beaconref17_may.mono : ∀ a0 k, LeO (beaconref17_may.f k a0) (beaconref17_may.f (k + 1) a0) := by
 intro a0 k
 have ih0:=beaconref17_may.mono_l k
 unfold beaconref17_may.f
 repeat' first
   | (with_reducible exact ih0 _ _)
   | (with_reducible exact LeO.refl _)
   | (with_reducible exact LeO.none _)
   | (with_reducible refine LeO.ite ?_ ?_)
   | (with_reducible refine LeO.bind ?_ (fun _ => ?_))
   | exact ih0 _ _
   | exact LeO.none _
   | refine LeO.ite ?_ ?_
   | refine LeO.bind ?_ (fun _ => ?_)
def beaconref17_may.T4 : Bool × List (List Nat × List Nat) := (true, [([], []), ([], []), ([0, 1], [0, 1]), ([2], [2]), ([3], [3]), ([4], [4]), ([5], [5]), ([6], [6]), ([6], [6]), ([7, 8, 6], [6, 7, 8]), ([9, 6], [6, 9]), ([10, 6], [6, 10]), ([11, 6], [6, 11]), ([6, 12], [6, 12]), ([13, 6], [13]), ([14], [14]), ([14], [14]), ([15, 16, 14], [14, 15, 16]), ([17, 14], [14, 17]), ([18, 14], [14, 18]), ([19, 14, 14], [14, 19]), ([20, 14], [14, 20]), ([14, 21], [14, 21]), ([22, 20], [22]), ([23], [23]), ([24, 23], [23, 24]), ([25, 23, 23], [23, 25]), ([26], [26]), ([26], [26]), ([28, 26], [26, 28]), ([27, 29, 26], [26, 27, 29]), ([30, 26], [26, 30]), ([26], [26]), ([26], [26]), ([32, 33, 26], [26, 32, 33]), ([34, 26], [26, 34]), ([31, 35, 26, 26], [26, 31, 35]), ([36, 26], [26, 36]), ([26, 37, 23], [23, 26, 37]), ([23, 38], [23, 38])])
def beaconref17_may.B4 : List Nat := [0, 0, 3, 7, 15, 31, 63, 127, 127, 511, 1023, 2047, 4095, 8191, 16383, 32767, 32767, 131071, 262143, 524287, 1048575, 2097151, 4194303, 8388607, 16777215, 33554431, 67108863, 134217727, 134217727, 402653183, 1073741823, 2147483647, 134217727, 134217727, 13019119615, 30198988799, 68719476735, 137438953471, 274877906943, 549755813887]
theorem beaconref17_may.tab4 : rtab .any (opsOf Try.f43 4) = beaconref17_may.T4 := by kernel_rfl
theorem beaconref17_may.bits4 : waitsOk beaconref17_may.T4.2 beaconref17_may.B4 = true := by kernel_rfl
set_option maxHeartbeats 8000000 in
set_option maxRecDepth 100000 in
theorem beaconref17_may.calls (k : Nat) (A0 : Option Addr) (c0 : Nat) (l0 : List (S39)) (r : Bool) (w : World) (hr0 : Kd.C k39 w A0 l0.length l0) (hc0 : l0.length ≤ c0) (h : beaconref17_may.f k l0 = some r) :
  Calls Try.prog 43 #[.slice A0 l0.length c0] w fun e w' => e = .returned (.bool r) ∧ Below w.heap.size w w':=by
 have hu39:=Try.underlying39
 have HR0:=Aside0.mk hr0
 have HC0:=Aside0.mk hc0
 clear hr0 hc0
 have HB:=Aside0.mk (Below.refl w.heap.size w)
 have H : (beaconref17_may.l0 k l0 0) = some r:=h
 clear h
 have H':=Aside0.mk H
 clear H
 go_enter Try.func43,Try.ntmps43
 go_wp2
 go_loopg [3] k (fun kq v3 w' => ∃ (x3_1 : Int),v3 = .int .i64 x3_1 ∧ Aside0 (beaconref17_may.l0 kq l0 x3_1 = some r) ∧ Aside0 (kq ≤ k) ∧ Aside0 (Below w.heap.size w w'))
 case atStart => exact ⟨(0),ze,H',⟨Nat.le_refl _⟩,⟨zH HB⟩⟩
 case round =>
  clear H'
  obtain ⟨x3_1,rfl,HA,HK1,HB⟩:=hrel
  cases gk with
  | zero => exact absurd HA.out (by simp [beaconref17_may.l0])
  | succ k1 =>
   have H:=HA.out
   clear HA
   simp only [beaconref17_may.l0] at H
   by_cases c2 : x3_1 < (l0.length : Int)
   ·rw [if_pos c2] at H
    have c2b0 : decide (x3_1 < (l0.length : Int)) = true:=decide_eq_true c2
    clear c2
    by_cases c3 : 0 ≤ x3_1
    ·rw [if_pos c3] at H
     have c3b0 : decide (0 ≤ x3_1) = true:=decide_eq_true c3
     clear c3
     by_cases c4 : ((rd_T39 l0 x3_1).f1) < 1
     ·rw [if_pos c4] at H
      have c4b0 : decide (((rd_T39 l0 x3_1).f1) < 1) = true:=decide_eq_true c4
      clear c4
      obtain rfl:=Option.some.inj H
      try go_wp2
      replace HB:=Aside0.mk (bw1 HB.1)
      have p229 : 0 ≤ (x3_1 : Int):=zd
      have q229 : x3_1 < (l0.length : Int):=zd
      obtain ⟨ad229,e229,hx229_0,hx229_1,hx229_2,hx229_3,hx229_4,hx229_5⟩:=at_T39 HR0.out x3_1 p229 q229
      have hw229_5:=hx229_5
      have hw229_4:=hx229_4
      have hw229_3:=hx229_3
      have hw229_2:=hx229_2
      have hw229_1:=hx229_1
      have hw229_0:=hx229_0
      cases e229
      replace hx229_0:=zh HB hx229_0
      replace hx229_1:=zh HB hx229_1
      replace hx229_2:=zh HB hx229_2
      replace hx229_3:=zh HB hx229_3
      replace hx229_4:=zh HB hx229_4
      replace hx229_5:=zh HB hx229_5
      replace p229:=eq_true p229
      replace q229:=eq_true q229
      refine start_ (n:=40) (S:=fun w' => w'.cell? (ad229.add ((x3_1).toNat * 6)) = some (.int .i64 ((rd_T39 l0 x3_1).f0)) ∧ w'.cell? ⟨(ad229.add ((x3_1).toNat * 6)).block,(ad229.add ((x3_1).toNat * 6)).off + 1,none⟩ = some (.int .i64 ((rd_T39 l0 x3_1).f1)) ∧ w'.cell? ⟨(ad229.add ((x3_1).toNat * 6)).block,(ad229.add ((x3_1).toNat * 6)).off + 2,none⟩ = some (.float .f64 ((rd_T39 l0 x3_1).f2)) ∧ w'.cell? ⟨(ad229.add ((x3_1).toNat * 6)).block,(ad229.add ((x3_1).toNat * 6)).off + 3,none⟩ = some (.int .i64 ((rd_T39 l0 x3_1).f3)) ∧ w'.cell? ⟨(ad229.add ((x3_1).toNat * 6)).block,(ad229.add ((x3_1).toNat * 6)).off + 4,none⟩ = some (.float .f64 ((rd_T39 l0 x3_1).f4)) ∧ w'.cell? ⟨(ad229.add ((x3_1).toNat * 6)).block,(ad229.add ((x3_1).toNat * 6)).off + 5,none⟩ = some (.int .i64 ((rd_T39 l0 x3_1).f5))) (ds:=[]) #[F,F,F,F,F,F,F,F,F,F,F,F,F,F,F,F,F,F,F,F,F,F,F,F,F,F,F,F,F,F,F,F,F,F,F,F,F,F,F,F] (by kernel_rfl) rfl rfl ⟨(zh HB hw229_0),(zh HB hw229_1),(zh HB hw229_2),(zh HB hw229_3),(zh HB hw229_4),(zh HB hw229_5)⟩ (fun hHeld => ?_);refine with_tabW beaconref17_may.tab4 beaconref17_may.bits4 (fun HT_ HW_ => ?_)
      generalize wr.drew = w5 at HB hx229_0 hx229_1 hx229_2 hx229_3 hx229_4 hx229_5 hHeld ⊢
      refine pz 0 10 #[T,F,F,F,F,F,F,F,F,F,F,F,F,F,F,F,F,F,F,F,F,F,F,F,F,F,F,F,F,F,F,F,F,F,F,F,F,F,F,F] HT_.1 ?_
      refine pz 1 11 #[T,T,F,F,F,F,F,F,F,F,F,F,F,F,F,F,F,F,F,F,F,F,F,F,F,F,F,F,F,F,F,F,F,F,F,F,F,F,F,F] HT_.1 ?_
      refine pz 2 12 #[T,T,T,F,F,F,F,F,F,F,F,F,F,F,F,F,F,F,F,F,F,F,F,F,F,F,F,F,F,F,F,F,F,F,F,F,F,F,F,F] HT_.1 ?_
      refine pz 3 13 #[T,T,T,T,F,F,F,F,F,F,F,F,F,F,F,F,F,F,F,F,F,F,F,F,F,F,F,F,F,F,F,F,F,F,F,F,F,F,F,F] HT_.1 ?_
      refine tz 4 14 #[T,T,T,T,T,F,F,F,F,F,F,F,F,F,F,F,F,F,F,F,F,F,F,F,F,F,F,F,F,F,F,F,F,F,F,F,F,F,F,F] HT_.1 HW_.1 hHeld ?_
      refine pz 5 15 #[T,T,T,T,T,T,F,F,F,F,F,F,F,F,F,F,F,F,F,F,F,F,F,F,F,F,F,F,F,F,F,F,F,F,F,F,F,F,F,F] HT_.1 ?_
      refine pz 6 16 #[T,T,T,T,T,T,T,F,F,F,F,F,F,F,F,F,F,F,F,F,F,F,F,F,F,F,F,F,F,F,F,F,F,F,F,F,F,F,F,F] HT_.1 ?_
      refine pu 7 17 #[T,T,T,T,T,T,T,T,F,F,F,F,F,F,F,F,F,F,F,F,F,F,F,F,F,F,F,F,F,F,F,F,F,F,F,F,F,F,F,F] HT_.1 ?_
      refine pu 8 18 #[T,T,T,T,T,T,T,T,T,F,F,F,F,F,F,F,F,F,F,F,F,F,F,F,F,F,F,F,F,F,F,F,F,F,F,F,F,F,F,F] HT_.1 ?_
      refine pu 9 19 #[T,T,T,T,T,T,T,T,T,T,F,F,F,F,F,F,F,F,F,F,F,F,F,F,F,F,F,F,F,F,F,F,F,F,F,F,F,F,F,F] HT_.1 ?_
      refine pu 10 20 #[T,T,T,T,T,T,T,T,T,T,T,F,F,F,F,F,F,F,F,F,F,F,F,F,F,F,F,F,F,F,F,F,F,F,F,F,F,F,F,F] HT_.1 ?_
      refine pu 11 21 #[T,T,T,T,T,T,T,T,T,T,T,T,F,F,F,F,F,F,F,F,F,F,F,F,F,F,F,F,F,F,F,F,F,F,F,F,F,F,F,F] HT_.1 ?_
      refine pu 12 22 #[T,T,T,T,T,T,T,T,T,T,T,T,T,F,F,F,F,F,F,F,F,F,F,F,F,F,F,F,F,F,F,F,F,F,F,F,F,F,F,F] HT_.1 ?_
      refine pz 13 23 #[T,T,T,T,T,T,T,T,T,T,T,T,T,T,F,F,F,F,F,F,F,F,F,F,F,F,F,F,F,F,F,F,F,F,F,F,F,F,F,F] HT_.1 ?_
      refine pz 14 24 #[T,T,T,T,T,T,T,T,T,T,T,T,T,T,T,F,F,F,F,F,F,F,F,F,F,F,F,F,F,F,F,F,F,F,F,F,F,F,F,F] HT_.1 ?_
      refine pu 15 25 #[T,T,T,T,T,T,T,T,T,T,T,T,T,T,T,T,F,F,F,F,F,F,F,F,F,F,F,F,F,F,F,F,F,F,F,F,F,F,F,F] HT_.1 ?_
      refine pu 16 26 #[T,T,T,T,T,T,T,T,T,T,T,T,T,T,T,T,T,F,F,F,F,F,F,F,F,F,F,F,F,F,F,F,F,F,F,F,F,F,F,F] HT_.1 ?_
      refine pu 17 27 #[T,T,T,T,T,T,T,T,T,T,T,T,T,T,T,T,T,T,F,F,F,F,F,F,F,F,F,F,F,F,F,F,F,F,F,F,F,F,F,F] HT_.1 ?_
      refine pu 18 28 #[T,T,T,T,T,T,T,T,T,T,T,T,T,T,T,T,T,T,T,F,F,F,F,F,F,F,F,F,F,F,F,F,F,F,F,F,F,F,F,F] HT_.1 ?_
      refine pu 19 29 #[T,T,T,T,T,T,T,T,T,T,T,T,T,T,T,T,T,T,T,T,F,F,F,F,F,F,F,F,F,F,F,F,F,F,F,F,F,F,F,F] HT_.1 ?_
      refine pu 20 30 #[T,T,T,T,T,T,T,T,T,T,T,T,T,T,T,T,T,T,T,T,T,F,F,F,F,F,F,F,F,F,F,F,F,F,F,F,F,F,F,F] HT_.1 ?_
      refine pu 21 31 #[T,T,T,T,T,T,T,T,T,T,T,T,T,T,T,T,T,T,T,T,T,T,F,F,F,F,F,F,F,F,F,F,F,F,F,F,F,F,F,F] HT_.1 ?_
      refine pz 22 32 #[T,T,T,T,T,T,T,T,T,T,T,T,T,T,T,T,T,T,T,T,T,T,T,F,F,F,F,F,F,F,F,F,F,F,F,F,F,F,F,F] HT_.1 ?_
      refine pz 23 33 #[T,T,T,T,T,T,T,T,T,T,T,T,T,T,T,T,T,T,T,T,T,T,T,T,F,F,F,F,F,F,F,F,F,F,F,F,F,F,F,F] HT_.1 ?_
      refine pu 24 34 #[T,T,T,T,T,T,T,T,T,T,T,T,T,T,T,T,T,T,T,T,T,T,T,T,T,F,F,F,F,F,F,F,F,F,F,F,F,F,F,F] HT_.1 ?_
      refine pu 25 35 #[T,T,T,T,T,T,T,T,T,T,T,T,T,T,T,T,T,T,T,T,T,T,T,T,T,T,F,F,F,F,F,F,F,F,F,F,F,F,F,F] HT_.1 ?_
      refine pu 26 36 #[T,T,T,T,T,T,T,T,T,T,T,T,T,T,T,T,T,T,T,T,T,T,T,T,T,T,T,F,F,F,F,F,F,F,F,F,F,F,F,F] HT_.1 ?_
      refine pu 27 37 #[T,T,T,T,T,T,T,T,T,T,T,T,T,T,T,T,T,T,T,T,T,T,T,T,T,T,T,T,F,F,F,F,F,F,F,F,F,F,F,F] HT_.1 ?_
      refine pu 28 38 #[T,T,T,T,T,T,T,T,T,T,T,T,T,T,T,T,T,T,T,T,T,T,T,T,T,T,T,T,T,F,F,F,F,F,F,F,F,F,F,F] HT_.1 ?_
      refine pu 29 39 #[T,T,T,T,T,T,T,T,T,T,T,T,T,T,T,T,T,T,T,T,T,T,T,T,T,T,T,T,T,T,F,F,F,F,F,F,F,F,F,F] HT_.1 ?_
      refine pu 30 40 #[T,T,T,T,T,T,T,T,T,T,T,T,T,T,T,T,T,T,T,T,T,T,T,T,T,T,T,T,T,T,T,F,F,F,F,F,F,F,F,F] HT_.1 ?_
      refine pu 31 41 #[T,T,T,T,T,T,T,T,T,T,T,T,T,T,T,T,T,T,T,T,T,T,T,T,T,T,T,T,T,T,T,T,F,F,F,F,F,F,F,F] HT_.1 ?_
      refine pu 32 42 #[T,T,T,T,T,T,T,T,T,T,T,T,T,T,T,T,T,T,T,T,T,T,T,T,T,T,T,T,T,T,T,T,T,F,F,F,F,F,F,F] HT_.1 ?_
      refine pu 33 43 #[T,T,T,T,T,T,T,T,T,T,T,T,T,T,T,T,T,T,T,T,T,T,T,T,T,T,T,T,T,T,T,T,T,T,F,F,F,F,F,F] HT_.1 ?_
      refine pu 34 44 #[T,T,T,T,T,T,T,T,T,T,T,T,T,T,T,T,T,T,T,T,T,T,T,T,T,T,T,T,T,T,T,T,T,T,T,F,F,F,F,F] HT_.1 ?_
      refine pu 35 45 #[T,T,T,T,T,T,T,T,T,T,T,T,T,T,T,T,T,T,T,T,T,T,T,T,T,T,T,T,T,T,T,T,T,T,T,T,F,F,F,F] HT_.1 ?_
      refine pu 36 46 #[T,T,T,T,T,T,T,T,T,T,T,T,T,T,T,T,T,T,T,T,T,T,T,T,T,T,T,T,T,T,T,T,T,T,T,T,T,F,F,F] HT_.1 ?_
      refine pu 37 47 #[T,T,T,T,T,T,T,T,T,T,T,T,T,T,T,T,T,T,T,T,T,T,T,T,T,T,T,T,T,T,T,T,T,T,T,T,T,T,F,F] HT_.1 ?_
      refine pu 38 48 #[T,T,T,T,T,T,T,T,T,T,T,T,T,T,T,T,T,T,T,T,T,T,T,T,T,T,T,T,T,T,T,T,T,T,T,T,T,T,T,F] HT_.1 ?_
      refine pz 39 49 #[T,T,T,T,T,T,T,T,T,T,T,T,T,T,T,T,T,T,T,T,T,T,T,T,T,T,T,T,T,T,T,T,T,T,T,T,T,T,T,T] HT_.1 ?_
      refine done_ (done_of HT_.out (by kernel_rfl)) ?_
      try go_wp2
      go_ret
      exact ⟨zE,zH HB⟩
     ·rw [if_neg c4] at H
      have c4b0 : decide (((rd_T39 l0 x3_1).f1) < 1) = false:=decide_eq_false c4
      clear c4
      by_cases c6 : ((rd_T39 l0 x3_1).f1) > 3
      ·rw [if_pos c6] at H
       have c6b0 : decide (3 < ((rd_T39 l0 x3_1).f1)) = true:=decide_eq_true c6
       clear c6
       obtain rfl:=Option.some.inj H
       try go_wp2
       replace HB:=Aside0.mk (bw1 HB.1)
       have p229 : 0 ≤ (x3_1 : Int):=zd
       have q229 : x3_1 < (l0.length : Int):=zd
       obtain ⟨ad229,e229,hx229_0,hx229_1,hx229_2,hx229_3,hx229_4,hx229_5⟩:=at_T39 HR0.out x3_1 p229 q229
       have hw229_5:=hx229_5
       have hw229_4:=hx229_4
       have hw229_3:=hx229_3
       have hw229_2:=hx229_2
       have hw229_1:=hx229_1
       have hw229_0:=hx229_0
       cases e229
       replace hx229_0:=zh HB hx229_0
       replace hx229_1:=zh HB hx229_1
       replace hx229_2:=zh HB hx229_2
       replace hx229_3:=zh HB hx229_3
       replace hx229_4:=zh HB hx229_4
       replace hx229_5:=zh HB hx229_5
       replace p229:=eq_true p229
       replace q229:=eq_true q229
       have p230 : 0 ≤ (x3_1 : Int):=zd
       have q230 : x3_1 < (l0.length : Int):=zd
       obtain ⟨ad230,e230,hx230_0,hx230_1,hx230_2,hx230_3,hx230_4,hx230_5⟩:=at_T39 HR0.out x3_1 p230 q230
       have hw230_5:=hx230_5
       have hw230_4:=hx230_4
       have hw230_3:=hx230_3
       have hw230_2:=hx230_2
       have hw230_1:=hx230_1
       have hw230_0:=hx230_0
       obtain rfl : ad229 = ad230:=(by injection e230)
       replace hx230_0:=zh HB hx230_0
       replace hx230_1:=zh HB hx230_1
       replace hx230_2:=zh HB hx230_2
       replace hx230_3:=zh HB hx230_3
       replace hx230_4:=zh HB hx230_4
       replace hx230_5:=zh HB hx230_5
       replace p230:=eq_true p230
       replace q230:=eq_true q230
       refine start_ (n:=40) (S:=fun w' => w'.cell? (ad229.add ((x3_1).toNat * 6)) = some (.int .i64 ((rd_T39 l0 x3_1).f0)) ∧ w'.cell? ⟨(ad229.add ((x3_1).toNat * 6)).block,(ad229.add ((x3_1).toNat * 6)).off + 1,none⟩ = some (.int .i64 ((rd_T39 l0 x3_1).f1)) ∧ w'.cell? ⟨(ad229.add ((x3_1).toNat * 6)).block,(ad229.add ((x3_1).toNat * 6)).off + 2,none⟩ = some (.float .f64 ((rd_T39 l0 x3_1).f2)) ∧ w'.cell? ⟨(ad229.add ((x3_1).toNat * 6)).block,(ad229.add ((x3_1).toNat * 6)).off + 3,none⟩ = some (.int .i64 ((rd_T39 l0 x3_1).f3)) ∧ w'.cell? ⟨(ad229.add ((x3_1).toNat * 6)).block,(ad229.add ((x3_1).toNat * 6)).off + 4,none⟩ = some (.float .f64 ((rd_T39 l0 x3_1).f4)) ∧ w'.cell? ⟨(ad229.add ((x3_1).toNat * 6)).block,(ad229.add ((x3_1).toNat * 6)).off + 5,none⟩ = some (.int .i64 ((rd_T39 l0 x3_1).f5)) ∧ w'.cell? (ad229.add ((x3_1).toNat * 6)) = some (.int .i64 ((rd_T39 l0 x3_1).f0)) ∧ w'.cell? ⟨(ad229.add ((x3_1).toNat * 6)).block,(ad229.add ((x3_1).toNat * 6)).off + 1,none⟩ = some (.int .i64 ((rd_T39 l0 x3_1).f1)) ∧ w'.cell? ⟨(ad229.add ((x3_1).toNat * 6)).block,(ad229.add ((x3_1).toNat * 6)).off + 2,none⟩ = some (.float .f64 ((rd_T39 l0 x3_1).f2)) ∧ w'.cell? ⟨(ad229.add ((x3_1).toNat * 6)).block,(ad229.add ((x3_1).toNat * 6)).off + 3,none⟩ = some (.int .i64 ((rd_T39 l0 x3_1).f3)) ∧ w'.cell? ⟨(ad229.add ((x3_1).toNat * 6)).block,(ad229.add ((x3_1).toNat * 6)).off + 4,none⟩ = some (.float .f64 ((rd_T39 l0 x3_1).f4)) ∧ w'.cell? ⟨(ad229.add ((x3_1).toNat * 6)).block,(ad229.add ((x3_1).toNat * 6)).off + 5,none⟩ = some (.int .i64 ((rd_T39 l0 x3_1).f5))) (ds:=[]) #[F,F,F,F,F,F,F,F,F,F,F,F,F,F,F,F,F,F,F,F,F,F,F,F,F,F,F,F,F,F,F,F,F,F,F,F,F,F,F,F] (by kernel_rfl) rfl rfl ⟨(zh HB hw229_0),(zh HB hw229_1),(zh HB hw229_2),(zh HB hw229_3),(zh HB hw229_4),(zh HB hw229_5),(zh HB hw230_0),(zh HB hw230_1),(zh HB hw230_2),(zh HB hw230_3),(zh HB hw230_4),(zh HB hw230_5)⟩ (fun hHeld => ?_);refine with_tabW beaconref17_may.tab4 beaconref17_may.bits4 (fun HT_ HW_ => ?_)
       generalize wr.drew = w7 at HB hx229_0 hx229_1 hx229_2 hx229_3 hx229_4 hx229_5 hx230_0 hx230_1 hx230_2 hx230_3 hx230_4 hx230_5 hHeld ⊢
       refine pz 0 10 #[T,F,F,F,F,F,F,F,F,F,F,F,F,F,F,F,F,F,F,F,F,F,F,F,F,F,F,F,F,F,F,F,F,F,F,F,F,F,F,F] HT_.1 ?_
       refine pz 1 11 #[T,T,F,F,F,F,F,F,F,F,F,F,F,F,F,F,F,F,F,F,F,F,F,F,F,F,F,F,F,F,F,F,F,F,F,F,F,F,F,F] HT_.1 ?_
       refine pz 2 12 #[T,T,T,F,F,F,F,F,F,F,F,F,F,F,F,F,F,F,F,F,F,F,F,F,F,F,F,F,F,F,F,F,F,F,F,F,F,F,F,F] HT_.1 ?_
       refine pz 3 13 #[T,T,T,T,F,F,F,F,F,F,F,F,F,F,F,F,F,F,F,F,F,F,F,F,F,F,F,F,F,F,F,F,F,F,F,F,F,F,F,F] HT_.1 ?_
       refine tz 4 14 #[T,T,T,T,T,F,F,F,F,F,F,F,F,F,F,F,F,F,F,F,F,F,F,F,F,F,F,F,F,F,F,F,F,F,F,F,F,F,F,F] HT_.1 HW_.1 hHeld ?_
       refine pz 5 15 #[T,T,T,T,T,T,F,F,F,F,F,F,F,F,F,F,F,F,F,F,F,F,F,F,F,F,F,F,F,F,F,F,F,F,F,F,F,F,F,F] HT_.1 ?_
       refine pz 6 16 #[T,T,T,T,T,T,T,F,F,F,F,F,F,F,F,F,F,F,F,F,F,F,F,F,F,F,F,F,F,F,F,F,F,F,F,F,F,F,F,F] HT_.1 ?_
       refine pz 7 17 #[T,T,T,T,T,T,T,T,F,F,F,F,F,F,F,F,F,F,F,F,F,F,F,F,F,F,F,F,F,F,F,F,F,F,F,F,F,F,F,F] HT_.1 ?_
       refine pz 8 18 #[T,T,T,T,T,T,T,T,T,F,F,F,F,F,F,F,F,F,F,F,F,F,F,F,F,F,F,F,F,F,F,F,F,F,F,F,F,F,F,F] HT_.1 ?_
       refine pz 9 19 #[T,T,T,T,T,T,T,T,T,T,F,F,F,F,F,F,F,F,F,F,F,F,F,F,F,F,F,F,F,F,F,F,F,F,F,F,F,F,F,F] HT_.1 ?_
       refine pz 10 20 #[T,T,T,T,T,T,T,T,T,T,T,F,F,F,F,F,F,F,F,F,F,F,F,F,F,F,F,F,F,F,F,F,F,F,F,F,F,F,F,F] HT_.1 ?_
       refine tz 11 21 #[T,T,T,T,T,T,T,T,T,T,T,T,F,F,F,F,F,F,F,F,F,F,F,F,F,F,F,F,F,F,F,F,F,F,F,F,F,F,F,F] HT_.1 HW_.1 hHeld ?_
       refine pz 12 22 #[T,T,T,T,T,T,T,T,T,T,T,T,T,F,F,F,F,F,F,F,F,F,F,F,F,F,F,F,F,F,F,F,F,F,F,F,F,F,F,F] HT_.1 ?_
       refine pz 13 23 #[T,T,T,T,T,T,T,T,T,T,T,T,T,T,F,F,F,F,F,F,F,F,F,F,F,F,F,F,F,F,F,F,F,F,F,F,F,F,F,F] HT_.1 ?_
       refine pz 14 24 #[T,T,T,T,T,T,T,T,T,T,T,T,T,T,T,F,F,F,F,F,F,F,F,F,F,F,F,F,F,F,F,F,F,F,F,F,F,F,F,F] HT_.1 ?_
       refine pu 15 25 #[T,T,T,T,T,T,T,T,T,T,T,T,T,T,T,T,F,F,F,F,F,F,F,F,F,F,F,F,F,F,F,F,F,F,F,F,F,F,F,F] HT_.1 ?_
       refine pu 16 26 #[T,T,T,T,T,T,T,T,T,T,T,T,T,T,T,T,T,F,F,F,F,F,F,F,F,F,F,F,F,F,F,F,F,F,F,F,F,F,F,F] HT_.1 ?_
       refine pu 17 27 #[T,T,T,T,T,T,T,T,T,T,T,T,T,T,T,T,T,T,F,F,F,F,F,F,F,F,F,F,F,F,F,F,F,F,F,F,F,F,F,F] HT_.1 ?_
       refine pu 18 28 #[T,T,T,T,T,T,T,T,T,T,T,T,T,T,T,T,T,T,T,F,F,F,F,F,F,F,F,F,F,F,F,F,F,F,F,F,F,F,F,F] HT_.1 ?_
       refine pu 19 29 #[T,T,T,T,T,T,T,T,T,T,T,T,T,T,T,T,T,T,T,T,F,F,F,F,F,F,F,F,F,F,F,F,F,F,F,F,F,F,F,F] HT_.1 ?_
       refine pu 20 30 #[T,T,T,T,T,T,T,T,T,T,T,T,T,T,T,T,T,T,T,T,T,F,F,F,F,F,F,F,F,F,F,F,F,F,F,F,F,F,F,F] HT_.1 ?_
       refine pu 21 31 #[T,T,T,T,T,T,T,T,T,T,T,T,T,T,T,T,T,T,T,T,T,T,F,F,F,F,F,F,F,F,F,F,F,F,F,F,F,F,F,F] HT_.1 ?_
       refine pz 22 32 #[T,T,T,T,T,T,T,T,T,T,T,T,T,T,T,T,T,T,T,T,T,T,T,F,F,F,F,F,F,F,F,F,F,F,F,F,F,F,F,F] HT_.1 ?_
       refine pz 23 33 #[T,T,T,T,T,T,T,T,T,T,T,T,T,T,T,T,T,T,T,T,T,T,T,T,F,F,F,F,F,F,F,F,F,F,F,F,F,F,F,F] HT_.1 ?_
       refine pu 24 34 #[T,T,T,T,T,T,T,T,T,T,T,T,T,T,T,T,T,T,T,T,T,T,T,T,T,F,F,F,F,F,F,F,F,F,F,F,F,F,F,F] HT_.1 ?_
       refine pu 25 35 #[T,T,T,T,T,T,T,T,T,T,T,T,T,T,T,T,T,T,T,T,T,T,T,T,T,T,F,F,F,F,F,F,F,F,F,F,F,F,F,F] HT_.1 ?_
       refine pu 26 36 #[T,T,T,T,T,T,T,T,T,T,T,T,T,T,T,T,T,T,T,T,T,T,T,T,T,T,T,F,F,F,F,F,F,F,F,F,F,F,F,F] HT_.1 ?_
       refine pu 27 37 #[T,T,T,T,T,T,T,T,T,T,T,T,T,T,T,T,T,T,T,T,T,T,T,T,T,T,T,T,F,F,F,F,F,F,F,F,F,F,F,F] HT_.1 ?_
       refine pu 28 38 #[T,T,T,T,T,T,T,T,T,T,T,T,T,T,T,T,T,T,T,T,T,T,T,T,T,T,T,T,T,F,F,F,F,F,F,F,F,F,F,F] HT_.1 ?_
       refine pu 29 39 #[T,T,T,T,T,T,T,T,T,T,T,T,T,T,T,T,T,T,T,T,T,T,T,T,T,T,T,T,T,T,F,F,F,F,F,F,F,F,F,F] HT_.1 ?_
       refine pu 30 40 #[T,T,T,T,T,T,T,T,T,T,T,T,T,T,T,T,T,T,T,T,T,T,T,T,T,T,T,T,T,T,T,F,F,F,F,F,F,F,F,F] HT_.1 ?_
       refine pu 31 41 #[T,T,T,T,T,T,T,T,T,T,T,T,T,T,T,T,T,T,T,T,T,T,T,T,T,T,T,T,T,T,T,T,F,F,F,F,F,F,F,F] HT_.1 ?_
       refine pu 32 42 #[T,T,T,T,T,T,T,T,T,T,T,T,T,T,T,T,T,T,T,T,T,T,T,T,T,T,T,T,T,T,T,T,T,F,F,F,F,F,F,F] HT_.1 ?_
       refine pu 33 43 #[T,T,T,T,T,T,T,T,T,T,T,T,T,T,T,T,T,T,T,T,T,T,T,T,T,T,T,T,T,T,T,T,T,T,F,F,F,F,F,F] HT_.1 ?_
       refine pu 34 44 #[T,T,T,T,T,T,T,T,T,T,T,T,T,T,T,T,T,T,T,T,T,T,T,T,T,T,T,T,T,T,T,T,T,T,T,F,F,F,F,F] HT_.1 ?_
       refine pu 35 45 #[T,T,T,T,T,T,T,T,T,T,T,T,T,T,T,T,T,T,T,T,T,T,T,T,T,T,T,T,T,T,T,T,T,T,T,T,F,F,F,F] HT_.1 ?_
       refine pu 36 46 #[T,T,T,T,T,T,T,T,T,T,T,T,T,T,T,T,T,T,T,T,T,T,T,T,T,T,T,T,T,T,T,T,T,T,T,T,T,F,F,F] HT_.1 ?_
       refine pu 37 47 #[T,T,T,T,T,T,T,T,T,T,T,T,T,T,T,T,T,T,T,T,T,T,T,T,T,T,T,T,T,T,T,T,T,T,T,T,T,T,F,F] HT_.1 ?_
       refine pu 38 48 #[T,T,T,T,T,T,T,T,T,T,T,T,T,T,T,T,T,T,T,T,T,T,T,T,T,T,T,T,T,T,T,T,T,T,T,T,T,T,T,F] HT_.1 ?_
       refine pz 39 49 #[T,T,T,T,T,T,T,T,T,T,T,T,T,T,T,T,T,T,T,T,T,T,T,T,T,T,T,T,T,T,T,T,T,T,T,T,T,T,T,T] HT_.1 ?_
       refine done_ (done_of HT_.out (by kernel_rfl)) ?_
       try go_wp2
       go_ret
       exact ⟨zE,zH HB⟩
      ·rw [if_neg c6] at H
       have c6b0 : decide (3 < ((rd_T39 l0 x3_1).f1)) = false:=decide_eq_false c6
       clear c6
       replace H:=Option.bind_eq_some_iff.mp H
       obtain ⟨t232,A80,H⟩:=H
       (try dsimp only at H)
       have A8:=Aside0.mk A80
       clear A80
       by_cases c9 : t232 = 0
       ·rw [if_pos c9] at H
        have c9b0 : (t232 == 0) = true:=beq_iff_eq.mpr c9
        have c9b1 : (t232 != 0) = false:=bne_eq_false_iff_eq.mpr c9
        clear c9
        by_cases c10 : x3_1 > 0
        ·rw [if_pos c10] at H
         have c10b0 : decide (0 < x3_1) = true:=decide_eq_true c10
         clear c10
         obtain ⟨ji11,hji11⟩ : ∃ j_ : Int,(wrap64 (x3_1 - 1)) = j_:=⟨_,rfl⟩
         replace H : (if 0 ≤ (ji11) then (if (ji11) < (l0.length : Int) then ((beaconref17_before.f ((rd_T39 l0 (ji11)).f0) ((rd_T39 l0 (ji11)).f1) ((rd_T39 l0 (ji11)).f2) ((rd_T39 l0 (ji11)).f3) ((rd_T39 l0 (ji11)).f4) ((rd_T39 l0 (ji11)).f5) ((rd_T39 l0 x3_1).f0) ((rd_T39 l0 x3_1).f1) ((rd_T39 l0 x3_1).f2) ((rd_T39 l0 x3_1).f3) ((rd_T39 l0 x3_1).f4) ((rd_T39 l0 x3_1).f5)).bind fun t235 => (if t235 = true then (beaconref17_may.l0 k1 l0 (wrap64 (x3_1 + 1))) else (some false))) else (none)) else (none)) = some r:=by first|(rw [hji11] at H;exact H)|(simp only [hji11] at H ⊢;exact H)
         (try rw [hji11] at A8)
         have hji11w : (IntKind.i64.wrap (x3_1 - 1)) = ji11:=(i64_w _).trans hji11
         by_cases c12 : 0 ≤ (ji11)
         ·rw [if_pos c12] at H
          have c12b0 : decide (0 ≤ (ji11)) = true:=decide_eq_true c12
          clear c12
          by_cases c13 : (ji11) < (l0.length : Int)
          ·rw [if_pos c13] at H
           have c13b0 : decide ((ji11) < (l0.length : Int)) = true:=decide_eq_true c13
           clear c13
           replace H:=Option.bind_eq_some_iff.mp H
           obtain ⟨t235,A140,H⟩:=H
           (try dsimp only at H)
           have A14:=Aside0.mk A140
           clear A140
           by_cases c15 : t235 = true
           ·subst c15
            rw [if_pos rfl] at H
            have H':=Aside0.mk H
            clear H
            try go_wp2
            replace HB:=Aside0.mk (bw1 HB.1)
            have p229 : 0 ≤ (x3_1 : Int):=zd
            have q229 : x3_1 < (l0.length : Int):=zd
            obtain ⟨ad229,e229,hx229_0,hx229_1,hx229_2,hx229_3,hx229_4,hx229_5⟩:=at_T39 HR0.out x3_1 p229 q229
            have hw229_5:=hx229_5
            have hw229_4:=hx229_4
            have hw229_3:=hx229_3
            have hw229_2:=hx229_2
            have hw229_1:=hx229_1
            have hw229_0:=hx229_0
            cases e229
            replace hx229_0:=zh HB hx229_0
            replace hx229_1:=zh HB hx229_1
            replace hx229_2:=zh HB hx229_2
            replace hx229_3:=zh HB hx229_3
            replace hx229_4:=zh HB hx229_4
            replace hx229_5:=zh HB hx229_5
            replace p229:=eq_true p229
            replace q229:=eq_true q229
            have p230 : 0 ≤ (x3_1 : Int):=zd
            have q230 : x3_1 < (l0.length : Int):=zd
            obtain ⟨ad230,e230,hx230_0,hx230_1,hx230_2,hx230_3,hx230_4,hx230_5⟩:=at_T39 HR0.out x3_1 p230 q230
            have hw230_5:=hx230_5
            have hw230_4:=hx230_4
            have hw230_3:=hx230_3
            have hw230_2:=hx230_2
            have hw230_1:=hx230_1
            have hw230_0:=hx230_0
            obtain rfl : ad229 = ad230:=(by injection e230)
            replace hx230_0:=zh HB hx230_0
            replace hx230_1:=zh HB hx230_1
            replace hx230_2:=zh HB hx230_2
            replace hx230_3:=zh HB hx230_3
            replace hx230_4:=zh HB hx230_4
            replace hx230_5:=zh HB hx230_5
            replace p230:=eq_true p230
            replace q230:=eq_true q230
            have p231 : 0 ≤ (x3_1 : Int):=zd
            have q231 : x3_1 < (l0.length : Int):=zd
            obtain ⟨ad231,e231,hx231_0,hx231_1,hx231_2,hx231_3,hx231_4,hx231_5⟩:=at_T39 HR0.out x3_1 p231 q231
            have hw231_5:=hx231_5
            have hw231_4:=hx231_4
            have hw231_3:=hx231_3
            have hw231_2:=hx231_2
            have hw231_1:=hx231_1
            have hw231_0:=hx231_0
            obtain rfl : ad229 = ad231:=(by injection e231)
            replace hx231_0:=zh HB hx231_0
            replace hx231_1:=zh HB hx231_1
            replace hx231_2:=zh HB hx231_2
            replace hx231_3:=zh HB hx231_3
            replace hx231_4:=zh HB hx231_4
            replace hx231_5:=zh HB hx231_5
            replace p231:=eq_true p231
            replace q231:=eq_true q231
            have p233 : 0 ≤ ((ji11) : Int):=zd
            have q233 : (ji11) < (l0.length : Int):=zd
            obtain ⟨ad233,e233,hx233_0,hx233_1,hx233_2,hx233_3,hx233_4,hx233_5⟩:=at_T39 HR0.out (ji11) p233 q233
            have hw233_5:=hx233_5
            have hw233_4:=hx233_4
            have hw233_3:=hx233_3
            have hw233_2:=hx233_2
            have hw233_1:=hx233_1
            have hw233_0:=hx233_0
            obtain rfl : ad229 = ad233:=(by injection e233)
            replace hx233_0:=zh HB hx233_0
            replace hx233_1:=zh HB hx233_1
            replace hx233_2:=zh HB hx233_2
            replace hx233_3:=zh HB hx233_3
            replace hx233_4:=zh HB hx233_4
            replace hx233_5:=zh HB hx233_5
            replace p233:=eq_true p233
            replace q233:=eq_true q233
            have p234 : 0 ≤ (x3_1 : Int):=zd
            have q234 : x3_1 < (l0.length : Int):=zd
            obtain ⟨ad234,e234,hx234_0,hx234_1,hx234_2,hx234_3,hx234_4,hx234_5⟩:=at_T39 HR0.out x3_1 p234 q234
            have hw234_5:=hx234_5
            have hw234_4:=hx234_4
            have hw234_3:=hx234_3
            have hw234_2:=hx234_2
            have hw234_1:=hx234_1
            have hw234_0:=hx234_0
            obtain rfl : ad229 = ad234:=(by injection e234)
            replace hx234_0:=zh HB hx234_0
            replace hx234_1:=zh HB hx234_1
            replace hx234_2:=zh HB hx234_2
            replace hx234_3:=zh HB hx234_3
            replace hx234_4:=zh HB hx234_4
            replace hx234_5:=zh HB hx234_5
            replace p234:=eq_true p234
            replace q234:=eq_true q234
            refine start_ (n:=40) (S:=fun w' => w'.cell? (ad229.add ((x3_1).toNat * 6)) = some (.int .i64 ((rd_T39 l0 x3_1).f0)) ∧ w'.cell? ⟨(ad229.add ((x3_1).toNat * 6)).block,(ad229.add ((x3_1).toNat * 6)).off + 1,none⟩ = some (.int .i64 ((rd_T39 l0 x3_1).f1)) ∧ w'.cell? ⟨(ad229.add ((x3_1).toNat * 6)).block,(ad229.add ((x3_1).toNat * 6)).off + 2,none⟩ = some (.float .f64 ((rd_T39 l0 x3_1).f2)) ∧ w'.cell? ⟨(ad229.add ((x3_1).toNat * 6)).block,(ad229.add ((x3_1).toNat * 6)).off + 3,none⟩ = some (.int .i64 ((rd_T39 l0 x3_1).f3)) ∧ w'.cell? ⟨(ad229.add ((x3_1).toNat * 6)).block,(ad229.add ((x3_1).toNat * 6)).off + 4,none⟩ = some (.float .f64 ((rd_T39 l0 x3_1).f4)) ∧ w'.cell? ⟨(ad229.add ((x3_1).toNat * 6)).block,(ad229.add ((x3_1).toNat * 6)).off + 5,none⟩ = some (.int .i64 ((rd_T39 l0 x3_1).f5)) ∧ w'.cell? (ad229.add ((x3_1).toNat * 6)) = some (.int .i64 ((rd_T39 l0 x3_1).f0)) ∧ w'.cell? ⟨(ad229.add ((x3_1).toNat * 6)).block,(ad229.add ((x3_1).toNat * 6)).off + 1,none⟩ = some (.int .i64 ((rd_T39 l0 x3_1).f1)) ∧ w'.cell? ⟨(ad229.add ((x3_1).toNat * 6)).block,(ad229.add ((x3_1).toNat * 6)).off + 2,none⟩ = some (.float .f64 ((rd_T39 l0 x3_1).f2)) ∧ w'.cell? ⟨(ad229.add ((x3_1).toNat * 6)).block,(ad229.add ((x3_1).toNat * 6)).off + 3,none⟩ = some (.int .i64 ((rd_T39 l0 x3_1).f3)) ∧ w'.cell? ⟨(ad229.add ((x3_1).toNat * 6)).block,(ad229.add ((x3_1).toNat * 6)).off + 4,none⟩ = some (.float .f64 ((rd_T39 l0 x3_1).f4)) ∧ w'.cell? ⟨(ad229.add ((x3_1).toNat * 6)).block,(ad229.add ((x3_1).toNat * 6)).off + 5,none⟩ = some (.int .i64 ((rd_T39 l0 x3_1).f5)) ∧ w'.cell? (ad229.add ((x3_1).toNat * 6)) = some (.int .i64 ((rd_T39 l0 x3_1).f0)) ∧ w'.cell? ⟨(ad229.add ((x3_1).toNat * 6)).block,(ad229.add ((x3_1).toNat * 6)).off + 1,none⟩ = some (.int .i64 ((rd_T39 l0 x3_1).f1)) ∧ w'.cell? ⟨(ad229.add ((x3_1).toNat * 6)).block,(ad229.add ((x3_1).toNat * 6)).off + 2,none⟩ = some (.float .f64 ((rd_T39 l0 x3_1).f2)) ∧ w'.cell? ⟨(ad229.add ((x3_1).toNat * 6)).block,(ad229.add ((x3_1).toNat * 6)).off + 3,none⟩ = some (.int .i64 ((rd_T39 l0 x3_1).f3)) ∧ w'.cell? ⟨(ad229.add ((x3_1).toNat * 6)).block,(ad229.add ((x3_1).toNat * 6)).off + 4,none⟩ = some (.float .f64 ((rd_T39 l0 x3_1).f4)) ∧ w'.cell? ⟨(ad229.add ((x3_1).toNat * 6)).block,(ad229.add ((x3_1).toNat * 6)).off + 5,none⟩ = some (.int .i64 ((rd_T39 l0 x3_1).f5)) ∧ w'.cell? (ad229.add (((ji11)).toNat * 6)) = some (.int .i64 ((rd_T39 l0 (ji11)).f0)) ∧ w'.cell? ⟨(ad229.add (((ji11)).toNat * 6)).block,(ad229.add (((ji11)).toNat * 6)).off + 1,none⟩ = some (.int .i64 ((rd_T39 l0 (ji11)).f1)) ∧ w'.cell? ⟨(ad229.add (((ji11)).toNat * 6)).block,(ad229.add (((ji11)).toNat * 6)).off + 2,none⟩ = some (.float .f64 ((rd_T39 l0 (ji11)).f2)) ∧ w'.cell? ⟨(ad229.add (((ji11)).toNat * 6)).block,(ad229.add (((ji11)).toNat * 6)).off + 3,none⟩ = some (.int .i64 ((rd_T39 l0 (ji11)).f3)) ∧ w'.cell? ⟨(ad229.add (((ji11)).toNat * 6)).block,(ad229.add (((ji11)).toNat * 6)).off + 4,none⟩ = some (.float .f64 ((rd_T39 l0 (ji11)).f4)) ∧ w'.cell? ⟨(ad229.add (((ji11)).toNat * 6)).block,(ad229.add (((ji11)).toNat * 6)).off + 5,none⟩ = some (.int .i64 ((rd_T39 l0 (ji11)).f5)) ∧ w'.cell? (ad229.add ((x3_1).toNat * 6)) = some (.int .i64 ((rd_T39 l0 x3_1).f0)) ∧ w'.cell? ⟨(ad229.add ((x3_1).toNat * 6)).block,(ad229.add ((x3_1).toNat * 6)).off + 1,none⟩ = some (.int .i64 ((rd_T39 l0 x3_1).f1)) ∧ w'.cell? ⟨(ad229.add ((x3_1).toNat * 6)).block,(ad229.add ((x3_1).toNat * 6)).off + 2,none⟩ = some (.float .f64 ((rd_T39 l0 x3_1).f2)) ∧ w'.cell? ⟨(ad229.add ((x3_1).toNat * 6)).block,(ad229.add ((x3_1).toNat * 6)).off + 3,none⟩ = some (.int .i64 ((rd_T39 l0 x3_1).f3)) ∧ w'.cell? ⟨(ad229.add ((x3_1).toNat * 6)).block,(ad229.add ((x3_1).toNat * 6)).off + 4,none⟩ = some (.float .f64 ((rd_T39 l0 x3_1).f4)) ∧ w'.cell? ⟨(ad229.add ((x3_1).toNat * 6)).block,(ad229.add ((x3_1).toNat * 6)).off + 5,none⟩ = some (.int .i64 ((rd_T39 l0 x3_1).f5))) (ds:=[]) #[F,F,F,F,F,F,F,F,F,F,F,F,F,F,F,F,F,F,F,F,F,F,F,F,F,F,F,F,F,F,F,F,F,F,F,F,F,F,F,F] (by kernel_rfl) rfl rfl ⟨(zh HB hw229_0),(zh HB hw229_1),(zh HB hw229_2),(zh HB hw229_3),(zh HB hw229_4),(zh HB hw229_5),(zh HB hw230_0),(zh HB hw230_1),(zh HB hw230_2),(zh HB hw230_3),(zh HB hw230_4),(zh HB hw230_5),(zh HB hw231_0),(zh HB hw231_1),(zh HB hw231_2),(zh HB hw231_3),(zh HB hw231_4),(zh HB hw231_5),(zh HB hw233_0),(zh HB hw233_1),(zh HB hw233_2),(zh HB hw233_3),(zh HB hw233_4),(zh HB hw233_5),(zh HB hw234_0),(zh HB hw234_1),(zh HB hw234_2),(zh HB hw234_3),(zh HB hw234_4),(zh HB hw234_5)⟩ (fun hHeld => ?_);refine with_tabW beaconref17_may.tab4 beaconref17_may.bits4 (fun HT_ HW_ => ?_)
            generalize wr.drew = w16 at HB hx229_0 hx229_1 hx229_2 hx229_3 hx229_4 hx229_5 hx230_0 hx230_1 hx230_2 hx230_3 hx230_4 hx230_5 hx231_0 hx231_1 hx231_2 hx231_3 hx231_4 hx231_5 hx233_0 hx233_1 hx233_2 hx233_3 hx233_4 hx233_5 hx234_0 hx234_1 hx234_2 hx234_3 hx234_4 hx234_5 hHeld ⊢
            refine pz 0 10 #[T,F,F,F,F,F,F,F,F,F,F,F,F,F,F,F,F,F,F,F,F,F,F,F,F,F,F,F,F,F,F,F,F,F,F,F,F,F,F,F] HT_.1 ?_
            refine pz 1 11 #[T,T,F,F,F,F,F,F,F,F,F,F,F,F,F,F,F,F,F,F,F,F,F,F,F,F,F,F,F,F,F,F,F,F,F,F,F,F,F,F] HT_.1 ?_
            refine pz 2 12 #[T,T,T,F,F,F,F,F,F,F,F,F,F,F,F,F,F,F,F,F,F,F,F,F,F,F,F,F,F,F,F,F,F,F,F,F,F,F,F,F] HT_.1 ?_
            refine pz 3 13 #[T,T,T,T,F,F,F,F,F,F,F,F,F,F,F,F,F,F,F,F,F,F,F,F,F,F,F,F,F,F,F,F,F,F,F,F,F,F,F,F] HT_.1 ?_
            refine tz 4 14 #[T,T,T,T,T,F,F,F,F,F,F,F,F,F,F,F,F,F,F,F,F,F,F,F,F,F,F,F,F,F,F,F,F,F,F,F,F,F,F,F] HT_.1 HW_.1 hHeld ?_
            refine pz 5 15 #[T,T,T,T,T,T,F,F,F,F,F,F,F,F,F,F,F,F,F,F,F,F,F,F,F,F,F,F,F,F,F,F,F,F,F,F,F,F,F,F] HT_.1 ?_
            refine pz 6 16 #[T,T,T,T,T,T,T,F,F,F,F,F,F,F,F,F,F,F,F,F,F,F,F,F,F,F,F,F,F,F,F,F,F,F,F,F,F,F,F,F] HT_.1 ?_
            refine pz 7 17 #[T,T,T,T,T,T,T,T,F,F,F,F,F,F,F,F,F,F,F,F,F,F,F,F,F,F,F,F,F,F,F,F,F,F,F,F,F,F,F,F] HT_.1 ?_
            refine pz 8 18 #[T,T,T,T,T,T,T,T,T,F,F,F,F,F,F,F,F,F,F,F,F,F,F,F,F,F,F,F,F,F,F,F,F,F,F,F,F,F,F,F] HT_.1 ?_
            refine pz 9 19 #[T,T,T,T,T,T,T,T,T,T,F,F,F,F,F,F,F,F,F,F,F,F,F,F,F,F,F,F,F,F,F,F,F,F,F,F,F,F,F,F] HT_.1 ?_
            refine pz 10 20 #[T,T,T,T,T,T,T,T,T,T,T,F,F,F,F,F,F,F,F,F,F,F,F,F,F,F,F,F,F,F,F,F,F,F,F,F,F,F,F,F] HT_.1 ?_
            refine tz 11 21 #[T,T,T,T,T,T,T,T,T,T,T,T,F,F,F,F,F,F,F,F,F,F,F,F,F,F,F,F,F,F,F,F,F,F,F,F,F,F,F,F] HT_.1 HW_.1 hHeld ?_
            refine pz 12 22 #[T,T,T,T,T,T,T,T,T,T,T,T,T,F,F,F,F,F,F,F,F,F,F,F,F,F,F,F,F,F,F,F,F,F,F,F,F,F,F,F] HT_.1 ?_
            refine pz 13 23 #[T,T,T,T,T,T,T,T,T,T,T,T,T,T,F,F,F,F,F,F,F,F,F,F,F,F,F,F,F,F,F,F,F,F,F,F,F,F,F,F] HT_.1 ?_
            refine pz 14 24 #[T,T,T,T,T,T,T,T,T,T,T,T,T,T,T,F,F,F,F,F,F,F,F,F,F,F,F,F,F,F,F,F,F,F,F,F,F,F,F,F] HT_.1 ?_
            refine pz 15 25 #[T,T,T,T,T,T,T,T,T,T,T,T,T,T,T,T,F,F,F,F,F,F,F,F,F,F,F,F,F,F,F,F,F,F,F,F,F,F,F,F] HT_.1 ?_
            refine pz 16 26 #[T,T,T,T,T,T,T,T,T,T,T,T,T,T,T,T,T,F,F,F,F,F,F,F,F,F,F,F,F,F,F,F,F,F,F,F,F,F,F,F] HT_.1 ?_
            refine pz 17 27 #[T,T,T,T,T,T,T,T,T,T,T,T,T,T,T,T,T,T,F,F,F,F,F,F,F,F,F,F,F,F,F,F,F,F,F,F,F,F,F,F] HT_.1 ?_
            refine pz 18 28 #[T,T,T,T,T,T,T,T,T,T,T,T,T,T,T,T,T,T,T,F,F,F,F,F,F,F,F,F,F,F,F,F,F,F,F,F,F,F,F,F] HT_.1 ?_
            refine tz 19 29 #[T,T,T,T,T,T,T,T,T,T,T,T,T,T,T,T,T,T,T,T,F,F,F,F,F,F,F,F,F,F,F,F,F,F,F,F,F,F,F,F] HT_.1 HW_.1 hHeld ?_
            refine one_ (i:=20) (N:=some 30) #[T,T,T,T,T,T,T,T,T,T,T,T,T,T,T,T,T,T,T,T,T,F,F,F,F,F,F,F,F,F,F,F,F,F,F,F,F,F,F,F] rfl rfl (one_of HT_.out (by kernel_rfl)) (by decide) (fun K hK => ?_)
            refine zo_ Try.func58 #[.int .i64 ((rd_T39 l0 x3_1).f0)] ?_
            with_reducible refine (beaconref02_CheckId.calls ((rd_T39 l0 x3_1).f0) t232 _ A8.out).mono ?_
            rintro e w' ⟨rfl,⟨nd,rfl⟩⟩
            refine ⟨_,rfl,?_⟩
            refine hK.out _ _ ⟨(zh HB hw229_0),(zh HB hw229_1),(zh HB hw229_2),(zh HB hw229_3),(zh HB hw229_4),(zh HB hw229_5),(zh HB hw230_0),(zh HB hw230_1),(zh HB hw230_2),(zh HB hw230_3),(zh HB hw230_4),(zh HB hw230_5),(zh HB hw231_0),(zh HB hw231_1),(zh HB hw231_2),(zh HB hw231_3),(zh HB hw231_4),(zh HB hw231_5),(zh HB hw233_0),(zh HB hw233_1),(zh HB hw233_2),(zh HB hw233_3),(zh HB hw233_4),(zh HB hw233_5),(zh HB hw234_0),(zh HB hw234_1),(zh HB hw234_2),(zh HB hw234_3),(zh HB hw234_4),(zh HB hw234_5)⟩ (fun hHeld => ?_)
            clear hK K
            refine nz 30 ?_
            refine pz 21 31 #[T,T,T,T,T,T,T,T,T,T,T,T,T,T,T,T,T,T,T,T,T,T,F,F,F,F,F,F,F,F,F,F,F,F,F,F,F,F,F,F] HT_.1 ?_
            refine pz 22 32 #[T,T,T,T,T,T,T,T,T,T,T,T,T,T,T,T,T,T,T,T,T,T,T,F,F,F,F,F,F,F,F,F,F,F,F,F,F,F,F,F] HT_.1 ?_
            refine pz 23 33 #[T,T,T,T,T,T,T,T,T,T,T,T,T,T,T,T,T,T,T,T,T,T,T,T,F,F,F,F,F,F,F,F,F,F,F,F,F,F,F,F] HT_.1 ?_
            refine pz 24 34 #[T,T,T,T,T,T,T,T,T,T,T,T,T,T,T,T,T,T,T,T,T,T,T,T,T,F,F,F,F,F,F,F,F,F,F,F,F,F,F,F] HT_.1 ?_
            refine pz 25 35 #[T,T,T,T,T,T,T,T,T,T,T,T,T,T,T,T,T,T,T,T,T,T,T,T,T,T,F,F,F,F,F,F,F,F,F,F,F,F,F,F] HT_.1 ?_
            refine pz 26 36 #[T,T,T,T,T,T,T,T,T,T,T,T,T,T,T,T,T,T,T,T,T,T,T,T,T,T,T,F,F,F,F,F,F,F,F,F,F,F,F,F] HT_.1 ?_
            refine pz 27 37 #[T,T,T,T,T,T,T,T,T,T,T,T,T,T,T,T,T,T,T,T,T,T,T,T,T,T,T,T,F,F,F,F,F,F,F,F,F,F,F,F] HT_.1 ?_
            refine pz 28 38 #[T,T,T,T,T,T,T,T,T,T,T,T,T,T,T,T,T,T,T,T,T,T,T,T,T,T,T,T,T,F,F,F,F,F,F,F,F,F,F,F] HT_.1 ?_
            refine pz 29 39 #[T,T,T,T,T,T,T,T,T,T,T,T,T,T,T,T,T,T,T,T,T,T,T,T,T,T,T,T,T,T,F,F,F,F,F,F,F,F,F,F] HT_.1 ?_
            refine pz 30 40 #[T,T,T,T,T,T,T,T,T,T,T,T,T,T,T,T,T,T,T,T,T,T,T,T,T,T,T,T,T,T,T,F,F,F,F,F,F,F,F,F] HT_.1 ?_
            refine pz 32 42 #[T,T,T,T,T,T,T,T,T,T,T,T,T,T,T,T,T,T,T,T,T,T,T,T,T,T,T,T,T,T,T,F,T,F,F,F,F,F,F,F] HT_.1 ?_
            refine pz 33 43 #[T,T,T,T,T,T,T,T,T,T,T,T,T,T,T,T,T,T,T,T,T,T,T,T,T,T,T,T,T,T,T,F,T,T,F,F,F,F,F,F] HT_.1 ?_
            refine pz 34 44 #[T,T,T,T,T,T,T,T,T,T,T,T,T,T,T,T,T,T,T,T,T,T,T,T,T,T,T,T,T,T,T,F,T,T,T,F,F,F,F,F] HT_.1 ?_
            refine tz 31 41 #[T,T,T,T,T,T,T,T,T,T,T,T,T,T,T,T,T,T,T,T,T,T,T,T,T,T,T,T,T,T,T,T,T,T,T,F,F,F,F,F] HT_.1 HW_.1 hHeld ?_
            refine tz 35 45 #[T,T,T,T,T,T,T,T,T,T,T,T,T,T,T,T,T,T,T,T,T,T,T,T,T,T,T,T,T,T,T,T,T,T,T,T,F,F,F,F] HT_.1 HW_.1 hHeld ?_
            refine one_ (i:=36) (N:=some 46) #[T,T,T,T,T,T,T,T,T,T,T,T,T,T,T,T,T,T,T,T,T,T,T,T,T,T,T,T,T,T,T,T,T,T,T,T,T,F,F,F] rfl rfl (one_of HT_.out (by kernel_rfl)) (by decide) (fun K hK => ?_)
            refine goes_ Try.func72 (by kernel_rfl) rfl #[.agg #[.int .i64 ((rd_T39 l0 (ji11)).f0),.int .i64 ((rd_T39 l0 (ji11)).f1),.float .f64 ((rd_T39 l0 (ji11)).f2),.int .i64 ((rd_T39 l0 (ji11)).f3),.float .f64 ((rd_T39 l0 (ji11)).f4),.int .i64 ((rd_T39 l0 (ji11)).f5)],.agg #[.int .i64 ((rd_T39 l0 x3_1).f0),.int .i64 ((rd_T39 l0 x3_1).f1),.float .f64 ((rd_T39 l0 x3_1).f2),.int .i64 ((rd_T39 l0 x3_1).f3),.float .f64 ((rd_T39 l0 x3_1).f4),.int .i64 ((rd_T39 l0 x3_1).f5)]] (by rfl) rfl rfl (by (try simp only [List.map_toArray,List.map_cons,List.map_nil]);first|done|(simp only [hji11];rfl)|rfl|(simp only [List.length_drop,List.length_take];rfl)) ?_
            with_reducible refine (beaconref17_before.calls ((rd_T39 l0 (ji11)).f0) ((rd_T39 l0 (ji11)).f1) ((rd_T39 l0 (ji11)).f2) ((rd_T39 l0 (ji11)).f3) ((rd_T39 l0 (ji11)).f4) ((rd_T39 l0 (ji11)).f5) ((rd_T39 l0 x3_1).f0) ((rd_T39 l0 x3_1).f1) ((rd_T39 l0 x3_1).f2) ((rd_T39 l0 x3_1).f3) ((rd_T39 l0 x3_1).f4) ((rd_T39 l0 x3_1).f5) true _ A14.out).mono ?_
            rintro e w17 ⟨rfl,hb⟩
            refine ⟨_,rfl,?_⟩
            replace HB:=zS HB hb
            (try clear hb)
            (try clear hb2)
            (try clear hk)
            (try clear hi)
            refine hK.out _ _ ⟨(zh HB hw229_0),(zh HB hw229_1),(zh HB hw229_2),(zh HB hw229_3),(zh HB hw229_4),(zh HB hw229_5),(zh HB hw230_0),(zh HB hw230_1),(zh HB hw230_2),(zh HB hw230_3),(zh HB hw230_4),(zh HB hw230_5),(zh HB hw231_0),(zh HB hw231_1),(zh HB hw231_2),(zh HB hw231_3),(zh HB hw231_4),(zh HB hw231_5),(zh HB hw233_0),(zh HB hw233_1),(zh HB hw233_2),(zh HB hw233_3),(zh HB hw233_4),(zh HB hw233_5),(zh HB hw234_0),(zh HB hw234_1),(zh HB hw234_2),(zh HB hw234_3),(zh HB hw234_4),(zh HB hw234_5)⟩ (fun hHeld => ?_)
            clear hK K
            refine nz 46 ?_
            refine pz 37 47 #[T,T,T,T,T,T,T,T,T,T,T,T,T,T,T,T,T,T,T,T,T,T,T,T,T,T,T,T,T,T,T,T,T,T,T,T,T,T,F,F] HT_.1 ?_
            refine pz 38 48 #[T,T,T,T,T,T,T,T,T,T,T,T,T,T,T,T,T,T,T,T,T,T,T,T,T,T,T,T,T,T,T,T,T,T,T,T,T,T,T,F] HT_.1 ?_
            refine pz 39 49 #[T,T,T,T,T,T,T,T,T,T,T,T,T,T,T,T,T,T,T,T,T,T,T,T,T,T,T,T,T,T,T,T,T,T,T,T,T,T,T,T] HT_.1 ?_
            refine done_ (done_of HT_.out (by kernel_rfl)) ?_
            try go_wp2
            go_roundg k1
            case measure => have:=HK1.out;omega
            case rel => exact ⟨(wrap64 (x3_1 + 1)),ze,H',⟨by have:=HK1.out;omega⟩,⟨zH HB⟩⟩
           ·replace c15:=Bool.eq_false_iff.mpr c15
            subst c15
            rw [if_neg (show ¬ (false = true) by decide)] at H
            obtain rfl:=Option.some.inj H
            try go_wp2
            replace HB:=Aside0.mk (bw1 HB.1)
            have p229 : 0 ≤ (x3_1 : Int):=zd
            have q229 : x3_1 < (l0.length : Int):=zd
            obtain ⟨ad229,e229,hx229_0,hx229_1,hx229_2,hx229_3,hx229_4,hx229_5⟩:=at_T39 HR0.out x3_1 p229 q229
            have hw229_5:=hx229_5
            have hw229_4:=hx229_4
            have hw229_3:=hx229_3
            have hw229_2:=hx229_2
            have hw229_1:=hx229_1
            have hw229_0:=hx229_0
            cases e229
            replace hx229_0:=zh HB hx229_0
            replace hx229_1:=zh HB hx229_1
            replace hx229_2:=zh HB hx229_2
            replace hx229_3:=zh HB hx229_3
            replace hx229_4:=zh HB hx229_4
            replace hx229_5:=zh HB hx229_5
            replace p229:=eq_true p229
            replace q229:=eq_true q229
            have p230 : 0 ≤ (x3_1 : Int):=zd
            have q230 : x3_1 < (l0.length : Int):=zd
            obtain ⟨ad230,e230,hx230_0,hx230_1,hx230_2,hx230_3,hx230_4,hx230_5⟩:=at_T39 HR0.out x3_1 p230 q230
            have hw230_5:=hx230_5
            have hw230_4:=hx230_4
            have hw230_3:=hx230_3
            have hw230_2:=hx230_2
            have hw230_1:=hx230_1
            have hw230_0:=hx230_0
            obtain rfl : ad229 = ad230:=(by injection e230)
            replace hx230_0:=zh HB hx230_0
            replace hx230_1:=zh HB hx230_1
            replace hx230_2:=zh HB hx230_2
            replace hx230_3:=zh HB hx230_3
            replace hx230_4:=zh HB hx230_4
            replace hx230_5:=zh HB hx230_5
            replace p230:=eq_true p230
            replace q230:=eq_true q230
            have p231 : 0 ≤ (x3_1 : Int):=zd
            have q231 : x3_1 < (l0.length : Int):=zd
            obtain ⟨ad231,e231,hx231_0,hx231_1,hx231_2,hx231_3,hx231_4,hx231_5⟩:=at_T39 HR0.out x3_1 p231 q231
            have hw231_5:=hx231_5
            have hw231_4:=hx231_4
            have hw231_3:=hx231_3
            have hw231_2:=hx231_2
            have hw231_1:=hx231_1
            have hw231_0:=hx231_0
            obtain rfl : ad229 = ad231:=(by injection e231)
            replace hx231_0:=zh HB hx231_0
            replace hx231_1:=zh HB hx231_1
            replace hx231_2:=zh HB hx231_2
            replace hx231_3:=zh HB hx231_3
            replace hx231_4:=zh HB hx231_4
            replace hx231_5:=zh HB hx231_5
            replace p231:=eq_true p231
            replace q231:=eq_true q231
            have p233 : 0 ≤ ((ji11) : Int):=zd
            have q233 : (ji11) < (l0.length : Int):=zd
            obtain ⟨ad233,e233,hx233_0,hx233_1,hx233_2,hx233_3,hx233_4,hx233_5⟩:=at_T39 HR0.out (ji11) p233 q233
            have hw233_5:=hx233_5
            have hw233_4:=hx233_4
            have hw233_3:=hx233_3
            have hw233_2:=hx233_2
            have hw233_1:=hx233_1
            have hw233_0:=hx233_0
            obtain rfl : ad229 = ad233:=(by injection e233)
            replace hx233_0:=zh HB hx233_0
            replace hx233_1:=zh HB hx233_1
            replace hx233_2:=zh HB hx233_2
            replace hx233_3:=zh HB hx233_3
            replace hx233_4:=zh HB hx233_4
            replace hx233_5:=zh HB hx233_5
            replace p233:=eq_true p233
            replace q233:=eq_true q233
            have p234 : 0 ≤ (x3_1 : Int):=zd
            have q234 : x3_1 < (l0.length : Int):=zd
            obtain ⟨ad234,e234,hx234_0,hx234_1,hx234_2,hx234_3,hx234_4,hx234_5⟩:=at_T39 HR0.out x3_1 p234 q234
            have hw234_5:=hx234_5
            have hw234_4:=hx234_4
            have hw234_3:=hx234_3
            have hw234_2:=hx234_2
            have hw234_1:=hx234_1
            have hw234_0:=hx234_0
            obtain rfl : ad229 = ad234:=(by injection e234)
            replace hx234_0:=zh HB hx234_0
            replace hx234_1:=zh HB hx234_1
            replace hx234_2:=zh HB hx234_2
            replace hx234_3:=zh HB hx234_3
            replace hx234_4:=zh HB hx234_4
            replace hx234_5:=zh HB hx234_5
            replace p234:=eq_true p234
            replace q234:=eq_true q234
            refine start_ (n:=40) (S:=fun w' => w'.cell? (ad229.add ((x3_1).toNat * 6)) = some (.int .i64 ((rd_T39 l0 x3_1).f0)) ∧ w'.cell? ⟨(ad229.add ((x3_1).toNat * 6)).block,(ad229.add ((x3_1).toNat * 6)).off + 1,none⟩ = some (.int .i64 ((rd_T39 l0 x3_1).f1)) ∧ w'.cell? ⟨(ad229.add ((x3_1).toNat * 6)).block,(ad229.add ((x3_1).toNat * 6)).off + 2,none⟩ = some (.float .f64 ((rd_T39 l0 x3_1).f2)) ∧ w'.cell? ⟨(ad229.add ((x3_1).toNat * 6)).block,(ad229.add ((x3_1).toNat * 6)).off + 3,none⟩ = some (.int .i64 ((rd_T39 l0 x3_1).f3)) ∧ w'.cell? ⟨(ad229.add ((x3_1).toNat * 6)).block,(ad229.add ((x3_1).toNat * 6)).off + 4,none⟩ = some (.float .f64 ((rd_T39 l0 x3_1).f4)) ∧ w'.cell? ⟨(ad229.add ((x3_1).toNat * 6)).block,(ad229.add ((x3_1).toNat * 6)).off + 5,none⟩ = some (.int .i64 ((rd_T39 l0 x3_1).f5)) ∧ w'.cell? (ad229.add ((x3_1).toNat * 6)) = some (.int .i64 ((rd_T39 l0 x3_1).f0)) ∧ w'.cell? ⟨(ad229.add ((x3_1).toNat * 6)).block,(ad229.add ((x3_1).toNat * 6)).off + 1,none⟩ = some (.int .i64 ((rd_T39 l0 x3_1).f1)) ∧ w'.cell? ⟨(ad229.add ((x3_1).toNat * 6)).block,(ad229.add ((x3_1).toNat * 6)).off + 2,none⟩ = some (.float .f64 ((rd_T39 l0 x3_1).f2)) ∧ w'.cell? ⟨(ad229.add ((x3_1).toNat * 6)).block,(ad229.add ((x3_1).toNat * 6)).off + 3,none⟩ = some (.int .i64 ((rd_T39 l0 x3_1).f3)) ∧ w'.cell? ⟨(ad229.add ((x3_1).toNat * 6)).block,(ad229.add ((x3_1).toNat * 6)).off + 4,none⟩ = some (.float .f64 ((rd_T39 l0 x3_1).f4)) ∧ w'.cell? ⟨(ad229.add ((x3_1).toNat * 6)).block,(ad229.add ((x3_1).toNat * 6)).off + 5,none⟩ = some (.int .i64 ((rd_T39 l0 x3_1).f5)) ∧ w'.cell? (ad229.add ((x3_1).toNat * 6)) = some (.int .i64 ((rd_T39 l0 x3_1).f0)) ∧ w'.cell? ⟨(ad229.add ((x3_1).toNat * 6)).block,(ad229.add ((x3_1).toNat * 6)).off + 1,none⟩ = some (.int .i64 ((rd_T39 l0 x3_1).f1)) ∧ w'.cell? ⟨(ad229.add ((x3_1).toNat * 6)).block,(ad229.add ((x3_1).toNat * 6)).off + 2,none⟩ = some (.float .f64 ((rd_T39 l0 x3_1).f2)) ∧ w'.cell? ⟨(ad229.add ((x3_1).toNat * 6)).block,(ad229.add ((x3_1).toNat * 6)).off + 3,none⟩ = some (.int .i64 ((rd_T39 l0 x3_1).f3)) ∧ w'.cell? ⟨(ad229.add ((x3_1).toNat * 6)).block,(ad229.add ((x3_1).toNat * 6)).off + 4,none⟩ = some (.float .f64 ((rd_T39 l0 x3_1).f4)) ∧ w'.cell? ⟨(ad229.add ((x3_1).toNat * 6)).block,(ad229.add ((x3_1).toNat * 6)).off + 5,none⟩ = some (.int .i64 ((rd_T39 l0 x3_1).f5)) ∧ w'.cell? (ad229.add (((ji11)).toNat * 6)) = some (.int .i64 ((rd_T39 l0 (ji11)).f0)) ∧ w'.cell? ⟨(ad229.add (((ji11)).toNat * 6)).block,(ad229.add (((ji11)).toNat * 6)).off + 1,none⟩ = some (.int .i64 ((rd_T39 l0 (ji11)).f1)) ∧ w'.cell? ⟨(ad229.add (((ji11)).toNat * 6)).block,(ad229.add (((ji11)).toNat * 6)).off + 2,none⟩ = some (.float .f64 ((rd_T39 l0 (ji11)).f2)) ∧ w'.cell? ⟨(ad229.add (((ji11)).toNat * 6)).block,(ad229.add (((ji11)).toNat * 6)).off + 3,none⟩ = some (.int .i64 ((rd_T39 l0 (ji11)).f3)) ∧ w'.cell? ⟨(ad229.add (((ji11)).toNat * 6)).block,(ad229.add (((ji11)).toNat * 6)).off + 4,none⟩ = some (.float .f64 ((rd_T39 l0 (ji11)).f4)) ∧ w'.cell? ⟨(ad229.add (((ji11)).toNat * 6)).block,(ad229.add (((ji11)).toNat * 6)).off + 5,none⟩ = some (.int .i64 ((rd_T39 l0 (ji11)).f5)) ∧ w'.cell? (ad229.add ((x3_1).toNat * 6)) = some (.int .i64 ((rd_T39 l0 x3_1).f0)) ∧ w'.cell? ⟨(ad229.add ((x3_1).toNat * 6)).block,(ad229.add ((x3_1).toNat * 6)).off + 1,none⟩ = some (.int .i64 ((rd_T39 l0 x3_1).f1)) ∧ w'.cell? ⟨(ad229.add ((x3_1).toNat * 6)).block,(ad229.add ((x3_1).toNat * 6)).off + 2,none⟩ = some (.float .f64 ((rd_T39 l0 x3_1).f2)) ∧ w'.cell? ⟨(ad229.add ((x3_1).toNat * 6)).block,(ad229.add ((x3_1).toNat * 6)).off + 3,none⟩ = some (.int .i64 ((rd_T39 l0 x3_1).f3)) ∧ w'.cell? ⟨(ad229.add ((x3_1).toNat * 6)).block,(ad229.add ((x3_1).toNat * 6)).off + 4,none⟩ = some (.float .f64 ((rd_T39 l0 x3_1).f4)) ∧ w'.cell? ⟨(ad229.add ((x3_1).toNat * 6)).block,(ad229.add ((x3_1).toNat * 6)).off + 5,none⟩ = some (.int .i64 ((rd_T39 l0 x3_1).f5))) (ds:=[]) #[F,F,F,F,F,F,F,F,F,F,F,F,F,F,F,F,F,F,F,F,F,F,F,F,F,F,F,F,F,F,F,F,F,F,F,F,F,F,F,F] (by kernel_rfl) rfl rfl ⟨(zh HB hw229_0),(zh HB hw229_1),(zh HB hw229_2),(zh HB hw229_3),(zh HB hw229_4),(zh HB hw229_5),(zh HB hw230_0),(zh HB hw230_1),(zh HB hw230_2),(zh HB hw230_3),(zh HB hw230_4),(zh HB hw230_5),(zh HB hw231_0),(zh HB hw231_1),(zh HB hw231_2),(zh HB hw231_3),(zh HB hw231_4),(zh HB hw231_5),(zh HB hw233_0),(zh HB hw233_1),(zh HB hw233_2),(zh HB hw233_3),(zh HB hw233_4),(zh HB hw233_5),(zh HB hw234_0),(zh HB hw234_1),(zh HB hw234_2),(zh HB hw234_3),(zh HB hw234_4),(zh HB hw234_5)⟩ (fun hHeld => ?_);refine with_tabW beaconref17_may.tab4 beaconref17_may.bits4 (fun HT_ HW_ => ?_)
            generalize wr.drew = w18 at HB hx229_0 hx229_1 hx229_2 hx229_3 hx229_4 hx229_5 hx230_0 hx230_1 hx230_2 hx230_3 hx230_4 hx230_5 hx231_0 hx231_1 hx231_2 hx231_3 hx231_4 hx231_5 hx233_0 hx233_1 hx233_2 hx233_3 hx233_4 hx233_5 hx234_0 hx234_1 hx234_2 hx234_3 hx234_4 hx234_5 hHeld ⊢
            refine pz 0 10 #[T,F,F,F,F,F,F,F,F,F,F,F,F,F,F,F,F,F,F,F,F,F,F,F,F,F,F,F,F,F,F,F,F,F,F,F,F,F,F,F] HT_.1 ?_
            refine pz 1 11 #[T,T,F,F,F,F,F,F,F,F,F,F,F,F,F,F,F,F,F,F,F,F,F,F,F,F,F,F,F,F,F,F,F,F,F,F,F,F,F,F] HT_.1 ?_
            refine pz 2 12 #[T,T,T,F,F,F,F,F,F,F,F,F,F,F,F,F,F,F,F,F,F,F,F,F,F,F,F,F,F,F,F,F,F,F,F,F,F,F,F,F] HT_.1 ?_
            refine pz 3 13 #[T,T,T,T,F,F,F,F,F,F,F,F,F,F,F,F,F,F,F,F,F,F,F,F,F,F,F,F,F,F,F,F,F,F,F,F,F,F,F,F] HT_.1 ?_
            refine tz 4 14 #[T,T,T,T,T,F,F,F,F,F,F,F,F,F,F,F,F,F,F,F,F,F,F,F,F,F,F,F,F,F,F,F,F,F,F,F,F,F,F,F] HT_.1 HW_.1 hHeld ?_
            refine pz 5 15 #[T,T,T,T,T,T,F,F,F,F,F,F,F,F,F,F,F,F,F,F,F,F,F,F,F,F,F,F,F,F,F,F,F,F,F,F,F,F,F,F] HT_.1 ?_
            refine pz 6 16 #[T,T,T,T,T,T,T,F,F,F,F,F,F,F,F,F,F,F,F,F,F,F,F,F,F,F,F,F,F,F,F,F,F,F,F,F,F,F,F,F] HT_.1 ?_
            refine pz 7 17 #[T,T,T,T,T,T,T,T,F,F,F,F,F,F,F,F,F,F,F,F,F,F,F,F,F,F,F,F,F,F,F,F,F,F,F,F,F,F,F,F] HT_.1 ?_
            refine pz 8 18 #[T,T,T,T,T,T,T,T,T,F,F,F,F,F,F,F,F,F,F,F,F,F,F,F,F,F,F,F,F,F,F,F,F,F,F,F,F,F,F,F] HT_.1 ?_
            refine pz 9 19 #[T,T,T,T,T,T,T,T,T,T,F,F,F,F,F,F,F,F,F,F,F,F,F,F,F,F,F,F,F,F,F,F,F,F,F,F,F,F,F,F] HT_.1 ?_
            refine pz 10 20 #[T,T,T,T,T,T,T,T,T,T,T,F,F,F,F,F,F,F,F,F,F,F,F,F,F,F,F,F,F,F,F,F,F,F,F,F,F,F,F,F] HT_.1 ?_
            refine tz 11 21 #[T,T,T,T,T,T,T,T,T,T,T,T,F,F,F,F,F,F,F,F,F,F,F,F,F,F,F,F,F,F,F,F,F,F,F,F,F,F,F,F] HT_.1 HW_.1 hHeld ?_
            refine pz 12 22 #[T,T,T,T,T,T,T,T,T,T,T,T,T,F,F,F,F,F,F,F,F,F,F,F,F,F,F,F,F,F,F,F,F,F,F,F,F,F,F,F] HT_.1 ?_
            refine pz 13 23 #[T,T,T,T,T,T,T,T,T,T,T,T,T,T,F,F,F,F,F,F,F,F,F,F,F,F,F,F,F,F,F,F,F,F,F,F,F,F,F,F] HT_.1 ?_
            refine pz 14 24 #[T,T,T,T,T,T,T,T,T,T,T,T,T,T,T,F,F,F,F,F,F,F,F,F,F,F,F,F,F,F,F,F,F,F,F,F,F,F,F,F] HT_.1 ?_
            refine pz 15 25 #[T,T,T,T,T,T,T,T,T,T,T,T,T,T,T,T,F,F,F,F,F,F,F,F,F,F,F,F,F,F,F,F,F,F,F,F,F,F,F,F] HT_.1 ?_
            refine pz 16 26 #[T,T,T,T,T,T,T,T,T,T,T,T,T,T,T,T,T,F,F,F,F,F,F,F,F,F,F,F,F,F,F,F,F,F,F,F,F,F,F,F] HT_.1 ?_
            refine pz 17 27 #[T,T,T,T,T,T,T,T,T,T,T,T,T,T,T,T,T,T,F,F,F,F,F,F,F,F,F,F,F,F,F,F,F,F,F,F,F,F,F,F] HT_.1 ?_
            refine pz 18 28 #[T,T,T,T,T,T,T,T,T,T,T,T,T,T,T,T,T,T,T,F,F,F,F,F,F,F,F,F,F,F,F,F,F,F,F,F,F,F,F,F] HT_.1 ?_
            refine tz 19 29 #[T,T,T,T,T,T,T,T,T,T,T,T,T,T,T,T,T,T,T,T,F,F,F,F,F,F,F,F,F,F,F,F,F,F,F,F,F,F,F,F] HT_.1 HW_.1 hHeld ?_
            refine one_ (i:=20) (N:=some 30) #[T,T,T,T,T,T,T,T,T,T,T,T,T,T,T,T,T,T,T,T,T,F,F,F,F,F,F,F,F,F,F,F,F,F,F,F,F,F,F,F] rfl rfl (one_of HT_.out (by kernel_rfl)) (by decide) (fun K hK => ?_)
            refine zo_ Try.func58 #[.int .i64 ((rd_T39 l0 x3_1).f0)] ?_
            with_reducible refine (beaconref02_CheckId.calls ((rd_T39 l0 x3_1).f0) t232 _ A8.out).mono ?_
            rintro e w' ⟨rfl,⟨nd,rfl⟩⟩
            refine ⟨_,rfl,?_⟩
            refine hK.out _ _ ⟨(zh HB hw229_0),(zh HB hw229_1),(zh HB hw229_2),(zh HB hw229_3),(zh HB hw229_4),(zh HB hw229_5),(zh HB hw230_0),(zh HB hw230_1),(zh HB hw230_2),(zh HB hw230_3),(zh HB hw230_4),(zh HB hw230_5),(zh HB hw231_0),(zh HB hw231_1),(zh HB hw231_2),(zh HB hw231_3),(zh HB hw231_4),(zh HB hw231_5),(zh HB hw233_0),(zh HB hw233_1),(zh HB hw233_2),(zh HB hw233_3),(zh HB hw233_4),(zh HB hw233_5),(zh HB hw234_0),(zh HB hw234_1),(zh HB hw234_2),(zh HB hw234_3),(zh HB hw234_4),(zh HB hw234_5)⟩ (fun hHeld => ?_)
            clear hK K
            refine nz 30 ?_
            refine pz 21 31 #[T,T,T,T,T,T,T,T,T,T,T,T,T,T,T,T,T,T,T,T,T,T,F,F,F,F,F,F,F,F,F,F,F,F,F,F,F,F,F,F] HT_.1 ?_
            refine pz 22 32 #[T,T,T,T,T,T,T,T,T,T,T,T,T,T,T,T,T,T,T,T,T,T,T,F,F,F,F,F,F,F,F,F,F,F,F,F,F,F,F,F] HT_.1 ?_
            refine pz 23 33 #[T,T,T,T,T,T,T,T,T,T,T,T,T,T,T,T,T,T,T,T,T,T,T,T,F,F,F,F,F,F,F,F,F,F,F,F,F,F,F,F] HT_.1 ?_
            refine pz 24 34 #[T,T,T,T,T,T,T,T,T,T,T,T,T,T,T,T,T,T,T,T,T,T,T,T,T,F,F,F,F,F,F,F,F,F,F,F,F,F,F,F] HT_.1 ?_
            refine pz 25 35 #[T,T,T,T,T,T,T,T,T,T,T,T,T,T,T,T,T,T,T,T,T,T,T,T,T,T,F,F,F,F,F,F,F,F,F,F,F,F,F,F] HT_.1 ?_
            refine pz 26 36 #[T,T,T,T,T,T,T,T,T,T,T,T,T,T,T,T,T,T,T,T,T,T,T,T,T,T,T,F,F,F,F,F,F,F,F,F,F,F,F,F] HT_.1 ?_
            refine pz 27 37 #[T,T,T,T,T,T,T,T,T,T,T,T,T,T,T,T,T,T,T,T,T,T,T,T,T,T,T,T,F,F,F,F,F,F,F,F,F,F,F,F] HT_.1 ?_
            refine pz 28 38 #[T,T,T,T,T,T,T,T,T,T,T,T,T,T,T,T,T,T,T,T,T,T,T,T,T,T,T,T,T,F,F,F,F,F,F,F,F,F,F,F] HT_.1 ?_
            refine pz 29 39 #[T,T,T,T,T,T,T,T,T,T,T,T,T,T,T,T,T,T,T,T,T,T,T,T,T,T,T,T,T,T,F,F,F,F,F,F,F,F,F,F] HT_.1 ?_
            refine pz 30 40 #[T,T,T,T,T,T,T,T,T,T,T,T,T,T,T,T,T,T,T,T,T,T,T,T,T,T,T,T,T,T,T,F,F,F,F,F,F,F,F,F] HT_.1 ?_
            refine pz 32 42 #[T,T,T,T,T,T,T,T,T,T,T,T,T,T,T,T,T,T,T,T,T,T,T,T,T,T,T,T,T,T,T,F,T,F,F,F,F,F,F,F] HT_.1 ?_
            refine pz 33 43 #[T,T,T,T,T,T,T,T,T,T,T,T,T,T,T,T,T,T,T,T,T,T,T,T,T,T,T,T,T,T,T,F,T,T,F,F,F,F,F,F] HT_.1 ?_
            refine pz 34 44 #[T,T,T,T,T,T,T,T,T,T,T,T,T,T,T,T,T,T,T,T,T,T,T,T,T,T,T,T,T,T,T,F,T,T,T,F,F,F,F,F] HT_.1 ?_
            refine tz 31 41 #[T,T,T,T,T,T,T,T,T,T,T,T,T,T,T,T,T,T,T,T,T,T,T,T,T,T,T,T,T,T,T,T,T,T,T,F,F,F,F,F] HT_.1 HW_.1 hHeld ?_
            refine tz 35 45 #[T,T,T,T,T,T,T,T,T,T,T,T,T,T,T,T,T,T,T,T,T,T,T,T,T,T,T,T,T,T,T,T,T,T,T,T,F,F,F,F] HT_.1 HW_.1 hHeld ?_
            refine one_ (i:=36) (N:=some 46) #[T,T,T,T,T,T,T,T,T,T,T,T,T,T,T,T,T,T,T,T,T,T,T,T,T,T,T,T,T,T,T,T,T,T,T,T,T,F,F,F] rfl rfl (one_of HT_.out (by kernel_rfl)) (by decide) (fun K hK => ?_)
            refine goes_ Try.func72 (by kernel_rfl) rfl #[.agg #[.int .i64 ((rd_T39 l0 (ji11)).f0),.int .i64 ((rd_T39 l0 (ji11)).f1),.float .f64 ((rd_T39 l0 (ji11)).f2),.int .i64 ((rd_T39 l0 (ji11)).f3),.float .f64 ((rd_T39 l0 (ji11)).f4),.int .i64 ((rd_T39 l0 (ji11)).f5)],.agg #[.int .i64 ((rd_T39 l0 x3_1).f0),.int .i64 ((rd_T39 l0 x3_1).f1),.float .f64 ((rd_T39 l0 x3_1).f2),.int .i64 ((rd_T39 l0 x3_1).f3),.float .f64 ((rd_T39 l0 x3_1).f4),.int .i64 ((rd_T39 l0 x3_1).f5)]] (by rfl) rfl rfl (by (try simp only [List.map_toArray,List.map_cons,List.map_nil]);first|done|(simp only [hji11];rfl)|rfl|(simp only [List.length_drop,List.length_take];rfl)) ?_
            with_reducible refine (beaconref17_before.calls ((rd_T39 l0 (ji11)).f0) ((rd_T39 l0 (ji11)).f1) ((rd_T39 l0 (ji11)).f2) ((rd_T39 l0 (ji11)).f3) ((rd_T39 l0 (ji11)).f4) ((rd_T39 l0 (ji11)).f5) ((rd_T39 l0 x3_1).f0) ((rd_T39 l0 x3_1).f1) ((rd_T39 l0 x3_1).f2) ((rd_T39 l0 x3_1).f3) ((rd_T39 l0 x3_1).f4) ((rd_T39 l0 x3_1).f5) false _ A14.out).mono ?_
            rintro e w19 ⟨rfl,hb⟩
            refine ⟨_,rfl,?_⟩
            replace HB:=zS HB hb
            (try clear hb)
            (try clear hb2)
            (try clear hk)
            (try clear hi)
            refine hK.out _ _ ⟨(zh HB hw229_0),(zh HB hw229_1),(zh HB hw229_2),(zh HB hw229_3),(zh HB hw229_4),(zh HB hw229_5),(zh HB hw230_0),(zh HB hw230_1),(zh HB hw230_2),(zh HB hw230_3),(zh HB hw230_4),(zh HB hw230_5),(zh HB hw231_0),(zh HB hw231_1),(zh HB hw231_2),(zh HB hw231_3),(zh HB hw231_4),(zh HB hw231_5),(zh HB hw233_0),(zh HB hw233_1),(zh HB hw233_2),(zh HB hw233_3),(zh HB hw233_4),(zh HB hw233_5),(zh HB hw234_0),(zh HB hw234_1),(zh HB hw234_2),(zh HB hw234_3),(zh HB hw234_4),(zh HB hw234_5)⟩ (fun hHeld => ?_)
            clear hK K
            refine nz 46 ?_
            refine pz 37 47 #[T,T,T,T,T,T,T,T,T,T,T,T,T,T,T,T,T,T,T,T,T,T,T,T,T,T,T,T,T,T,T,T,T,T,T,T,T,T,F,F] HT_.1 ?_
            refine pz 38 48 #[T,T,T,T,T,T,T,T,T,T,T,T,T,T,T,T,T,T,T,T,T,T,T,T,T,T,T,T,T,T,T,T,T,T,T,T,T,T,T,F] HT_.1 ?_
            refine pz 39 49 #[T,T,T,T,T,T,T,T,T,T,T,T,T,T,T,T,T,T,T,T,T,T,T,T,T,T,T,T,T,T,T,T,T,T,T,T,T,T,T,T] HT_.1 ?_
            refine done_ (done_of HT_.out (by kernel_rfl)) ?_
            try go_wp2
            go_ret
            exact ⟨by first|rfl|(simp [errW_none,errW_some] <;> rfl)|(simp only [← hji11];first|rfl|(simp [errW_none,errW_some] <;> rfl))|(simp [*,errW_none,errW_some] <;> rfl),zH HB⟩
          ·rw [if_neg c13] at H
           exact absurd H (by simp)
         ·rw [if_neg c12] at H
          exact absurd H (by simp)
        ·rw [if_neg c10] at H
         have c10b0 : decide (0 < x3_1) = false:=decide_eq_false c10
         clear c10
         have H':=Aside0.mk H
         clear H
         try go_wp2
         replace HB:=Aside0.mk (bw1 HB.1)
         have p229 : 0 ≤ (x3_1 : Int):=zd
         have q229 : x3_1 < (l0.length : Int):=zd
         obtain ⟨ad229,e229,hx229_0,hx229_1,hx229_2,hx229_3,hx229_4,hx229_5⟩:=at_T39 HR0.out x3_1 p229 q229
         have hw229_5:=hx229_5
         have hw229_4:=hx229_4
         have hw229_3:=hx229_3
         have hw229_2:=hx229_2
         have hw229_1:=hx229_1
         have hw229_0:=hx229_0
         cases e229
         replace hx229_0:=zh HB hx229_0
         replace hx229_1:=zh HB hx229_1
         replace hx229_2:=zh HB hx229_2
         replace hx229_3:=zh HB hx229_3
         replace hx229_4:=zh HB hx229_4
         replace hx229_5:=zh HB hx229_5
         replace p229:=eq_true p229
         replace q229:=eq_true q229
         have p230 : 0 ≤ (x3_1 : Int):=zd
         have q230 : x3_1 < (l0.length : Int):=zd
         obtain ⟨ad230,e230,hx230_0,hx230_1,hx230_2,hx230_3,hx230_4,hx230_5⟩:=at_T39 HR0.out x3_1 p230 q230
         have hw230_5:=hx230_5
         have hw230_4:=hx230_4
         have hw230_3:=hx230_3
         have hw230_2:=hx230_2
         have hw230_1:=hx230_1
         have hw230_0:=hx230_0
         obtain rfl : ad229 = ad230:=(by injection e230)
         replace hx230_0:=zh HB hx230_0
         replace hx230_1:=zh HB hx230_1
         replace hx230_2:=zh HB hx230_2
         replace hx230_3:=zh HB hx230_3
         replace hx230_4:=zh HB hx230_4
         replace hx230_5:=zh HB hx230_5
         replace p230:=eq_true p230
         replace q230:=eq_true q230
         have p231 : 0 ≤ (x3_1 : Int):=zd
         have q231 : x3_1 < (l0.length : Int):=zd
         obtain ⟨ad231,e231,hx231_0,hx231_1,hx231_2,hx231_3,hx231_4,hx231_5⟩:=at_T39 HR0.out x3_1 p231 q231
         have hw231_5:=hx231_5
         have hw231_4:=hx231_4
         have hw231_3:=hx231_3
         have hw231_2:=hx231_2
         have hw231_1:=hx231_1
         have hw231_0:=hx231_0
         obtain rfl : ad229 = ad231:=(by injection e231)
         replace hx231_0:=zh HB hx231_0
         replace hx231_1:=zh HB hx231_1
         replace hx231_2:=zh HB hx231_2
         replace hx231_3:=zh HB hx231_3
         replace hx231_4:=zh HB hx231_4
         replace hx231_5:=zh HB hx231_5
         replace p231:=eq_true p231
         replace q231:=eq_true q231
         refine start_ (n:=40) (S:=fun w' => w'.cell? (ad229.add ((x3_1).toNat * 6)) = some (.int .i64 ((rd_T39 l0 x3_1).f0)) ∧ w'.cell? ⟨(ad229.add ((x3_1).toNat * 6)).block,(ad229.add ((x3_1).toNat * 6)).off + 1,none⟩ = some (.int .i64 ((rd_T39 l0 x3_1).f1)) ∧ w'.cell? ⟨(ad229.add ((x3_1).toNat * 6)).block,(ad229.add ((x3_1).toNat * 6)).off + 2,none⟩ = some (.float .f64 ((rd_T39 l0 x3_1).f2)) ∧ w'.cell? ⟨(ad229.add ((x3_1).toNat * 6)).block,(ad229.add ((x3_1).toNat * 6)).off + 3,none⟩ = some (.int .i64 ((rd_T39 l0 x3_1).f3)) ∧ w'.cell? ⟨(ad229.add ((x3_1).toNat * 6)).block,(ad229.add ((x3_1).toNat * 6)).off + 4,none⟩ = some (.float .f64 ((rd_T39 l0 x3_1).f4)) ∧ w'.cell? ⟨(ad229.add ((x3_1).toNat * 6)).block,(ad229.add ((x3_1).toNat * 6)).off + 5,none⟩ = some (.int .i64 ((rd_T39 l0 x3_1).f5)) ∧ w'.cell? (ad229.add ((x3_1).toNat * 6)) = some (.int .i64 ((rd_T39 l0 x3_1).f0)) ∧ w'.cell? ⟨(ad229.add ((x3_1).toNat * 6)).block,(ad229.add ((x3_1).toNat * 6)).off + 1,none⟩ = some (.int .i64 ((rd_T39 l0 x3_1).f1)) ∧ w'.cell? ⟨(ad229.add ((x3_1).toNat * 6)).block,(ad229.add ((x3_1).toNat * 6)).off + 2,none⟩ = some (.float .f64 ((rd_T39 l0 x3_1).f2)) ∧ w'.cell? ⟨(ad229.add ((x3_1).toNat * 6)).block,(ad229.add ((x3_1).toNat * 6)).off + 3,none⟩ = some (.int .i64 ((rd_T39 l0 x3_1).f3)) ∧ w'.cell? ⟨(ad229.add ((x3_1).toNat * 6)).block,(ad229.add ((x3_1).toNat * 6)).off + 4,none⟩ = some (.float .f64 ((rd_T39 l0 x3_1).f4)) ∧ w'.cell? ⟨(ad229.add ((x3_1).toNat * 6)).block,(ad229.add ((x3_1).toNat * 6)).off + 5,none⟩ = some (.int .i64 ((rd_T39 l0 x3_1).f5)) ∧ w'.cell? (ad229.add ((x3_1).toNat * 6)) = some (.int .i64 ((rd_T39 l0 x3_1).f0)) ∧ w'.cell? ⟨(ad229.add ((x3_1).toNat * 6)).block,(ad229.add ((x3_1).toNat * 6)).off + 1,none⟩ = some (.int .i64 ((rd_T39 l0 x3_1).f1)) ∧ w'.cell? ⟨(ad229.add ((x3_1).toNat * 6)).block,(ad229.add ((x3_1).toNat * 6)).off + 2,none⟩ = some (.float .f64 ((rd_T39 l0 x3_1).f2)) ∧ w'.cell? ⟨(ad229.add ((x3_1).toNat * 6)).block,(ad229.add ((x3_1).toNat * 6)).off + 3,none⟩ = some (.int .i64 ((rd_T39 l0 x3_1).f3)) ∧ w'.cell? ⟨(ad229.add ((x3_1).toNat * 6)).block,(ad229.add ((x3_1).toNat * 6)).off + 4,none⟩ = some (.float .f64 ((rd_T39 l0 x3_1).f4)) ∧ w'.cell? ⟨(ad229.add ((x3_1).toNat * 6)).block,(ad229.add ((x3_1).toNat * 6)).off + 5,none⟩ = some (.int .i64 ((rd_T39 l0 x3_1).f5))) (ds:=[]) #[F,F,F,F,F,F,F,F,F,F,F,F,F,F,F,F,F,F,F,F,F,F,F,F,F,F,F,F,F,F,F,F,F,F,F,F,F,F,F,F] (by kernel_rfl) rfl rfl ⟨(zh HB hw229_0),(zh HB hw229_1),(zh HB hw229_2),(zh HB hw229_3),(zh HB hw229_4),(zh HB hw229_5),(zh HB hw230_0),(zh HB hw230_1),(zh HB hw230_2),(zh HB hw230_3),(zh HB hw230_4),(zh HB hw230_5),(zh HB hw231_0),(zh HB hw231_1),(zh HB hw231_2),(zh HB hw231_3),(zh HB hw231_4),(zh HB hw231_5)⟩ (fun hHeld => ?_);refine with_tabW beaconref17_may.tab4 beaconref17_may.bits4 (fun HT_ HW_ => ?_)
         generalize wr.drew = w20 at HB hx229_0 hx229_1 hx229_2 hx229_3 hx229_4 hx229_5 hx230_0 hx230_1 hx230_2 hx230_3 hx230_4 hx230_5 hx231_0 hx231_1 hx231_2 hx231_3 hx231_4 hx231_5 hHeld ⊢
         refine pz 0 10 #[T,F,F,F,F,F,F,F,F,F,F,F,F,F,F,F,F,F,F,F,F,F,F,F,F,F,F,F,F,F,F,F,F,F,F,F,F,F,F,F] HT_.1 ?_
         refine pz 1 11 #[T,T,F,F,F,F,F,F,F,F,F,F,F,F,F,F,F,F,F,F,F,F,F,F,F,F,F,F,F,F,F,F,F,F,F,F,F,F,F,F] HT_.1 ?_
         refine pz 2 12 #[T,T,T,F,F,F,F,F,F,F,F,F,F,F,F,F,F,F,F,F,F,F,F,F,F,F,F,F,F,F,F,F,F,F,F,F,F,F,F,F] HT_.1 ?_
         refine pz 3 13 #[T,T,T,T,F,F,F,F,F,F,F,F,F,F,F,F,F,F,F,F,F,F,F,F,F,F,F,F,F,F,F,F,F,F,F,F,F,F,F,F] HT_.1 ?_
         refine tz 4 14 #[T,T,T,T,T,F,F,F,F,F,F,F,F,F,F,F,F,F,F,F,F,F,F,F,F,F,F,F,F,F,F,F,F,F,F,F,F,F,F,F] HT_.1 HW_.1 hHeld ?_
         refine pz 5 15 #[T,T,T,T,T,T,F,F,F,F,F,F,F,F,F,F,F,F,F,F,F,F,F,F,F,F,F,F,F,F,F,F,F,F,F,F,F,F,F,F] HT_.1 ?_
         refine pz 6 16 #[T,T,T,T,T,T,T,F,F,F,F,F,F,F,F,F,F,F,F,F,F,F,F,F,F,F,F,F,F,F,F,F,F,F,F,F,F,F,F,F] HT_.1 ?_
         refine pz 7 17 #[T,T,T,T,T,T,T,T,F,F,F,F,F,F,F,F,F,F,F,F,F,F,F,F,F,F,F,F,F,F,F,F,F,F,F,F,F,F,F,F] HT_.1 ?_
         refine pz 8 18 #[T,T,T,T,T,T,T,T,T,F,F,F,F,F,F,F,F,F,F,F,F,F,F,F,F,F,F,F,F,F,F,F,F,F,F,F,F,F,F,F] HT_.1 ?_
         refine pz 9 19 #[T,T,T,T,T,T,T,T,T,T,F,F,F,F,F,F,F,F,F,F,F,F,F,F,F,F,F,F,F,F,F,F,F,F,F,F,F,F,F,F] HT_.1 ?_
         refine pz 10 20 #[T,T,T,T,T,T,T,T,T,T,T,F,F,F,F,F,F,F,F,F,F,F,F,F,F,F,F,F,F,F,F,F,F,F,F,F,F,F,F,F] HT_.1 ?_
         refine tz 11 21 #[T,T,T,T,T,T,T,T,T,T,T,T,F,F,F,F,F,F,F,F,F,F,F,F,F,F,F,F,F,F,F,F,F,F,F,F,F,F,F,F] HT_.1 HW_.1 hHeld ?_
         refine pz 12 22 #[T,T,T,T,T,T,T,T,T,T,T,T,T,F,F,F,F,F,F,F,F,F,F,F,F,F,F,F,F,F,F,F,F,F,F,F,F,F,F,F] HT_.1 ?_
         refine pz 13 23 #[T,T,T,T,T,T,T,T,T,T,T,T,T,T,F,F,F,F,F,F,F,F,F,F,F,F,F,F,F,F,F,F,F,F,F,F,F,F,F,F] HT_.1 ?_
         refine pz 14 24 #[T,T,T,T,T,T,T,T,T,T,T,T,T,T,T,F,F,F,F,F,F,F,F,F,F,F,F,F,F,F,F,F,F,F,F,F,F,F,F,F] HT_.1 ?_
         refine pz 15 25 #[T,T,T,T,T,T,T,T,T,T,T,T,T,T,T,T,F,F,F,F,F,F,F,F,F,F,F,F,F,F,F,F,F,F,F,F,F,F,F,F] HT_.1 ?_
         refine pz 16 26 #[T,T,T,T,T,T,T,T,T,T,T,T,T,T,T,T,T,F,F,F,F,F,F,F,F,F,F,F,F,F,F,F,F,F,F,F,F,F,F,F] HT_.1 ?_
         refine pz 17 27 #[T,T,T,T,T,T,T,T,T,T,T,T,T,T,T,T,T,T,F,F,F,F,F,F,F,F,F,F,F,F,F,F,F,F,F,F,F,F,F,F] HT_.1 ?_
         refine pz 18 28 #[T,T,T,T,T,T,T,T,T,T,T,T,T,T,T,T,T,T,T,F,F,F,F,F,F,F,F,F,F,F,F,F,F,F,F,F,F,F,F,F] HT_.1 ?_
         refine tz 19 29 #[T,T,T,T,T,T,T,T,T,T,T,T,T,T,T,T,T,T,T,T,F,F,F,F,F,F,F,F,F,F,F,F,F,F,F,F,F,F,F,F] HT_.1 HW_.1 hHeld ?_
         refine one_ (i:=20) (N:=some 30) #[T,T,T,T,T,T,T,T,T,T,T,T,T,T,T,T,T,T,T,T,T,F,F,F,F,F,F,F,F,F,F,F,F,F,F,F,F,F,F,F] rfl rfl (one_of HT_.out (by kernel_rfl)) (by decide) (fun K hK => ?_)
         refine zo_ Try.func58 #[.int .i64 ((rd_T39 l0 x3_1).f0)] ?_
         with_reducible refine (beaconref02_CheckId.calls ((rd_T39 l0 x3_1).f0) t232 _ A8.out).mono ?_
         rintro e w' ⟨rfl,⟨nd,rfl⟩⟩
         refine ⟨_,rfl,?_⟩
         refine hK.out _ _ ⟨(zh HB hw229_0),(zh HB hw229_1),(zh HB hw229_2),(zh HB hw229_3),(zh HB hw229_4),(zh HB hw229_5),(zh HB hw230_0),(zh HB hw230_1),(zh HB hw230_2),(zh HB hw230_3),(zh HB hw230_4),(zh HB hw230_5),(zh HB hw231_0),(zh HB hw231_1),(zh HB hw231_2),(zh HB hw231_3),(zh HB hw231_4),(zh HB hw231_5)⟩ (fun hHeld => ?_)
         clear hK K
         refine nz 30 ?_
         refine pz 21 31 #[T,T,T,T,T,T,T,T,T,T,T,T,T,T,T,T,T,T,T,T,T,T,F,F,F,F,F,F,F,F,F,F,F,F,F,F,F,F,F,F] HT_.1 ?_
         refine pz 22 32 #[T,T,T,T,T,T,T,T,T,T,T,T,T,T,T,T,T,T,T,T,T,T,T,F,F,F,F,F,F,F,F,F,F,F,F,F,F,F,F,F] HT_.1 ?_
         refine pz 23 33 #[T,T,T,T,T,T,T,T,T,T,T,T,T,T,T,T,T,T,T,T,T,T,T,T,F,F,F,F,F,F,F,F,F,F,F,F,F,F,F,F] HT_.1 ?_
         refine pz 24 34 #[T,T,T,T,T,T,T,T,T,T,T,T,T,T,T,T,T,T,T,T,T,T,T,T,T,F,F,F,F,F,F,F,F,F,F,F,F,F,F,F] HT_.1 ?_
         refine pz 25 35 #[T,T,T,T,T,T,T,T,T,T,T,T,T,T,T,T,T,T,T,T,T,T,T,T,T,T,F,F,F,F,F,F,F,F,F,F,F,F,F,F] HT_.1 ?_
         refine pz 26 36 #[T,T,T,T,T,T,T,T,T,T,T,T,T,T,T,T,T,T,T,T,T,T,T,T,T,T,T,F,F,F,F,F,F,F,F,F,F,F,F,F] HT_.1 ?_
         refine pu 27 37 #[T,T,T,T,T,T,T,T,T,T,T,T,T,T,T,T,T,T,T,T,T,T,T,T,T,T,T,T,F,F,F,F,F,F,F,F,F,F,F,F] HT_.1 ?_
         refine pu 28 38 #[T,T,T,T,T,T,T,T,T,T,T,T,T,T,T,T,T,T,T,T,T,T,T,T,T,T,T,T,T,F,F,F,F,F,F,F,F,F,F,F] HT_.1 ?_
         refine pu 29 39 #[T,T,T,T,T,T,T,T,T,T,T,T,T,T,T,T,T,T,T,T,T,T,T,T,T,T,T,T,T,T,F,F,F,F,F,F,F,F,F,F] HT_.1 ?_
         refine pu 30 40 #[T,T,T,T,T,T,T,T,T,T,T,T,T,T,T,T,T,T,T,T,T,T,T,T,T,T,T,T,T,T,T,F,F,F,F,F,F,F,F,F] HT_.1 ?_
         refine pu 31 41 #[T,T,T,T,T,T,T,T,T,T,T,T,T,T,T,T,T,T,T,T,T,T,T,T,T,T,T,T,T,T,T,T,F,F,F,F,F,F,F,F] HT_.1 ?_
         refine pu 32 42 #[T,T,T,T,T,T,T,T,T,T,T,T,T,T,T,T,T,T,T,T,T,T,T,T,T,T,T,T,T,T,T,T,T,F,F,F,F,F,F,F] HT_.1 ?_
         refine pu 33 43 #[T,T,T,T,T,T,T,T,T,T,T,T,T,T,T,T,T,T,T,T,T,T,T,T,T,T,T,T,T,T,T,T,T,T,F,F,F,F,F,F] HT_.1 ?_
         refine pu 34 44 #[T,T,T,T,T,T,T,T,T,T,T,T,T,T,T,T,T,T,T,T,T,T,T,T,T,T,T,T,T,T,T,T,T,T,T,F,F,F,F,F] HT_.1 ?_
         refine pu 35 45 #[T,T,T,T,T,T,T,T,T,T,T,T,T,T,T,T,T,T,T,T,T,T,T,T,T,T,T,T,T,T,T,T,T,T,T,T,F,F,F,F] HT_.1 ?_
         refine pu 36 46 #[T,T,T,T,T,T,T,T,T,T,T,T,T,T,T,T,T,T,T,T,T,T,T,T,T,T,T,T,T,T,T,T,T,T,T,T,T,F,F,F] HT_.1 ?_
         refine pu 37 47 #[T,T,T,T,T,T,T,T,T,T,T,T,T,T,T,T,T,T,T,T,T,T,T,T,T,T,T,T,T,T,T,T,T,T,T,T,T,T,F,F] HT_.1 ?_
         refine pz 38 48 #[T,T,T,T,T,T,T,T,T,T,T,T,T,T,T,T,T,T,T,T,T,T,T,T,T,T,T,T,T,T,T,T,T,T,T,T,T,T,T,F] HT_.1 ?_
         refine pz 39 49 #[T,T,T,T,T,T,T,T,T,T,T,T,T,T,T,T,T,T,T,T,T,T,T,T,T,T,T,T,T,T,T,T,T,T,T,T,T,T,T,T] HT_.1 ?_
         refine done_ (done_of HT_.out (by kernel_rfl)) ?_
         try go_wp2
         go_roundg k1
         case measure => have:=HK1.out;omega
         case rel => exact ⟨(wrap64 (x3_1 + 1)),ze,H',⟨by have:=HK1.out;omega⟩,⟨zH HB⟩⟩
       ·rw [if_neg c9] at H
        have c9b0 : (t232 == 0) = false:=beq_eq_false_iff_ne.mpr c9
        have c9b1 : (t232 != 0) = true:=bne_iff_ne.mpr c9
        obtain rfl:=Option.some.inj H
        try go_wp2
        replace HB:=Aside0.mk (bw1 HB.1)
        have p229 : 0 ≤ (x3_1 : Int):=zd
        have q229 : x3_1 < (l0.length : Int):=zd
        obtain ⟨ad229,e229,hx229_0,hx229_1,hx229_2,hx229_3,hx229_4,hx229_5⟩:=at_T39 HR0.out x3_1 p229 q229
        have hw229_5:=hx229_5
        have hw229_4:=hx229_4
        have hw229_3:=hx229_3
        have hw229_2:=hx229_2
        have hw229_1:=hx229_1
        have hw229_0:=hx229_0
        cases e229
        replace hx229_0:=zh HB hx229_0
        replace hx229_1:=zh HB hx229_1
        replace hx229_2:=zh HB hx229_2
        replace hx229_3:=zh HB hx229_3
        replace hx229_4:=zh HB hx229_4
        replace hx229_5:=zh HB hx229_5
        replace p229:=eq_true p229
        replace q229:=eq_true q229
        have p230 : 0 ≤ (x3_1 : Int):=zd
        have q230 : x3_1 < (l0.length : Int):=zd
        obtain ⟨ad230,e230,hx230_0,hx230_1,hx230_2,hx230_3,hx230_4,hx230_5⟩:=at_T39 HR0.out x3_1 p230 q230
        have hw230_5:=hx230_5
        have hw230_4:=hx230_4
        have hw230_3:=hx230_3
        have hw230_2:=hx230_2
        have hw230_1:=hx230_1
        have hw230_0:=hx230_0
        obtain rfl : ad229 = ad230:=(by injection e230)
        replace hx230_0:=zh HB hx230_0
        replace hx230_1:=zh HB hx230_1
        replace hx230_2:=zh HB hx230_2
        replace hx230_3:=zh HB hx230_3
        replace hx230_4:=zh HB hx230_4
        replace hx230_5:=zh HB hx230_5
        replace p230:=eq_true p230
        replace q230:=eq_true q230
        have p231 : 0 ≤ (x3_1 : Int):=zd
        have q231 : x3_1 < (l0.length : Int):=zd
        obtain ⟨ad231,e231,hx231_0,hx231_1,hx231_2,hx231_3,hx231_4,hx231_5⟩:=at_T39 HR0.out x3_1 p231 q231
        have hw231_5:=hx231_5
        have hw231_4:=hx231_4
        have hw231_3:=hx231_3
        have hw231_2:=hx231_2
        have hw231_1:=hx231_1
        have hw231_0:=hx231_0
        obtain rfl : ad229 = ad231:=(by injection e231)
        replace hx231_0:=zh HB hx231_0
        replace hx231_1:=zh HB hx231_1
        replace hx231_2:=zh HB hx231_2
        replace hx231_3:=zh HB hx231_3
        replace hx231_4:=zh HB hx231_4
        replace hx231_5:=zh HB hx231_5
        replace p231:=eq_true p231
        replace q231:=eq_true q231
        refine start_ (n:=40) (S:=fun w' => w'.cell? (ad229.add ((x3_1).toNat * 6)) = some (.int .i64 ((rd_T39 l0 x3_1).f0)) ∧ w'.cell? ⟨(ad229.add ((x3_1).toNat * 6)).block,(ad229.add ((x3_1).toNat * 6)).off + 1,none⟩ = some (.int .i64 ((rd_T39 l0 x3_1).f1)) ∧ w'.cell? ⟨(ad229.add ((x3_1).toNat * 6)).block,(ad229.add ((x3_1).toNat * 6)).off + 2,none⟩ = some (.float .f64 ((rd_T39 l0 x3_1).f2)) ∧ w'.cell? ⟨(ad229.add ((x3_1).toNat * 6)).block,(ad229.add ((x3_1).toNat * 6)).off + 3,none⟩ = some (.int .i64 ((rd_T39 l0 x3_1).f3)) ∧ w'.cell? ⟨(ad229.add ((x3_1).toNat * 6)).block,(ad229.add ((x3_1).toNat * 6)).off + 4,none⟩ = some (.float .f64 ((rd_T39 l0 x3_1).f4)) ∧ w'.cell? ⟨(ad229.add ((x3_1).toNat * 6)).block,(ad229.add ((x3_1).toNat * 6)).off + 5,none⟩ = some (.int .i64 ((rd_T39 l0 x3_1).f5)) ∧ w'.cell? (ad229.add ((x3_1).toNat * 6)) = some (.int .i64 ((rd_T39 l0 x3_1).f0)) ∧ w'.cell? ⟨(ad229.add ((x3_1).toNat * 6)).block,(ad229.add ((x3_1).toNat * 6)).off + 1,none⟩ = some (.int .i64 ((rd_T39 l0 x3_1).f1)) ∧ w'.cell? ⟨(ad229.add ((x3_1).toNat * 6)).block,(ad229.add ((x3_1).toNat * 6)).off + 2,none⟩ = some (.float .f64 ((rd_T39 l0 x3_1).f2)) ∧ w'.cell? ⟨(ad229.add ((x3_1).toNat * 6)).block,(ad229.add ((x3_1).toNat * 6)).off + 3,none⟩ = some (.int .i64 ((rd_T39 l0 x3_1).f3)) ∧ w'.cell? ⟨(ad229.add ((x3_1).toNat * 6)).block,(ad229.add ((x3_1).toNat * 6)).off + 4,none⟩ = some (.float .f64 ((rd_T39 l0 x3_1).f4)) ∧ w'.cell? ⟨(ad229.add ((x3_1).toNat * 6)).block,(ad229.add ((x3_1).toNat * 6)).off + 5,none⟩ = some (.int .i64 ((rd_T39 l0 x3_1).f5)) ∧ w'.cell? (ad229.add ((x3_1).toNat * 6)) = some (.int .i64 ((rd_T39 l0 x3_1).f0)) ∧ w'.cell? ⟨(ad229.add ((x3_1).toNat * 6)).block,(ad229.add ((x3_1).toNat * 6)).off + 1,none⟩ = some (.int .i64 ((rd_T39 l0 x3_1).f1)) ∧ w'.cell? ⟨(ad229.add ((x3_1).toNat * 6)).block,(ad229.add ((x3_1).toNat * 6)).off + 2,none⟩ = some (.float .f64 ((rd_T39 l0 x3_1).f2)) ∧ w'.cell? ⟨(ad229.add ((x3_1).toNat * 6)).block,(ad229.add ((x3_1).toNat * 6)).off + 3,none⟩ = some (.int .i64 ((rd_T39 l0 x3_1).f3)) ∧ w'.cell? ⟨(ad229.add ((x3_1).toNat * 6)).block,(ad229.add ((x3_1).toNat * 6)).off + 4,none⟩ = some (.float .f64 ((rd_T39 l0 x3_1).f4)) ∧ w'.cell? ⟨(ad229.add ((x3_1).toNat * 6)).block,(ad229.add ((x3_1).toNat * 6)).off + 5,none⟩ = some (.int .i64 ((rd_T39 l0 x3_1).f5))) (ds:=[]) #[F,F,F,F,F,F,F,F,F,F,F,F,F,F,F,F,F,F,F,F,F,F,F,F,F,F,F,F,F,F,F,F,F,F,F,F,F,F,F,F] (by kernel_rfl) rfl rfl ⟨(zh HB hw229_0),(zh HB hw229_1),(zh HB hw229_2),(zh HB hw229_3),(zh HB hw229_4),(zh HB hw229_5),(zh HB hw230_0),(zh HB hw230_1),(zh HB hw230_2),(zh HB hw230_3),(zh HB hw230_4),(zh HB hw230_5),(zh HB hw231_0),(zh HB hw231_1),(zh HB hw231_2),(zh HB hw231_3),(zh HB hw231_4),(zh HB hw231_5)⟩ (fun hHeld => ?_);refine with_tabW beaconref17_may.tab4 beaconref17_may.bits4 (fun HT_ HW_ => ?_)
        generalize wr.drew = w21 at HB hx229_0 hx229_1 hx229_2 hx229_3 hx229_4 hx229_5 hx230_0 hx230_1 hx230_2 hx230_3 hx230_4 hx230_5 hx231_0 hx231_1 hx231_2 hx231_3 hx231_4 hx231_5 hHeld ⊢
        refine pz 0 10 #[T,F,F,F,F,F,F,F,F,F,F,F,F,F,F,F,F,F,F,F,F,F,F,F,F,F,F,F,F,F,F,F,F,F,F,F,F,F,F,F] HT_.1 ?_
        refine pz 1 11 #[T,T,F,F,F,F,F,F,F,F,F,F,F,F,F,F,F,F,F,F,F,F,F,F,F,F,F,F,F,F,F,F,F,F,F,F,F,F,F,F] HT_.1 ?_
        refine pz 2 12 #[T,T,T,F,F,F,F,F,F,F,F,F,F,F,F,F,F,F,F,F,F,F,F,F,F,F,F,F,F,F,F,F,F,F,F,F,F,F,F,F] HT_.1 ?_
        refine pz 3 13 #[T,T,T,T,F,F,F,F,F,F,F,F,F,F,F,F,F,F,F,F,F,F,F,F,F,F,F,F,F,F,F,F,F,F,F,F,F,F,F,F] HT_.1 ?_
        refine tz 4 14 #[T,T,T,T,T,F,F,F,F,F,F,F,F,F,F,F,F,F,F,F,F,F,F,F,F,F,F,F,F,F,F,F,F,F,F,F,F,F,F,F] HT_.1 HW_.1 hHeld ?_
        refine pz 5 15 #[T,T,T,T,T,T,F,F,F,F,F,F,F,F,F,F,F,F,F,F,F,F,F,F,F,F,F,F,F,F,F,F,F,F,F,F,F,F,F,F] HT_.1 ?_
        refine pz 6 16 #[T,T,T,T,T,T,T,F,F,F,F,F,F,F,F,F,F,F,F,F,F,F,F,F,F,F,F,F,F,F,F,F,F,F,F,F,F,F,F,F] HT_.1 ?_
        refine pz 7 17 #[T,T,T,T,T,T,T,T,F,F,F,F,F,F,F,F,F,F,F,F,F,F,F,F,F,F,F,F,F,F,F,F,F,F,F,F,F,F,F,F] HT_.1 ?_
        refine pz 8 18 #[T,T,T,T,T,T,T,T,T,F,F,F,F,F,F,F,F,F,F,F,F,F,F,F,F,F,F,F,F,F,F,F,F,F,F,F,F,F,F,F] HT_.1 ?_
        refine pz 9 19 #[T,T,T,T,T,T,T,T,T,T,F,F,F,F,F,F,F,F,F,F,F,F,F,F,F,F,F,F,F,F,F,F,F,F,F,F,F,F,F,F] HT_.1 ?_
        refine pz 10 20 #[T,T,T,T,T,T,T,T,T,T,T,F,F,F,F,F,F,F,F,F,F,F,F,F,F,F,F,F,F,F,F,F,F,F,F,F,F,F,F,F] HT_.1 ?_
        refine tz 11 21 #[T,T,T,T,T,T,T,T,T,T,T,T,F,F,F,F,F,F,F,F,F,F,F,F,F,F,F,F,F,F,F,F,F,F,F,F,F,F,F,F] HT_.1 HW_.1 hHeld ?_
        refine pz 12 22 #[T,T,T,T,T,T,T,T,T,T,T,T,T,F,F,F,F,F,F,F,F,F,F,F,F,F,F,F,F,F,F,F,F,F,F,F,F,F,F,F] HT_.1 ?_
        refine pz 13 23 #[T,T,T,T,T,T,T,T,T,T,T,T,T,T,F,F,F,F,F,F,F,F,F,F,F,F,F,F,F,F,F,F,F,F,F,F,F,F,F,F] HT_.1 ?_
        refine pz 14 24 #[T,T,T,T,T,T,T,T,T,T,T,T,T,T,T,F,F,F,F,F,F,F,F,F,F,F,F,F,F,F,F,F,F,F,F,F,F,F,F,F] HT_.1 ?_
        refine pz 15 25 #[T,T,T,T,T,T,T,T,T,T,T,T,T,T,T,T,F,F,F,F,F,F,F,F,F,F,F,F,F,F,F,F,F,F,F,F,F,F,F,F] HT_.1 ?_
        refine pz 16 26 #[T,T,T,T,T,T,T,T,T,T,T,T,T,T,T,T,T,F,F,F,F,F,F,F,F,F,F,F,F,F,F,F,F,F,F,F,F,F,F,F] HT_.1 ?_
        refine pz 17 27 #[T,T,T,T,T,T,T,T,T,T,T,T,T,T,T,T,T,T,F,F,F,F,F,F,F,F,F,F,F,F,F,F,F,F,F,F,F,F,F,F] HT_.1 ?_
        refine pz 18 28 #[T,T,T,T,T,T,T,T,T,T,T,T,T,T,T,T,T,T,T,F,F,F,F,F,F,F,F,F,F,F,F,F,F,F,F,F,F,F,F,F] HT_.1 ?_
        refine tz 19 29 #[T,T,T,T,T,T,T,T,T,T,T,T,T,T,T,T,T,T,T,T,F,F,F,F,F,F,F,F,F,F,F,F,F,F,F,F,F,F,F,F] HT_.1 HW_.1 hHeld ?_
        refine one_ (i:=20) (N:=some 30) #[T,T,T,T,T,T,T,T,T,T,T,T,T,T,T,T,T,T,T,T,T,F,F,F,F,F,F,F,F,F,F,F,F,F,F,F,F,F,F,F] rfl rfl (one_of HT_.out (by kernel_rfl)) (by decide) (fun K hK => ?_)
        refine zo_ Try.func58 #[.int .i64 ((rd_T39 l0 x3_1).f0)] ?_
        with_reducible refine (beaconref02_CheckId.calls ((rd_T39 l0 x3_1).f0) t232 _ A8.out).mono ?_
        rintro e w' ⟨rfl,⟨nd,rfl⟩⟩
        refine ⟨_,rfl,?_⟩
        refine hK.out _ _ ⟨(zh HB hw229_0),(zh HB hw229_1),(zh HB hw229_2),(zh HB hw229_3),(zh HB hw229_4),(zh HB hw229_5),(zh HB hw230_0),(zh HB hw230_1),(zh HB hw230_2),(zh HB hw230_3),(zh HB hw230_4),(zh HB hw230_5),(zh HB hw231_0),(zh HB hw231_1),(zh HB hw231_2),(zh HB hw231_3),(zh HB hw231_4),(zh HB hw231_5)⟩ (fun hHeld => ?_)
        clear hK K
        refine nz 30 ?_
        refine pz 21 31 #[T,T,T,T,T,T,T,T,T,T,T,T,T,T,T,T,T,T,T,T,T,T,F,F,F,F,F,F,F,F,F,F,F,F,F,F,F,F,F,F] HT_.1 ?_
        refine pz 22 32 #[T,T,T,T,T,T,T,T,T,T,T,T,T,T,T,T,T,T,T,T,T,T,T,F,F,F,F,F,F,F,F,F,F,F,F,F,F,F,F,F] HT_.1 ?_
        refine pz 23 33 #[T,T,T,T,T,T,T,T,T,T,T,T,T,T,T,T,T,T,T,T,T,T,T,T,F,F,F,F,F,F,F,F,F,F,F,F,F,F,F,F] HT_.1 ?_
        refine pu 24 34 #[T,T,T,T,T,T,T,T,T,T,T,T,T,T,T,T,T,T,T,T,T,T,T,T,T,F,F,F,F,F,F,F,F,F,F,F,F,F,F,F] HT_.1 ?_
        refine pu 25 35 #[T,T,T,T,T,T,T,T,T,T,T,T,T,T,T,T,T,T,T,T,T,T,T,T,T,T,F,F,F,F,F,F,F,F,F,F,F,F,F,F] HT_.1 ?_
        refine pu 26 36 #[T,T,T,T,T,T,T,T,T,T,T,T,T,T,T,T,T,T,T,T,T,T,T,T,T,T,T,F,F,F,F,F,F,F,F,F,F,F,F,F] HT_.1 ?_
        refine pu 27 37 #[T,T,T,T,T,T,T,T,T,T,T,T,T,T,T,T,T,T,T,T,T,T,T,T,T,T,T,T,F,F,F,F,F,F,F,F,F,F,F,F] HT_.1 ?_
        refine pu 28 38 #[T,T,T,T,T,T,T,T,T,T,T,T,T,T,T,T,T,T,T,T,T,T,T,T,T,T,T,T,T,F,F,F,F,F,F,F,F,F,F,F] HT_.1 ?_
        refine pu 29 39 #[T,T,T,T,T,T,T,T,T,T,T,T,T,T,T,T,T,T,T,T,T,T,T,T,T,T,T,T,T,T,F,F,F,F,F,F,F,F,F,F] HT_.1 ?_
        refine pu 30 40 #[T,T,T,T,T,T,T,T,T,T,T,T,T,T,T,T,T,T,T,T,T,T,T,T,T,T,T,T,T,T,T,F,F,F,F,F,F,F,F,F] HT_.1 ?_
        refine pu 31 41 #[T,T,T,T,T,T,T,T,T,T,T,T,T,T,T,T,T,T,T,T,T,T,T,T,T,T,T,T,T,T,T,T,F,F,F,F,F,F,F,F] HT_.1 ?_
        refine pu 32 42 #[T,T,T,T,T,T,T,T,T,T,T,T,T,T,T,T,T,T,T,T,T,T,T,T,T,T,T,T,T,T,T,T,T,F,F,F,F,F,F,F] HT_.1 ?_
        refine pu 33 43 #[T,T,T,T,T,T,T,T,T,T,T,T,T,T,T,T,T,T,T,T,T,T,T,T,T,T,T,T,T,T,T,T,T,T,F,F,F,F,F,F] HT_.1 ?_
        refine pu 34 44 #[T,T,T,T,T,T,T,T,T,T,T,T,T,T,T,T,T,T,T,T,T,T,T,T,T,T,T,T,T,T,T,T,T,T,T,F,F,F,F,F] HT_.1 ?_
        refine pu 35 45 #[T,T,T,T,T,T,T,T,T,T,T,T,T,T,T,T,T,T,T,T,T,T,T,T,T,T,T,T,T,T,T,T,T,T,T,T,F,F,F,F] HT_.1 ?_
        refine pu 36 46 #[T,T,T,T,T,T,T,T,T,T,T,T,T,T,T,T,T,T,T,T,T,T,T,T,T,T,T,T,T,T,T,T,T,T,T,T,T,F,F,F] HT_.1 ?_
        refine pu 37 47 #[T,T,T,T,T,T,T,T,T,T,T,T,T,T,T,T,T,T,T,T,T,T,T,T,T,T,T,T,T,T,T,T,T,T,T,T,T,T,F,F] HT_.1 ?_
        refine pu 38 48 #[T,T,T,T,T,T,T,T,T,T,T,T,T,T,T,T,T,T,T,T,T,T,T,T,T,T,T,T,T,T,T,T,T,T,T,T,T,T,T,F] HT_.1 ?_
        refine pz 39 49 #[T,T,T,T,T,T,T,T,T,T,T,T,T,T,T,T,T,T,T,T,T,T,T,T,T,T,T,T,T,T,T,T,T,T,T,T,T,T,T,T] HT_.1 ?_
        refine done_ (done_of HT_.out (by kernel_rfl)) ?_
        try go_wp2
        go_ret
        exact ⟨zE,zH HB⟩
    ·rw [if_neg c3] at H
     exact absurd H (by simp)
   ·rw [if_neg c2] at H
    have c2b0 : decide (x3_1 < (l0.length : Int)) = false:=decide_eq_false c2
    clear c2
    obtain rfl:=Option.some.inj H
    go_wp2
    go_ret
    exact ⟨zE,zH HB⟩

end Go.Proofs.Ytgmjlhpigfaicaa.XF
