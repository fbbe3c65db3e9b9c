/- Go functions of this seat as Lean functions, with proofs that the calls come to them. (Written by xprint.py, a program of this session, over the kit's print.) -/
import Derived.Test.YtgmjlhpigfaicaaXAx0
import Derived.Test.YtgmjlhpigfaicaaXAx5
import Derived.Test.YtgmjlhpigfaicaaXAx6
import Derived.Test.YtgmjlhpigfaicaaXAx12
namespace Go.Proofs.Ytgmjlhpigfaicaa.XA
open Go.RowKit Go.Proofs.YtgmjlhpigfaicaaW.PrintWords Go.Proofs.YtgmjlhpigfaicaaW.PrintLast Go.Proofs.YtgmjlhpigfaicaaW.PrintMore
attribute [local go_sem] max2_int min2_int max_two min_two max_three min_three max_four min_four   -- for this text's walks alone
set_option linter.unusedVariables false
set_option linter.unusedSimpArgs false
open List renaming setIfInBounds_toArray → xA, set_cons_zero → xB, set_cons_succ → xC
open Go.Proofs.YtgmjlhpigfaicaaW.PrintWords renaming blk_drewN → bN, blk_drew → bD, blk_alloc → bA, below_set → bS, blk_frozen → bF, blk_cell → bC, cell_far → cF, blk_far → bZ, blk_below → bB, pw_below_drewN → bwN, below_drew1 → bw1, below_alloc → bwA
open Go.Proofs.YtgmjlhpigfaicaaW.PrintZ
open Bool renaming true → T,false → F

/-! ### beaconlaw17_TableRoom: function 3 -/
mutual
def beaconlaw17_TableRoom.j0 : Nat → List (List (S39)) → Int → Bool → List (S39) → Bool → Option (Bool)
 | 0, _, _, _, _, _ => none
 | k + 1, x1, x2, x17, x383000, x383001 => if x17 = true then ((beaconlaw17_awake.f k).bind fun t384 => (some t384)) else (beaconlaw17_TableRoom.l0 k x1 x2 0 x383000 x383001)
def beaconlaw17_TableRoom.l0 : Nat → List (List (S39)) → Int → Int → List (S39) → Bool → Option (Bool)
 | 0, _, _, _, _, _ => none
 | k + 1, x1, x2, x7, x383000, x383001 => if x7 < (x1.length : Int) then (if 0 ≤ x7 then ((table_Keep.f k x383000 x383001 (rd_L3 x1 x7) x2).bind fun bt387 => (if bt387.2.2 = 0 then ((table_Keep.f k bt387.1 bt387.2.1 (rd_L3 x1 x7) x2).bind fun bt394 => (if bt394.2.2 = 0 then ((beaconlaw17_same.f k bt394.1 bt394.2.1 bt387.1 bt387.2.1).bind fun t400 => (if t400 = true then (if x383001 = true then (beaconlaw17_TableRoom.j2 k x1 x2 x7 (!bt387.2.1) x383000 x383001 bt387.1 bt387.2.1) else (beaconlaw17_TableRoom.j2 k x1 x2 x7 false x383000 x383001 bt387.1 bt387.2.1)) else (beaconlaw17_TableRoom.j2 k x1 x2 x7 true x383000 x383001 bt387.1 bt387.2.1))) else (beaconlaw17_TableRoom.j2 k x1 x2 x7 true x383000 x383001 bt387.1 bt387.2.1))) else (beaconlaw17_TableRoom.l0 k x1 x2 (wrap64 (x7 + 1)) x383000 x383001))) else (none)) else ((beaconlaw17_awake.f k).bind fun t385 => (some t385))
def beaconlaw17_TableRoom.j2 : Nat → List (List (S39)) → Int → Int → Bool → List (S39) → Bool → List (S39) → Bool → Option (Bool)
 | 0, _, _, _, _, _, _, _, _ => none
 | k + 1, x1, x2, x7, x63, x383000, x383001, x393000, x393001 => if x63 = true then (some false) else (if x383001 = true then (if x393001 = true then (beaconlaw17_TableRoom.l0 k x1 x2 (wrap64 (x7 + 1)) x393000 x393001) else (beaconlaw17_TableRoom.l0 k x1 x2 (wrap64 (x7 + 1)) x393000 x393001)) else (if 0 ≤ x7 then (if x7 < (x1.length : Int) then (if (x393001 != (decide ((x393000.length : Int) < ((rd_L3 x1 x7).length : Int)))) = true then (some false) else (if x393001 = true then (if (x393000.length : Int) < x2 then (some false) else (beaconlaw17_TableRoom.l0 k x1 x2 (wrap64 (x7 + 1)) x393000 x393001)) else (beaconlaw17_TableRoom.l0 k x1 x2 (wrap64 (x7 + 1)) x393000 x393001))) else (none)) else (none)))
end
def beaconlaw17_TableRoom.f (k : Nat) (l0_0 : List (S39)) (a0_1 : Bool) (l1 : List (List (S39))) (a2 : Int) : Option (Bool) := (beaconref17_Check.f k l0_0 a0_1).bind fun t383 => (if t383 = 0 then (beaconlaw17_TableRoom.j0 k l1 a2 (decide (a2 < 0)) l0_0 a0_1) else (beaconlaw17_TableRoom.j0 k l1 a2 true l0_0 a0_1))
theorem beaconlaw17_TableRoom.mono_l : ∀ k, (∀ y0 y1 y2 y3 y4, LeO (beaconlaw17_TableRoom.j0 k y0 y1 y2 y3 y4) (beaconlaw17_TableRoom.j0 (k + 1) y0 y1 y2 y3 y4)) ∧ (∀ y0 y1 y2 y3 y4, LeO (beaconlaw17_TableRoom.l0 k y0 y1 y2 y3 y4) (beaconlaw17_TableRoom.l0 (k + 1) y0 y1 y2 y3 y4)) ∧ (∀ y0 y1 y2 y3 y4 y5 y6 y7, LeO (beaconlaw17_TableRoom.j2 k y0 y1 y2 y3 y4 y5 y6 y7) (beaconlaw17_TableRoom.j2 (k + 1) y0 y1 y2 y3 y4 y5 y6 y7))
 | 0 => ⟨fun _ _ _ _ _ r h => by simp [beaconlaw17_TableRoom.j0] at h, fun _ _ _ _ _ r h => by simp [beaconlaw17_TableRoom.l0] at h, fun _ _ _ _ _ _ _ _ r h => by simp [beaconlaw17_TableRoom.j2] at h⟩
 | k + 1 => by
  obtain ⟨ih0,ih1,ih2⟩:=beaconlaw17_TableRoom.mono_l k
  refine ⟨?_,?_,?_⟩
  ·intro y0 y1 y2 y3 y4
   unfold beaconlaw17_TableRoom.j0
   repeat' first
   | (with_reducible exact ih0 _ _ _ _ _)
   | (with_reducible exact ih1 _ _ _ _ _)
   | (with_reducible exact ih2 _ _ _ _ _ _ _ _)
   | (with_reducible exact beaconlaw17_awake.mono _)
   | (with_reducible exact beaconlaw17_same.mono _ _ _ _ _)
   | (with_reducible exact beaconref17_Check.mono _ _ _)
   | (with_reducible exact table_Keep.mono _ _ _ _ _)
   | (with_reducible exact LeO.refl _)
   | (with_reducible exact LeO.none _)
   | (with_reducible refine LeO.ite ?_ ?_)
   | (with_reducible refine LeO.bind ?_ (fun _ => ?_))
   | exact ih0 _ _ _ _ _
   | exact ih1 _ _ _ _ _
   | exact ih2 _ _ _ _ _ _ _ _
   | exact beaconlaw17_awake.mono _
   | exact beaconlaw17_same.mono _ _ _ _ _
   | exact beaconref17_Check.mono _ _ _
   | exact table_Keep.mono _ _ _ _ _
   | exact LeO.none _
   | refine LeO.ite ?_ ?_
   | refine LeO.bind ?_ (fun _ => ?_)
  ·intro y0 y1 y2 y3 y4
   unfold beaconlaw17_TableRoom.l0
   repeat' first
   | (with_reducible exact ih0 _ _ _ _ _)
   | (with_reducible exact ih1 _ _ _ _ _)
   | (with_reducible exact ih2 _ _ _ _ _ _ _ _)
   | (with_reducible exact beaconlaw17_awake.mono _)
   | (with_reducible exact beaconlaw17_same.mono _ _ _ _ _)
   | (with_reducible exact beaconref17_Check.mono _ _ _)
   | (with_reducible exact table_Keep.mono _ _ _ _ _)
   | (with_reducible exact LeO.refl _)
   | (with_reducible exact LeO.none _)
   | (with_reducible refine LeO.ite ?_ ?_)
   | (with_reducible refine LeO.bind ?_ (fun _ => ?_))
   | exact ih0 _ _ _ _ _
   | exact ih1 _ _ _ _ _
   | exact ih2 _ _ _ _ _ _ _ _
   | exact beaconlaw17_awake.mono _
   | exact beaconlaw17_same.mono _ _ _ _ _
   | exact beaconref17_Check.mono _ _ _
   | exact table_Keep.mono _ _ _ _ _
   | exact LeO.none _
   | refine LeO.ite ?_ ?_
   | refine LeO.bind ?_ (fun _ => ?_)
  ·intro y0 y1 y2 y3 y4 y5 y6 y7
   unfold beaconlaw17_TableRoom.j2
   repeat' first
   | (with_reducible exact ih0 _ _ _ _ _)
   | (with_reducible exact ih1 _ _ _ _ _)
   | (with_reducible exact ih2 _ _ _ _ _ _ _ _)
   | (with_reducible exact beaconlaw17_awake.mono _)
   | (with_reducible exact beaconlaw17_same.mono _ _ _ _ _)
   | (with_reducible exact beaconref17_Check.mono _ _ _)
   | (with_reducible exact table_Keep.mono _ _ _ _ _)
   | (with_reducible exact LeO.refl _)
   | (with_reducible exact LeO.none _)
   | (with_reducible refine LeO.ite ?_ ?_)
   | (with_reducible refine LeO.bind ?_ (fun _ => ?_))
   | exact ih0 _ _ _ _ _
   | exact ih1 _ _ _ _ _
   | exact ih2 _ _ _ _ _ _ _ _
   | exact beaconlaw17_awake.mono _
   | exact beaconlaw17_same.mono _ _ _ _ _
   | exact beaconref17_Check.mono _ _ _
   | exact table_Keep.mono _ _ _ _ _
   | exact LeO.none _
   | refine LeO.ite ?_ ?_
   | refine LeO.bind ?_ (fun _ => ?_)
theorem beaconlaw17_TableRoom.mono : ∀ a0 a1 a2 a3 k, LeO (beaconlaw17_TableRoom.f k a0 a1 a2 a3) (beaconlaw17_TableRoom.f (k + 1) a0 a1 a2 a3) := by
 intro a0 a1 a2 a3 k
 obtain ⟨ih0,ih1,ih2⟩:=beaconlaw17_TableRoom.mono_l k
 unfold beaconlaw17_TableRoom.f
 repeat' first
   | (with_reducible exact ih0 _ _ _ _ _)
   | (with_reducible exact ih1 _ _ _ _ _)
   | (with_reducible exact ih2 _ _ _ _ _ _ _ _)
   | (with_reducible exact beaconlaw17_awake.mono _)
   | (with_reducible exact beaconlaw17_same.mono _ _ _ _ _)
   | (with_reducible exact beaconref17_Check.mono _ _ _)
   | (with_reducible exact table_Keep.mono _ _ _ _ _)
   | (with_reducible exact LeO.refl _)
   | (with_reducible exact LeO.none _)
   | (with_reducible refine LeO.ite ?_ ?_)
   | (with_reducible refine LeO.bind ?_ (fun _ => ?_))
   | exact ih0 _ _ _ _ _
   | exact ih1 _ _ _ _ _
   | exact ih2 _ _ _ _ _ _ _ _
   | exact beaconlaw17_awake.mono _
   | exact beaconlaw17_same.mono _ _ _ _ _
   | exact beaconref17_Check.mono _ _ _
   | exact table_Keep.mono _ _ _ _ _
   | exact LeO.none _
   | refine LeO.ite ?_ ?_
   | refine LeO.bind ?_ (fun _ => ?_)
def beaconlaw17_TableRoom.T6 : Bool × List (List Nat × List Nat) := (true, [([], []), ([], []), ([], []), ([1, 2], [1, 2]), ([3], [3]), ([], []), ([0, 4, 5], [0, 4, 5]), ([6], [6]), ([7], [7]), ([7], [7]), ([], []), ([10, 8, 6, 0, 1, 2, 3, 4, 5, 6, 7, 8, 10], [8, 10]), ([9, 11, 0, 1, 2, 3, 4, 5, 6, 7, 8, 9, 10, 11], [9])])
def beaconlaw17_TableRoom.B6 : List Nat := [0, 0, 0, 6, 14, 0, 63, 127, 255, 255, 0, 1535, 4095]
theorem beaconlaw17_TableRoom.tab6 : rtab .any (opsOf Try.f3 6) = beaconlaw17_TableRoom.T6 := by kernel_rfl
theorem beaconlaw17_TableRoom.bits6 : waitsOk beaconlaw17_TableRoom.T6.2 beaconlaw17_TableRoom.B6 = true := by kernel_rfl
def beaconlaw17_TableRoom.T8 : Bool × List (List Nat × List Nat) := (true, [([], []), ([], []), ([], []), ([1, 2], [1, 2]), ([3], [3]), ([], []), ([0, 4, 5], [0, 4, 5]), ([6], [6]), ([7], [7]), ([7], [7]), ([], []), ([10, 8, 6, 0, 1, 2, 3, 4, 5, 6, 7, 8, 10], [8, 10]), ([9, 11, 0, 1, 2, 3, 4, 5, 6, 7, 8, 9, 10, 11], [9])])
def beaconlaw17_TableRoom.B8 : List Nat := [0, 0, 0, 6, 14, 0, 63, 127, 255, 255, 0, 1535, 4095]
theorem beaconlaw17_TableRoom.tab8 : rtab .any (opsOf Try.f3 8) = beaconlaw17_TableRoom.T8 := by kernel_rfl
theorem beaconlaw17_TableRoom.bits8 : waitsOk beaconlaw17_TableRoom.T8.2 beaconlaw17_TableRoom.B8 = true := by kernel_rfl
def beaconlaw17_TableRoom.T11 : Bool × List (List Nat × List Nat) := (true, [([], []), ([0], [0]), ([1], [1]), ([2], [2]), ([3], [3]), ([4, 3], [3, 4]), ([3], [3]), ([6, 3], [3, 6]), ([7, 3], [3, 7]), ([3], [3]), ([3], [3]), ([9, 10, 3], [3, 9, 10]), ([11, 3], [3, 11]), ([12, 3], [3, 12]), ([8, 13, 3], [3, 8, 13]), ([5, 14, 3], [3, 5, 14]), ([3, 15], [3, 15]), ([16, 3], [16]), ([17], [17]), ([18, 17], [17, 18]), ([19, 17, 17], [17, 19]), ([20], [20]), ([21, 20], [20, 21]), ([22, 20], [20, 22]), ([20, 23, 17], [17, 20, 23]), ([24, 20, 17], [17, 24]), ([25], [25]), ([26, 25], [25, 26]), ([27, 25], [25, 27]), ([25], [25]), ([28, 29, 25], [25, 28, 29]), ([25, 30, 17], [17, 25, 30]), ([17, 31], [17, 31])])
def beaconlaw17_TableRoom.B11 : List Nat := [0, 1, 3, 7, 15, 31, 15, 79, 207, 15, 15, 1551, 3599, 7695, 16335, 32767, 65535, 131071, 262143, 524287, 1048575, 2097151, 4194303, 8388607, 16777215, 33554431, 67108863, 134217727, 268435455, 67108863, 1073741823, 2147483647, 4294967295]
theorem beaconlaw17_TableRoom.tab11 : rtab .any (opsOf Try.f3 11) = beaconlaw17_TableRoom.T11 := by kernel_rfl
theorem beaconlaw17_TableRoom.bits11 : waitsOk beaconlaw17_TableRoom.T11.2 beaconlaw17_TableRoom.B11 = true := by kernel_rfl
set_option maxHeartbeats 8000000 in
set_option maxRecDepth 100000 in
theorem beaconlaw17_TableRoom.calls (k : Nat) (P0_0_ : Nat → Prop) (A0_0 : Option Addr) (c0_0 : Nat) (l0_0 : List (S39)) (a0_1 : Bool) (A1 : Option Addr) (c1 : Nat) (l1 : List (List (S39))) (a2 : Int) (r : Bool) (w : World) (hs0_0 : Kd.V k39 39 w w.heap.size (fun k_ => P0_0_ k_) (.slice A0_0 l0_0.length c0_0) l0_0) (hr1 : Kd.C (Kd.slice 39 k39) w A1 l1.length l1) (hc1 : l1.length ≤ c1) (h : beaconlaw17_TableRoom.f k l0_0 a0_1 l1 a2 = some r) :
  Calls Try.prog 3 #[.agg #[.slice A0_0 l0_0.length c0_0,.bool a0_1],.slice A1 l1.length c1,.int .i64 a2] w fun e w' => e = .returned (.bool r) ∧ Below w.heap.size w w':=by
 have hu24:=Try.underlying24
 have HO0_0:=Aside0.mk (show Kd.V k39 39 w w.heap.size (fun k_ => (P0_0_ k_ ∨ w.heap.size ≤ k_)) (.slice A0_0 l0_0.length c0_0) l0_0 from Kd.V_mono hs0_0 (fun k_ hk => .inl hk))
 have HR1:=Aside0.mk hr1
 have HC1:=Aside0.mk hc1
 clear hr1 hc1
 have HB:=Aside0.mk (Below.refl w.heap.size w)
 have H : ((beaconref17_Check.f k l0_0 a0_1).bind fun t383 => (if t383 = 0 then (beaconlaw17_TableRoom.j0 k l1 a2 (decide (a2 < 0)) l0_0 a0_1) else (beaconlaw17_TableRoom.j0 k l1 a2 true l0_0 a0_1))) = some r:=h
 clear h
 have HC4:=Aside0.mk H
 clear H
 go_enter Try.func3,Try.ntmps3
 go_upto_region 1 with (first|((with_reducible refine gate_dst (N:=3) rfl ?_);(try (refine gate_guard (by rfl) ?_;dsimp only));refine zb (N:=3) (cs:=#[.slice A0_0 l0_0.length c0_0,.bool a0_1]) (t:=24) ?_;intro G382 hg w5 hbox hb;replace HO0_0:=Aside0.mk (Kd.V_below (Kd.V_elderB (by (with_reducible repeat (first|apply Kd.V_alloc|apply Kd.V_drewN|apply Kd.V_drew));exact HO0_0.out) G382 (Nat.le_of_eq hg.symm)) hb);have K382:=Aside0.mk (hbox);have GW382:=zN HB hg;have GE382:=zN HB hg;replace HB:=zS HB hb;clear hb hbox hg))
 (try simp only [Act.put,xA,xB,xC])
 go_cut [17] (fun v17 wc => ∃ (kq : Nat) (x17_3 : Bool),v17 = .bool x17_3 ∧ Aside0 (beaconlaw17_TableRoom.j0 kq l1 a2 x17_3 l0_0 a0_1 = some r) ∧ Aside0 (kq ≤ k) ∧ Aside0 (Kd.V k39 39 wc w.heap.size (fun k_ => (P0_0_ k_ ∨ w.heap.size ≤ k_) ∧ k_ ≠ G382) (.slice A0_0 l0_0.length c0_0) l0_0) ∧ Aside0 (wc.heap[G382]? = some (.cells #[(.slice A0_0 l0_0.length c0_0),.bool a0_1] 24 (0,0))) ∧ Aside0 (Below w.heap.size w wc))
 case first =>
  have H:=HC4.out
  clear HC4
  replace H:=Option.bind_eq_some_iff.mp H
  obtain ⟨t383,A60,H⟩:=H
  replace H : (if t383 = 0 then (beaconlaw17_TableRoom.j0 k l1 a2 (decide (a2 < 0)) l0_0 a0_1) else (beaconlaw17_TableRoom.j0 k l1 a2 true l0_0 a0_1)) = some r:=H
  have A6:=Aside0.mk A60
  clear A60
  by_cases c7 : t383 = 0
  ·rw [if_pos c7] at H
   have c7b0 : (t383 == 0) = true:=beq_iff_eq.mpr c7
   have c7b1 : (t383 != 0) = false:=bne_eq_false_iff_eq.mpr c7
   clear c7
   (first|rw [c7b0]|(simp only [i64_w,i32_w];rw [c7b0])|skip)
   have H':=Aside0.mk H
   clear H
   have hcz8_0 : w5.cell? ⟨G382,0,none⟩ = some (.slice A0_0 l0_0.length c0_0):=zk K382 0
   have hcz8_1 : w5.cell? ⟨G382,1,none⟩ = some (.bool a0_1):=zk K382 1
   have hfz8_0:=bF K382.1 0
   have hfz8_1:=bF K382.1 1
   go_wp2_with (first|((with_reducible refine gate_callee (f:=12) rfl ?_);refine zg (some 12) Try.func12 #[.agg #[.slice A0_0 l0_0.length c0_0,.bool a0_1]] ?_;(with_reducible refine (beaconref17_Check.calls k _ _ l0_0 a0_1 t383 _ ?side1 ?side2 A6.out).mono ?_);(case side1 => exact zC ((Kd.V_reads' HO0_0.out).2.2));(case side2 => exact (Kd.V_reads' HO0_0.out).2.1);rintro e w9 ⟨rfl,hb⟩;refine ⟨_,rfl,?_⟩;replace HO0_0:=Aside0.mk (Kd.V_below (by (with_reducible repeat (first|apply Kd.V_alloc|apply Kd.V_drewN|apply Kd.V_drew));exact HO0_0.out) hb);replace K382:=zB K382 hb;replace HB:=zS HB hb;(try clear hb)))
   go_meet
   case rel => exact ⟨_,(decide (a2 < 0)),ze,H',⟨zo⟩,⟨by (with_reducible repeat (first|apply Kd.V_alloc|apply Kd.V_drewN|apply Kd.V_drew));exact HO0_0.out⟩,⟨z1 K382.1⟩,⟨zH HB⟩⟩
  ·rw [if_neg c7] at H
   have c7b0 : (t383 == 0) = false:=beq_eq_false_iff_ne.mpr c7
   have c7b1 : (t383 != 0) = true:=bne_iff_ne.mpr c7
   (first|rw [c7b0]|(simp only [i64_w,i32_w];rw [c7b0])|skip)
   have H':=Aside0.mk H
   clear H
   have hcz10_0 : w5.cell? ⟨G382,0,none⟩ = some (.slice A0_0 l0_0.length c0_0):=zk K382 0
   have hcz10_1 : w5.cell? ⟨G382,1,none⟩ = some (.bool a0_1):=zk K382 1
   have hfz10_0:=bF K382.1 0
   have hfz10_1:=bF K382.1 1
   go_wp2_with (first|((with_reducible refine gate_callee (f:=12) rfl ?_);refine zg (some 12) Try.func12 #[.agg #[.slice A0_0 l0_0.length c0_0,.bool a0_1]] ?_;(with_reducible refine (beaconref17_Check.calls k _ _ l0_0 a0_1 t383 _ ?side1 ?side2 A6.out).mono ?_);(case side1 => exact zC ((Kd.V_reads' HO0_0.out).2.2));(case side2 => exact (Kd.V_reads' HO0_0.out).2.1);rintro e w11 ⟨rfl,hb⟩;refine ⟨_,rfl,?_⟩;replace HO0_0:=Aside0.mk (Kd.V_below (by (with_reducible repeat (first|apply Kd.V_alloc|apply Kd.V_drewN|apply Kd.V_drew));exact HO0_0.out) hb);replace K382:=zB K382 hb;replace HB:=zS HB hb;(try clear hb)))
   go_meet
   case rel => exact ⟨_,(true),ze,H',⟨zo⟩,⟨by (with_reducible repeat (first|apply Kd.V_alloc|apply Kd.V_drewN|apply Kd.V_drew));exact HO0_0.out⟩,⟨z1 K382.1⟩,⟨zH HB⟩⟩
 case rest =>
  clear HC4
  try clear c1;try clear p2;try clear c3;try clear c7;try clear c7b0;try clear c7b1;try clear hcz10_0;try clear hcz10_1;try clear hcz8_0;try clear hcz8_1;try clear hfz10_0;try clear hfz10_1;try clear hfz8_0;try clear hfz8_1
  obtain ⟨kq,x17_3,rfl,HA,HJ3,HO_383000,K382,HB⟩:=hcut
  cases kq with
  | zero => exact absurd HA.out (by simp [beaconlaw17_TableRoom.j0])
  | succ kj3 =>
   have H:=HA.out
   clear HA
   simp only [beaconlaw17_TableRoom.j0] at H
   by_cases c12 : x17_3 = true
   ·subst c12
    have H1 : ((beaconlaw17_awake.f kj3).bind fun t384 => (some t384)) = some r:=by rw [if_pos rfl] at H;exact H
    clear H
    have H:=H1
    clear H1
    replace H:=Option.bind_eq_some_iff.mp H
    obtain ⟨t384,A130,H⟩:=H
    replace H : (some t384) = some r:=H
    have A13:=Aside0.mk A130
    clear A130
    obtain rfl:=Option.some.inj H
    go_wp2_with (first|((with_reducible refine gate_callee (f:=13) rfl ?_);refine zg (some 18) Try.func13 #[] ?_;(with_reducible refine (beaconlaw17_awake.calls kj3  t384 _ A13.out).mono ?_);rintro e w14 ⟨rfl,hb⟩;refine ⟨_,rfl,?_⟩;replace HO_383000:=Aside0.mk (Kd.V_below (by (with_reducible repeat (first|apply Kd.V_alloc|apply Kd.V_drewN|apply Kd.V_drew));exact HO_383000.out) hb);replace K382:=zB K382 hb;replace HB:=zS HB hb;(try clear hb)))
    go_ret
    exact ⟨by first|rfl|(simp [errW_none,errW_some] <;> rfl)|(simp [*,errW_none,errW_some] <;> rfl),zH HB⟩
   ·replace c12:=Bool.eq_false_iff.mpr c12
    subst c12
    have H1 : (beaconlaw17_TableRoom.l0 kj3 l1 a2 0 l0_0 a0_1) = some r:=by rw [if_neg (show ¬ (false = true) by decide)] at H;exact H
    clear H
    have H:=H1
    clear H1
    have H':=Aside0.mk H
    clear H
    go_wp2
    go_loopg [7] kj3 (fun kq v7 w' => ∃ (x7_2 : Int) (x383000_2 : List (S39)) (x383001_2 : Bool) (u383000 : Value),v7 = .int .i64 x7_2 ∧ Aside0 (beaconlaw17_TableRoom.l0 kq l1 a2 x7_2 x383000_2 x383001_2 = some r) ∧ Aside0 (kq ≤ kj3) ∧ Aside0 (Kd.V k39 39 w' w.heap.size (fun k_ => (P0_0_ k_ ∨ w.heap.size ≤ k_) ∧ k_ ≠ G382) u383000 x383000_2) ∧ Aside0 (w'.heap[G382]? = some (.cells #[u383000,.bool x383001_2] 24 (0,0))) ∧ Aside0 (Below w.heap.size w w'))
    case atStart => exact ⟨(0),(l0_0),(a0_1),(.slice A0_0 l0_0.length c0_0),ze,H',⟨Nat.le_refl _⟩,⟨by (with_reducible repeat (first|apply Kd.V_alloc|apply Kd.V_drewN|apply Kd.V_drew));exact HO_383000.out⟩,⟨z1 K382.1⟩,⟨zH HB⟩⟩
    case round =>
     clear H'
     try clear c1;try clear p2;try clear c3;try clear c7;try clear c7b0;try clear c7b1;try clear c12;try clear c13;try clear hcz10_0;try clear hcz10_1;try clear hcz8_0;try clear hcz8_1;try clear hfz10_0;try clear hfz10_1;try clear hfz8_0;try clear hfz8_1;try clear p2
     obtain ⟨x7_2,x383000_2,x383001_2,u383000,rfl,HA,HK2,HO_383000,K382,HB⟩:=hrel
     cases gk with
     | zero => exact absurd HA.out (by simp [beaconlaw17_TableRoom.l0])
     | succ k2 =>
      have H:=HA.out
      clear HA
      simp only [beaconlaw17_TableRoom.l0] at H
      by_cases c15 : x7_2 < (l1.length : Int)
      ·rw [if_pos c15] at H
       have c15b0 : decide (x7_2 < (l1.length : Int)) = true:=decide_eq_true c15
       clear c15
       by_cases c16 : 0 ≤ x7_2
       ·rw [if_pos c16] at H
        have c16b0 : decide (0 ≤ x7_2) = true:=decide_eq_true c16
        clear c16
        replace H:=Option.bind_eq_some_iff.mp H
        obtain ⟨⟨t387,t390,t391⟩,A170,H⟩:=H
        replace H : (if t391 = 0 then ((table_Keep.f k2 t387 t390 (rd_L3 l1 x7_2) a2).bind fun bt394 => (if bt394.2.2 = 0 then ((beaconlaw17_same.f k2 bt394.1 bt394.2.1 t387 t390).bind fun t400 => (if t400 = true then (if x383001_2 = true then (beaconlaw17_TableRoom.j2 k2 l1 a2 x7_2 (!t390) x383000_2 x383001_2 t387 t390) else (beaconlaw17_TableRoom.j2 k2 l1 a2 x7_2 false x383000_2 x383001_2 t387 t390)) else (beaconlaw17_TableRoom.j2 k2 l1 a2 x7_2 true x383000_2 x383001_2 t387 t390))) else (beaconlaw17_TableRoom.j2 k2 l1 a2 x7_2 true x383000_2 x383001_2 t387 t390))) else (beaconlaw17_TableRoom.l0 k2 l1 a2 (wrap64 (x7_2 + 1)) x383000_2 x383001_2)) = some r:=H
        have A17:=Aside0.mk A170
        clear A170
        by_cases c18 : t391 = 0
        ·rw [if_pos c18] at H
         have c18b0 : (t391 == 0) = true:=beq_iff_eq.mpr c18
         have c18b1 : (t391 != 0) = false:=bne_eq_false_iff_eq.mpr c18
         clear c18
         replace H:=Option.bind_eq_some_iff.mp H
         obtain ⟨⟨t394,t397,t398⟩,A190,H⟩:=H
         replace H : (if t398 = 0 then ((beaconlaw17_same.f k2 t394 t397 t387 t390).bind fun t400 => (if t400 = true then (if x383001_2 = true then (beaconlaw17_TableRoom.j2 k2 l1 a2 x7_2 (!t390) x383000_2 x383001_2 t387 t390) else (beaconlaw17_TableRoom.j2 k2 l1 a2 x7_2 false x383000_2 x383001_2 t387 t390)) else (beaconlaw17_TableRoom.j2 k2 l1 a2 x7_2 true x383000_2 x383001_2 t387 t390))) else (beaconlaw17_TableRoom.j2 k2 l1 a2 x7_2 true x383000_2 x383001_2 t387 t390)) = some r:=H
         have A19:=Aside0.mk A190
         clear A190
         have HC20:=Aside0.mk H
         clear H
         obtain ⟨Ao21,co21,eo21⟩:=Kd.V_slice HO_383000.out
         subst eo21
         try go_wp2
         replace HO_383000:=Aside0.mk (Kd.V_drew HO_383000.out)
         replace K382:=Aside0.mk (bD K382.1)
         replace HB:=Aside0.mk (bw1 HB.1)
         have p386 : 0 ≤ (x7_2 : Int):=zd
         have q386 : x7_2 < (l1.length : Int):=zd
         obtain ⟨ad386,A386_0,c386_0,e386,hx386_0,hl386_0,hi386_0⟩:=at_L3 HR1.out x7_2 p386 q386
         have hw386_0:=hx386_0
         cases e386
         replace hx386_0:=zh HB hx386_0
         have HR386_0:=Aside0.mk hi386_0
         have HC386_0:=Aside0.mk hl386_0
         clear hi386_0 hl386_0
         replace p386:=eq_true p386
         replace q386:=eq_true q386
         refine start_ (n:=13) (S:=fun w' => w'.cell? ⟨G382,0,none⟩ = some (.slice Ao21 x383000_2.length co21) ∧ w'.cell? ⟨G382,1,none⟩ = some (.bool x383001_2) ∧ w'.cell? (ad386.add (x7_2).toNat) = some (.slice A386_0 (rd_L3 l1 x7_2).length c386_0)) (ds:=[]) #[F,F,F,F,F,F,F,F,F,F,F,F,F] (by kernel_rfl) rfl rfl ⟨zk K382 0,zk K382 1,(zh HB hw386_0)⟩ (fun hHeld => ?_);refine with_tabW beaconlaw17_TableRoom.tab6 beaconlaw17_TableRoom.bits6 (fun HT_ HW_ => ?_)
         generalize wr.drew = w22 at HO_383000 K382 HB HR386_0 hx386_0 hHeld ⊢
         refine pz 1 27 #[F,T,F,F,F,F,F,F,F,F,F,F,F] HT_.1 ?_
         refine pz 2 28 #[F,T,T,F,F,F,F,F,F,F,F,F,F] HT_.1 ?_
         refine pz 3 29 #[F,T,T,T,F,F,F,F,F,F,F,F,F] HT_.1 ?_
         refine pz 5 31 #[F,T,T,T,F,T,F,F,F,F,F,F,F] HT_.1 ?_
         refine tz 0 26 #[T,T,T,T,F,T,F,F,F,F,F,F,F] HT_.1 HW_.1 hHeld ?_
         refine tz 4 30 #[T,T,T,T,T,T,F,F,F,F,F,F,F] HT_.1 HW_.1 hHeld ?_
         refine join_ (σ:=Value × Nat) 2 #[T,T,T,T,T,T,T,T,T,T,T,F,F] (fun s_ => [(32,.tuple #[.agg #[s_.1,.bool t390],.int .i64 t391]),(8,.pointer (some ⟨s_.2,0,none⟩)),(25,.tuple #[.agg #[s_.1,.bool t390],.int .i64 t391]),(33,.agg #[s_.1,.bool t390]),(34,.int .i64 t391)]) (fun s_ w' => (w'.cell? ⟨G382,0,none⟩ = some (.slice Ao21 x383000_2.length co21) ∧ w'.cell? ⟨G382,1,none⟩ = some (.bool x383001_2) ∧ w'.cell? (ad386.add (x7_2).toNat) = some (.slice A386_0 (rd_L3 l1 x7_2).length c386_0)) ∧ (Kd.R k39 39 w' w.heap.size (fun k_ => (w.heap.size ≤ k_)) s_.1 t387) ∧ (Kd.V k39 39 w' w.heap.size (fun k_ => (P0_0_ k_ ∨ w.heap.size ≤ k_) ∧ some k_ ≠ (s_.1 : Value).ownBlock ∧ k_ ≠ G382 ∧ k_ ≠ s_.2) (.slice Ao21 x383000_2.length co21) x383000_2) ∧ (w'.heap[G382]? = some (.cells #[.slice Ao21 x383000_2.length co21,.bool x383001_2] 24 (0,0))) ∧ (w'.heap[s_.2]? = some (.cells #[.slice none 0 0,.bool false] 24 (0,0))) ∧ (w.heap.size ≤ s_.2) ∧ (w.heap.size ≤ s_.2) ∧ (G382 ≠ s_.2) ∧ (s_.2 ≠ G382) ∧ (Below w.heap.size w w')) ?_ ?_
         rotate_left
         ·intro hCont
          refine two_ (i:=6) (j:=10) (Ni:=some 32) (Nj:=some 8) #[T,T,T,T,T,T,T,F,F,F,F,F,F] #[T,T,T,T,T,T,F,F,F,F,T,F,F] rfl rfl rfl rfl (two_of HT_.out (by kernel_rfl)) (by decide) (by decide) (fun K hK => ?_) (fun K hK => ?_)
          ·skip
           refine goes_ Try.func14 (by kernel_rfl) rfl #[.agg #[.slice Ao21 x383000_2.length co21,.bool x383001_2],.slice A386_0 (rd_L3 l1 x7_2).length c386_0,.int .i64 a2] (by rfl) rfl rfl (by (try simp only [List.map_toArray,List.map_cons,List.map_nil]);first|done|rfl|(simp only [List.length_drop,List.length_take];rfl)) ?_
           with_reducible refine (table_Keep.calls k2 _ _ x383000_2 x383001_2 _ _ (rd_L3 l1 x7_2) a2 t387 t390 t391 _ ?side1 ?side2 ?side3 ?side4 A17.out).mono ?_
           (case side1 => exact zC ((Kd.V_reads' HO_383000.out).2.2))
           (case side2 => exact (Kd.V_reads' HO_383000.out).2.1)
           (case side3 => exact zC (Kd.C_below HR386_0.out HB.1))
           (case side4 => exact HC386_0.out)
           rintro e w23 ⟨v388,rfl,ho0,hb⟩
           refine ⟨_,rfl,?_⟩
           replace HO_383000:=Aside0.mk (Kd.V_elder' (by (with_reducible repeat (first|apply Kd.V_alloc|apply Kd.V_drewN|apply Kd.V_drew));exact HO_383000.out) (Kd.R_base ho0) hb)
           have HO389:=Aside0.mk (Kd.R_lower (Kd.R_newM (M:=fun k_ => (w.heap.size ≤ k_)) ho0 (zW HB) (fun k_ h_ => h_)) (zW HB))
           replace K382:=zB K382 hb
           replace HB:=zS HB hb
           (try clear hb)
           (try clear hb2)
           (try clear hk)
           (try clear hi)
           (try clear ho0)
           refine hK.out _ _ ⟨zk K382 0,zk K382 1,(zh HB hw386_0)⟩ (fun hHeld => ?_)
           clear hK K
           refine nz 32 ?_
           refine pz 7 25 #[T,T,T,T,T,T,T,T,F,F,F,F,F] HT_.1 ?_
           refine pz 8 33 #[T,T,T,T,T,T,T,T,T,F,F,F,F] HT_.1 ?_
           refine pz 9 34 #[T,T,T,T,T,T,T,T,T,T,F,F,F] HT_.1 ?_
           refine one_ (i:=10) (N:=some 8) #[T,T,T,T,T,T,T,T,T,T,T,F,F] rfl rfl (one_of HT_.out (by kernel_rfl)) (by decide) (fun K hK => ?_)
           refine box_step ?hg (N:=8) ?hd (cs:=#[.slice none 0 0,.bool false]) (t:=24) ?hr ?_;(case hd => rfl);(case hg => exact zw);(case hr => first|(go_simp;done)|(go_simp;rfl))
           intro G392 hg w24 hbox hb
           replace HO_383000:=Aside0.mk (Kd.V_below (Kd.V_elderB (by (with_reducible repeat (first|apply Kd.V_alloc|apply Kd.V_drewN|apply Kd.V_drew));exact HO_383000.out) G392 (Nat.le_of_eq hg.symm)) hb)
           replace HO389:=Aside0.mk (Kd.R_below (zR HO389) hb)
           have K392:=Aside0.mk (hbox)
           have GW392:=zN HB hg
           have GE392:=zN HB hg
           replace HB:=zS HB hb
           have NB382_392:=zL K382 hg
           have NB392_382:=zG K382 hg
           replace K382:=zB K382 hb
           clear hb hbox hg
           refine hK.out _ _ ⟨zk K382 0,zk K382 1,(zh HB hw386_0)⟩ (fun hHeld => ?_)
           clear hK K
           refine nz 8 ?_
           exact norm_ (by simp only [putAll,Act.put,xA,xB,xC]) (hCont (v388,G392) _ ⟨hHeld,(by (with_reducible repeat (first|apply Kd.R_alloc|apply Kd.R_drewN|apply Kd.R_drew));exact Kd.R_mono HO389.out (fun _ hk => hk.1)),(by (with_reducible repeat (first|apply Kd.V_alloc|apply Kd.V_drewN|apply Kd.V_drew));exact Kd.V_mono HO_383000.out (fun _ hk => ⟨hk.1.1.1,⟨hk.1.2,⟨hk.1.1.2,hk.2⟩⟩⟩)),(z1 K382.1),(z1 K392.1),GW392.1,GE392.1,NB382_392.1,NB392_382.1,(zH HB)⟩)
          ·skip
           refine box_step ?hg (N:=8) ?hd (cs:=#[.slice none 0 0,.bool false]) (t:=24) ?hr ?_;(case hd => rfl);(case hg => exact zw);(case hr => first|(go_simp;done)|(go_simp;rfl))
           intro G392 hg w23 hbox hb
           replace HO_383000:=Aside0.mk (Kd.V_below (Kd.V_elderB (by (with_reducible repeat (first|apply Kd.V_alloc|apply Kd.V_drewN|apply Kd.V_drew));exact HO_383000.out) G392 (Nat.le_of_eq hg.symm)) hb)
           have K392:=Aside0.mk (hbox)
           have GW392:=zN HB hg
           have GE392:=zN HB hg
           replace HB:=zS HB hb
           have NB382_392:=zL K382 hg
           have NB392_382:=zG K382 hg
           replace K382:=zB K382 hb
           clear hb hbox hg
           refine hK.out _ _ ⟨zk K382 0,zk K382 1,(zh HB hw386_0)⟩ (fun hHeld => ?_)
           clear hK K
           refine nz 8 ?_
           refine one_ (i:=6) (N:=some 32) #[T,T,T,T,T,T,T,F,F,F,T,F,F] rfl rfl (one_of HT_.out (by kernel_rfl)) (by decide) (fun K hK => ?_)
           refine goes_ Try.func14 (by kernel_rfl) rfl #[.agg #[.slice Ao21 x383000_2.length co21,.bool x383001_2],.slice A386_0 (rd_L3 l1 x7_2).length c386_0,.int .i64 a2] (by rfl) rfl rfl (by (try simp only [List.map_toArray,List.map_cons,List.map_nil]);first|done|rfl|(simp only [List.length_drop,List.length_take];rfl)) ?_
           with_reducible refine (table_Keep.calls k2 _ _ x383000_2 x383001_2 _ _ (rd_L3 l1 x7_2) a2 t387 t390 t391 _ ?side1 ?side2 ?side3 ?side4 A17.out).mono ?_
           (case side1 => exact zC ((Kd.V_reads' HO_383000.out).2.2))
           (case side2 => exact (Kd.V_reads' HO_383000.out).2.1)
           (case side3 => exact zC (Kd.C_below HR386_0.out HB.1))
           (case side4 => exact HC386_0.out)
           rintro e w24 ⟨v388,rfl,ho0,hb⟩
           refine ⟨_,rfl,?_⟩
           replace HO_383000:=Aside0.mk (Kd.V_elder' (by (with_reducible repeat (first|apply Kd.V_alloc|apply Kd.V_drewN|apply Kd.V_drew));exact HO_383000.out) (Kd.R_base ho0) hb)
           have HO389:=Aside0.mk (Kd.R_lower (Kd.R_newM (M:=fun k_ => (w.heap.size ≤ k_)) ho0 (zW HB) (fun k_ h_ => h_)) (zW HB))
           replace K382:=zB K382 hb
           replace K392:=zB K392 hb
           replace HB:=zS HB hb
           (try clear hb)
           (try clear hb2)
           (try clear hk)
           (try clear hi)
           (try clear ho0)
           refine hK.out _ _ ⟨zk K382 0,zk K382 1,(zh HB hw386_0)⟩ (fun hHeld => ?_)
           clear hK K
           refine nz 32 ?_
           refine pz 7 25 #[T,T,T,T,T,T,T,T,F,F,T,F,F] HT_.1 ?_
           refine pz 8 33 #[T,T,T,T,T,T,T,T,T,F,T,F,F] HT_.1 ?_
           refine pz 9 34 #[T,T,T,T,T,T,T,T,T,T,T,F,F] HT_.1 ?_
           exact norm_ (by simp only [putAll,Act.put,xA,xB,xC]) (hCont (v388,G392) _ ⟨hHeld,(by (with_reducible repeat (first|apply Kd.R_alloc|apply Kd.R_drewN|apply Kd.R_drew));exact Kd.R_mono HO389.out (fun _ hk => hk.1)),(by (with_reducible repeat (first|apply Kd.V_alloc|apply Kd.V_drewN|apply Kd.V_drew));exact Kd.V_mono HO_383000.out (fun _ hk => ⟨hk.1.1.1,⟨hk.2,⟨hk.1.1.2,hk.1.2⟩⟩⟩)),(z1 K382.1),(z1 K392.1),GW392.1,GE392.1,NB382_392.1,NB392_382.1,(zH HB)⟩)
         rintro ⟨v388,G392⟩ w25 ⟨hS_,h0_,h1_,h2_,h3_,h4_,h5_,h6_,h7_,h8_⟩
         have HO389 : Aside0 (Kd.R k39 39 w25 w.heap.size (fun k_ => (w.heap.size ≤ k_)) v388 t387):=⟨h0_⟩
         replace HO_383000 : Aside0 (Kd.V k39 39 w25 w.heap.size (fun k_ => (P0_0_ k_ ∨ w.heap.size ≤ k_) ∧ some k_ ≠ (v388 : Value).ownBlock ∧ k_ ≠ G382 ∧ k_ ≠ G392) (.slice Ao21 x383000_2.length co21) x383000_2):=⟨h1_⟩
         replace K382 : Aside0 (w25.heap[G382]? = some (.cells #[.slice Ao21 x383000_2.length co21,.bool x383001_2] 24 (0,0))):=⟨h2_⟩
         have K392 : Aside0 (w25.heap[G392]? = some (.cells #[.slice none 0 0,.bool false] 24 (0,0))):=⟨h3_⟩
         have GW392 : Aside0 (w.heap.size ≤ G392):=⟨h4_⟩
         have GE392 : Aside0 (w.heap.size ≤ G392):=⟨h5_⟩
         have NB382_392 : Aside0 (G382 ≠ G392):=⟨h6_⟩
         have NB392_382 : Aside0 (G392 ≠ G382):=⟨h7_⟩
         replace HB : Aside0 (Below w.heap.size w w25):=⟨h8_⟩
         clear h0_ h1_ h2_ h3_ h4_ h5_ h6_ h7_ h8_
         have hHeld : w25.cell? ⟨G382,0,none⟩ = some (.slice Ao21 x383000_2.length co21) ∧ w25.cell? ⟨G382,1,none⟩ = some (.bool x383001_2) ∧ w25.cell? (ad386.add (x7_2).toNat) = some (.slice A386_0 (rd_L3 l1 x7_2).length c386_0):=hS_
         obtain ⟨Ao26,co26,eo26⟩:=Kd.R_slice HO389.out
         (first|subst eo26|(injection eo26 with f1_ f2_ f3_;have f4_:=f1_.symm;have f5_:=f3_.symm;clear f1_ f2_ f3_;subst f4_;subst f5_))
         refine norm_ (a':=?_) ?_ ?_
         rotate_left
         ·simp only [putAll,Act.put,xA,xB,xC]
          rfl
         refine one_ (i:=11) (N:=none) #[T,T,T,T,T,T,T,T,T,T,T,T,F] rfl rfl (one_of HT_.out (by kernel_rfl)) (by decide) (fun K hK => ?_)
         have hs27 : w25.cell? ⟨G392,0,none⟩ = some (.slice none 0 0):=zk K392 0
         have hfs27:=bF K392.1 0
         have hns27_0:=NB382_392.1
         have hms27_0:=NB392_382.1
         have hs28 : w25.cell? ⟨G392,1,none⟩ = some (.bool false):=zk K392 1
         have hfs28:=bF K392.1 1
         have hns28_0:=NB382_392.1
         have hms28_0:=NB392_382.1
         refine sz ?_
         refine hK.out _ _ ⟨((cF (p:=⟨G392,_,none⟩) NB382_392.1 _).trans (((cF (p:=⟨G392,_,none⟩) NB382_392.1 _).trans (hHeld.1)))),((cF (p:=⟨G392,_,none⟩) NB382_392.1 _).trans (((cF (p:=⟨G392,_,none⟩) NB382_392.1 _).trans (hHeld.2.1)))),((cF (p:=⟨G392,_,none⟩) (ne_c hw386_0 GW392.1) _).trans (((cF (p:=⟨G392,_,none⟩) (ne_c hw386_0 GW392.1) _).trans (hHeld.2.2))))⟩ (fun hHeld => ?_)
         clear hK K
         refine pz 12 9 #[T,T,T,T,T,T,T,T,T,T,T,T,T] HT_.1 ?_
         refine done_ (done_of HT_.out (by kernel_rfl)) ?_
         try go_wp2
         have n0_ : Aside0 (Kd.V k39 39 ((w25.setCell ⟨G392,0,none⟩ (.slice Ao26 t387.length co26)).setCell ⟨G392,1,none⟩ (.bool t390)) w.heap.size (fun k_ => (P0_0_ k_ ∨ w.heap.size ≤ k_) ∧ some k_ ≠ (.slice Ao26 t387.length co26 : Value).ownBlock ∧ k_ ≠ G382 ∧ k_ ≠ G392) (.slice Ao21 x383000_2.length co21) x383000_2):=⟨by (with_reducible repeat (first|apply Kd.V_alloc|apply Kd.V_drewN|apply Kd.V_drew));exact Kd.V_mono (Kd.V_far (p:=⟨G392,1,none⟩) (Kd.V_far (p:=⟨G392,0,none⟩) (Kd.V_mono HO_383000.out (fun k_ hk => (⟨hk,hk.2.2.2⟩ : _ ∧ k_ ≠ G392))) (fun _ hk => hk.2) (.slice Ao26 t387.length co26)) (fun _ hk => hk.2) (.bool t390)) (fun _ hk => ⟨hk.1.1,⟨hk.1.2.1,⟨hk.1.2.2.1,hk.1.2.2.2⟩⟩⟩)⟩
         have n1_ : Aside0 (Kd.R k39 39 ((w25.setCell ⟨G392,0,none⟩ (.slice Ao26 t387.length co26)).setCell ⟨G392,1,none⟩ (.bool t390)) w.heap.size (fun k_ => (w.heap.size ≤ k_)) (.slice Ao26 t387.length co26) t387):=⟨by (with_reducible repeat (first|apply Kd.R_alloc|apply Kd.R_drewN|apply Kd.R_drew));exact Kd.R_mono (Kd.R_far (p:=⟨G392,1,none⟩) (Kd.R_far (p:=⟨G392,0,none⟩) (Kd.R_types HO389.out K392.1 (by decide)) (fun _ hk => hk.2) (.slice Ao26 t387.length co26)) (fun _ hk => hk.2) (.bool t390)) (fun _ hk => hk.1)⟩
         have n2_ : Aside0 (((w25.setCell ⟨G392,0,none⟩ (.slice Ao26 t387.length co26)).setCell ⟨G392,1,none⟩ (.bool t390)).heap[G382]? = some (.cells #[.slice Ao21 x383000_2.length co21,.bool x383001_2] 24 (0,0))):=⟨zf K382⟩
         have n3_ : Aside0 (((w25.setCell ⟨G392,0,none⟩ (.slice Ao26 t387.length co26)).setCell ⟨G392,1,none⟩ (.bool t390)).heap[G392]? = some (.cells #[.slice Ao26 t387.length co26,.bool t390] 24 (0,0))):=⟨zF K392⟩
         have n4_ : Aside0 (Below w.heap.size w ((w25.setCell ⟨G392,0,none⟩ (.slice Ao26 t387.length co26)).setCell ⟨G392,1,none⟩ (.bool t390))):=⟨zH HB⟩
         (try clear HO_383000)
         (try clear HO389)
         (try clear K382)
         (try clear K392)
         (try clear HB)
         generalize ((w25.setCell ⟨G392,0,none⟩ (.slice Ao26 t387.length co26)).setCell ⟨G392,1,none⟩ (.bool t390)) = w29 at n0_ n1_ n2_ n3_ n4_ ⊢
         have HO_383000:=n0_
         have HO389:=n1_
         have K382:=n2_
         have K392:=n3_
         have HB:=n4_
         clear n0_ n1_ n2_ n3_ n4_
         replace HO_383000:=Aside0.mk (Kd.V_drew HO_383000.out)
         replace HO389:=Aside0.mk (Kd.R_drew HO389.out)
         replace K382:=Aside0.mk (bD K382.1)
         replace K392:=Aside0.mk (bD K392.1)
         replace HB:=Aside0.mk (bw1 HB.1)
         have p393 : 0 ≤ (x7_2 : Int):=zd
         have q393 : x7_2 < (l1.length : Int):=zd
         obtain ⟨ad393,A393_0,c393_0,e393,hx393_0,hl393_0,hi393_0⟩:=at_L3 HR1.out x7_2 p393 q393
         have hw393_0:=hx393_0
         obtain rfl : ad386 = ad393:=(by injection e393)
         replace hx393_0:=zh HB hx393_0
         have HR393_0:=Aside0.mk hi393_0
         have HC393_0:=Aside0.mk hl393_0
         clear hi393_0 hl393_0
         replace p393:=eq_true p393
         replace q393:=eq_true q393
         refine start_ (n:=13) (S:=fun w' => w'.cell? ⟨G392,0,none⟩ = some (.slice Ao26 t387.length co26) ∧ w'.cell? ⟨G392,1,none⟩ = some (.bool t390) ∧ w'.cell? (ad386.add (x7_2).toNat) = some (.slice A393_0 (rd_L3 l1 x7_2).length c393_0)) (ds:=[]) #[F,F,F,F,F,F,F,F,F,F,F,F,F] (by kernel_rfl) rfl rfl ⟨zk K392 0,zk K392 1,(zh HB hw393_0)⟩ (fun hHeld => ?_);refine with_tabW beaconlaw17_TableRoom.tab8 beaconlaw17_TableRoom.bits8 (fun HT_ HW_ => ?_)
         generalize w29.drew = w30 at HO_383000 HO389 K382 K392 HB HR393_0 hx393_0 hHeld ⊢
         refine pz 1 39 #[F,T,F,F,F,F,F,F,F,F,F,F,F] HT_.1 ?_
         refine pz 2 40 #[F,T,T,F,F,F,F,F,F,F,F,F,F] HT_.1 ?_
         refine pz 3 41 #[F,T,T,T,F,F,F,F,F,F,F,F,F] HT_.1 ?_
         refine pz 5 43 #[F,T,T,T,F,T,F,F,F,F,F,F,F] HT_.1 ?_
         refine tz 0 38 #[T,T,T,T,F,T,F,F,F,F,F,F,F] HT_.1 HW_.1 hHeld ?_
         refine tz 4 42 #[T,T,T,T,T,T,F,F,F,F,F,F,F] HT_.1 HW_.1 hHeld ?_
         refine join_ (σ:=Value × Nat) 2 #[T,T,T,T,T,T,T,T,T,T,T,F,F] (fun s_ => [(44,.tuple #[.agg #[s_.1,.bool t397],.int .i64 t398]),(10,.pointer (some ⟨s_.2,0,none⟩)),(37,.tuple #[.agg #[s_.1,.bool t397],.int .i64 t398]),(45,.agg #[s_.1,.bool t397]),(46,.int .i64 t398)]) (fun s_ w' => (w'.cell? ⟨G392,0,none⟩ = some (.slice Ao26 t387.length co26) ∧ w'.cell? ⟨G392,1,none⟩ = some (.bool t390) ∧ w'.cell? (ad386.add (x7_2).toNat) = some (.slice A393_0 (rd_L3 l1 x7_2).length c393_0)) ∧ (Kd.R k39 39 w' w.heap.size (fun k_ => (w.heap.size ≤ k_) ∧ some k_ ≠ (s_.1 : Value).ownBlock) (.slice Ao26 t387.length co26) t387) ∧ (Kd.R k39 39 w' w.heap.size (fun k_ => (w.heap.size ≤ k_) ∧ some k_ ≠ (.slice Ao26 t387.length co26 : Value).ownBlock) s_.1 t394) ∧ (Kd.V k39 39 w' w.heap.size (fun k_ => (P0_0_ k_ ∨ w.heap.size ≤ k_) ∧ some k_ ≠ (.slice Ao26 t387.length co26 : Value).ownBlock ∧ some k_ ≠ (s_.1 : Value).ownBlock ∧ k_ ≠ G382 ∧ k_ ≠ G392 ∧ k_ ≠ s_.2) (.slice Ao21 x383000_2.length co21) x383000_2) ∧ (w'.heap[G382]? = some (.cells #[.slice Ao21 x383000_2.length co21,.bool x383001_2] 24 (0,0))) ∧ (w'.heap[G392]? = some (.cells #[.slice Ao26 t387.length co26,.bool t390] 24 (0,0))) ∧ (w'.heap[s_.2]? = some (.cells #[.slice none 0 0,.bool false] 24 (0,0))) ∧ (w.heap.size ≤ s_.2) ∧ (w.heap.size ≤ s_.2) ∧ (G382 ≠ s_.2) ∧ (s_.2 ≠ G382) ∧ (G392 ≠ s_.2) ∧ (s_.2 ≠ G392) ∧ (Below w.heap.size w w')) ?_ ?_
         rotate_left
         ·intro hCont
          refine two_ (i:=6) (j:=10) (Ni:=some 44) (Nj:=some 10) #[T,T,T,T,T,T,T,F,F,F,F,F,F] #[T,T,T,T,T,T,F,F,F,F,T,F,F] rfl rfl rfl rfl (two_of HT_.out (by kernel_rfl)) (by decide) (by decide) (fun K hK => ?_) (fun K hK => ?_)
          ·skip
           refine goes_ Try.func14 (by kernel_rfl) rfl #[.agg #[.slice Ao26 t387.length co26,.bool t390],.slice A393_0 (rd_L3 l1 x7_2).length c393_0,.int .i64 a2] (by rfl) rfl rfl (by (try simp only [List.map_toArray,List.map_cons,List.map_nil]);first|done|rfl|(simp only [List.length_drop,List.length_take];rfl)) ?_
           with_reducible refine (table_Keep.calls k2 _ _ t387 t390 _ _ (rd_L3 l1 x7_2) a2 t394 t397 t398 _ ?side1 ?side2 ?side3 ?side4 A19.out).mono ?_
           (case side1 => exact zC ((Kd.R_reads' HO389.out).2.2))
           (case side2 => exact (Kd.R_reads' HO389.out).2.1)
           (case side3 => exact zC (Kd.C_below HR393_0.out HB.1))
           (case side4 => exact HC393_0.out)
           rintro e w31 ⟨v395,rfl,ho0,hb⟩
           refine ⟨_,rfl,?_⟩
           replace HO_383000:=Aside0.mk (Kd.V_elder' (by (with_reducible repeat (first|apply Kd.V_alloc|apply Kd.V_drewN|apply Kd.V_drew));exact HO_383000.out) (Kd.R_base ho0) hb)
           have HO396:=Aside0.mk (Kd.R_lower (Kd.R_new' (Kd.R_newM (M:=fun k_ => (w.heap.size ≤ k_)) ho0 (zW HB) (fun k_ h_ => h_)) (Kd.R_lt (zR HO389))) (zW HB))
           replace HO389:=Aside0.mk (Kd.R_elder' (zR HO389) (Kd.R_base ho0) hb)
           replace K382:=zB K382 hb
           replace K392:=zB K392 hb
           replace HB:=zS HB hb
           (try clear hb)
           (try clear hb2)
           (try clear hk)
           (try clear hi)
           (try clear ho0)
           refine hK.out _ _ ⟨zk K392 0,zk K392 1,(zh HB hw393_0)⟩ (fun hHeld => ?_)
           clear hK K
           refine nz 44 ?_
           refine pz 7 37 #[T,T,T,T,T,T,T,T,F,F,F,F,F] HT_.1 ?_
           refine pz 8 45 #[T,T,T,T,T,T,T,T,T,F,F,F,F] HT_.1 ?_
           refine pz 9 46 #[T,T,T,T,T,T,T,T,T,T,F,F,F] HT_.1 ?_
           refine one_ (i:=10) (N:=some 10) #[T,T,T,T,T,T,T,T,T,T,T,F,F] rfl rfl (one_of HT_.out (by kernel_rfl)) (by decide) (fun K hK => ?_)
           refine box_step ?hg (N:=10) ?hd (cs:=#[.slice none 0 0,.bool false]) (t:=24) ?hr ?_;(case hd => rfl);(case hg => exact zw);(case hr => first|(go_simp;done)|(go_simp;rfl))
           intro G399 hg w32 hbox hb
           replace HO_383000:=Aside0.mk (Kd.V_below (Kd.V_elderB (by (with_reducible repeat (first|apply Kd.V_alloc|apply Kd.V_drewN|apply Kd.V_drew));exact HO_383000.out) G399 (Nat.le_of_eq hg.symm)) hb)
           replace HO389:=Aside0.mk (Kd.R_below (zR HO389) hb)
           replace HO396:=Aside0.mk (Kd.R_below (zR HO396) hb)
           have K399:=Aside0.mk (hbox)
           have GW399:=zN HB hg
           have GE399:=zN HB hg
           replace HB:=zS HB hb
           have NB382_399:=zL K382 hg
           have NB399_382:=zG K382 hg
           replace K382:=zB K382 hb
           have NB392_399:=zL K392 hg
           have NB399_392:=zG K392 hg
           replace K392:=zB K392 hb
           clear hb hbox hg
           refine hK.out _ _ ⟨zk K392 0,zk K392 1,(zh HB hw393_0)⟩ (fun hHeld => ?_)
           clear hK K
           refine nz 10 ?_
           exact norm_ (by simp only [putAll,Act.put,xA,xB,xC]) (hCont (v395,G399) _ ⟨hHeld,(zR HO389),(by (with_reducible repeat (first|apply Kd.R_alloc|apply Kd.R_drewN|apply Kd.R_drew));exact Kd.R_mono HO396.out (fun _ hk => ⟨hk.1.1,hk.2⟩)),(by (with_reducible repeat (first|apply Kd.V_alloc|apply Kd.V_drewN|apply Kd.V_drew));exact Kd.V_mono HO_383000.out (fun _ hk => ⟨hk.1.1.1,⟨hk.1.1.2.1,⟨hk.1.2,⟨hk.1.1.2.2.1,⟨hk.1.1.2.2.2,hk.2⟩⟩⟩⟩⟩)),(z1 K382.1),(z1 K392.1),(z1 K399.1),GW399.1,GE399.1,NB382_399.1,NB399_382.1,NB392_399.1,NB399_392.1,(zH HB)⟩)
          ·skip
           refine box_step ?hg (N:=10) ?hd (cs:=#[.slice none 0 0,.bool false]) (t:=24) ?hr ?_;(case hd => rfl);(case hg => exact zw);(case hr => first|(go_simp;done)|(go_simp;rfl))
           intro G399 hg w31 hbox hb
           replace HO_383000:=Aside0.mk (Kd.V_below (Kd.V_elderB (by (with_reducible repeat (first|apply Kd.V_alloc|apply Kd.V_drewN|apply Kd.V_drew));exact HO_383000.out) G399 (Nat.le_of_eq hg.symm)) hb)
           replace HO389:=Aside0.mk (Kd.R_below (zR HO389) hb)
           have K399:=Aside0.mk (hbox)
           have GW399:=zN HB hg
           have GE399:=zN HB hg
           replace HB:=zS HB hb
           have NB382_399:=zL K382 hg
           have NB399_382:=zG K382 hg
           replace K382:=zB K382 hb
           have NB392_399:=zL K392 hg
           have NB399_392:=zG K392 hg
           replace K392:=zB K392 hb
           clear hb hbox hg
           refine hK.out _ _ ⟨zk K392 0,zk K392 1,(zh HB hw393_0)⟩ (fun hHeld => ?_)
           clear hK K
           refine nz 10 ?_
           refine one_ (i:=6) (N:=some 44) #[T,T,T,T,T,T,T,F,F,F,T,F,F] rfl rfl (one_of HT_.out (by kernel_rfl)) (by decide) (fun K hK => ?_)
           refine goes_ Try.func14 (by kernel_rfl) rfl #[.agg #[.slice Ao26 t387.length co26,.bool t390],.slice A393_0 (rd_L3 l1 x7_2).length c393_0,.int .i64 a2] (by rfl) rfl rfl (by (try simp only [List.map_toArray,List.map_cons,List.map_nil]);first|done|rfl|(simp only [List.length_drop,List.length_take];rfl)) ?_
           with_reducible refine (table_Keep.calls k2 _ _ t387 t390 _ _ (rd_L3 l1 x7_2) a2 t394 t397 t398 _ ?side1 ?side2 ?side3 ?side4 A19.out).mono ?_
           (case side1 => exact zC ((Kd.R_reads' HO389.out).2.2))
           (case side2 => exact (Kd.R_reads' HO389.out).2.1)
           (case side3 => exact zC (Kd.C_below HR393_0.out HB.1))
           (case side4 => exact HC393_0.out)
           rintro e w32 ⟨v395,rfl,ho0,hb⟩
           refine ⟨_,rfl,?_⟩
           replace HO_383000:=Aside0.mk (Kd.V_elder' (by (with_reducible repeat (first|apply Kd.V_alloc|apply Kd.V_drewN|apply Kd.V_drew));exact HO_383000.out) (Kd.R_base ho0) hb)
           have HO396:=Aside0.mk (Kd.R_lower (Kd.R_new' (Kd.R_newM (M:=fun k_ => (w.heap.size ≤ k_)) ho0 (zW HB) (fun k_ h_ => h_)) (Kd.R_lt (zR HO389))) (zW HB))
           replace HO389:=Aside0.mk (Kd.R_elder' (zR HO389) (Kd.R_base ho0) hb)
           replace K382:=zB K382 hb
           replace K392:=zB K392 hb
           replace K399:=zB K399 hb
           replace HB:=zS HB hb
           (try clear hb)
           (try clear hb2)
           (try clear hk)
           (try clear hi)
           (try clear ho0)
           refine hK.out _ _ ⟨zk K392 0,zk K392 1,(zh HB hw393_0)⟩ (fun hHeld => ?_)
           clear hK K
           refine nz 44 ?_
           refine pz 7 37 #[T,T,T,T,T,T,T,T,F,F,T,F,F] HT_.1 ?_
           refine pz 8 45 #[T,T,T,T,T,T,T,T,T,F,T,F,F] HT_.1 ?_
           refine pz 9 46 #[T,T,T,T,T,T,T,T,T,T,T,F,F] HT_.1 ?_
           exact norm_ (by simp only [putAll,Act.put,xA,xB,xC]) (hCont (v395,G399) _ ⟨hHeld,(zR HO389),(by (with_reducible repeat (first|apply Kd.R_alloc|apply Kd.R_drewN|apply Kd.R_drew));exact Kd.R_mono HO396.out (fun _ hk => ⟨hk.1.1,hk.2⟩)),(by (with_reducible repeat (first|apply Kd.V_alloc|apply Kd.V_drewN|apply Kd.V_drew));exact Kd.V_mono HO_383000.out (fun _ hk => ⟨hk.1.1.1,⟨hk.1.1.2.1,⟨hk.2,⟨hk.1.1.2.2.1,⟨hk.1.1.2.2.2,hk.1.2⟩⟩⟩⟩⟩)),(z1 K382.1),(z1 K392.1),(z1 K399.1),GW399.1,GE399.1,NB382_399.1,NB399_382.1,NB392_399.1,NB399_392.1,(zH HB)⟩)
         rintro ⟨v395,G399⟩ w33 ⟨hS_,h0_,h1_,h2_,h3_,h4_,h5_,h6_,h7_,h8_,h9_,h10_,h11_,h12_⟩
         replace HO389 : Aside0 (Kd.R k39 39 w33 w.heap.size (fun k_ => (w.heap.size ≤ k_) ∧ some k_ ≠ (v395 : Value).ownBlock) (.slice Ao26 t387.length co26) t387):=⟨h0_⟩
         have HO396 : Aside0 (Kd.R k39 39 w33 w.heap.size (fun k_ => (w.heap.size ≤ k_) ∧ some k_ ≠ (.slice Ao26 t387.length co26 : Value).ownBlock) v395 t394):=⟨h1_⟩
         replace HO_383000 : Aside0 (Kd.V k39 39 w33 w.heap.size (fun k_ => (P0_0_ k_ ∨ w.heap.size ≤ k_) ∧ some k_ ≠ (.slice Ao26 t387.length co26 : Value).ownBlock ∧ some k_ ≠ (v395 : Value).ownBlock ∧ k_ ≠ G382 ∧ k_ ≠ G392 ∧ k_ ≠ G399) (.slice Ao21 x383000_2.length co21) x383000_2):=⟨h2_⟩
         replace K382 : Aside0 (w33.heap[G382]? = some (.cells #[.slice Ao21 x383000_2.length co21,.bool x383001_2] 24 (0,0))):=⟨h3_⟩
         replace K392 : Aside0 (w33.heap[G392]? = some (.cells #[.slice Ao26 t387.length co26,.bool t390] 24 (0,0))):=⟨h4_⟩
         have K399 : Aside0 (w33.heap[G399]? = some (.cells #[.slice none 0 0,.bool false] 24 (0,0))):=⟨h5_⟩
         have GW399 : Aside0 (w.heap.size ≤ G399):=⟨h6_⟩
         have GE399 : Aside0 (w.heap.size ≤ G399):=⟨h7_⟩
         have NB382_399 : Aside0 (G382 ≠ G399):=⟨h8_⟩
         have NB399_382 : Aside0 (G399 ≠ G382):=⟨h9_⟩
         have NB392_399 : Aside0 (G392 ≠ G399):=⟨h10_⟩
         have NB399_392 : Aside0 (G399 ≠ G392):=⟨h11_⟩
         replace HB : Aside0 (Below w.heap.size w w33):=⟨h12_⟩
         clear h0_ h10_ h11_ h12_ h1_ h2_ h3_ h4_ h5_ h6_ h7_ h8_ h9_
         have hHeld : w33.cell? ⟨G392,0,none⟩ = some (.slice Ao26 t387.length co26) ∧ w33.cell? ⟨G392,1,none⟩ = some (.bool t390) ∧ w33.cell? (ad386.add (x7_2).toNat) = some (.slice A393_0 (rd_L3 l1 x7_2).length c393_0):=hS_
         obtain ⟨Ao34,co34,eo34⟩:=Kd.R_slice HO396.out
         (first|subst eo34|(injection eo34 with f1_ f2_ f3_;have f4_:=f1_.symm;have f5_:=f3_.symm;clear f1_ f2_ f3_;subst f4_;subst f5_))
         refine norm_ (a':=?_) ?_ ?_
         rotate_left
         ·simp only [putAll,Act.put,xA,xB,xC]
          rfl
         refine one_ (i:=11) (N:=none) #[T,T,T,T,T,T,T,T,T,T,T,T,F] rfl rfl (one_of HT_.out (by kernel_rfl)) (by decide) (fun K hK => ?_)
         have hs35 : w33.cell? ⟨G399,0,none⟩ = some (.slice none 0 0):=zk K399 0
         have hfs35:=bF K399.1 0
         have hns35_0:=NB382_399.1
         have hns35_1:=NB392_399.1
         have hms35_0:=NB399_382.1
         have hms35_1:=NB399_392.1
         have hs36 : w33.cell? ⟨G399,1,none⟩ = some (.bool false):=zk K399 1
         have hfs36:=bF K399.1 1
         have hns36_0:=NB382_399.1
         have hns36_1:=NB392_399.1
         have hms36_0:=NB399_382.1
         have hms36_1:=NB399_392.1
         refine sz ?_
         refine hK.out _ _ ⟨((cF (p:=⟨G399,_,none⟩) NB392_399.1 _).trans (((cF (p:=⟨G399,_,none⟩) NB392_399.1 _).trans (hHeld.1)))),((cF (p:=⟨G399,_,none⟩) NB392_399.1 _).trans (((cF (p:=⟨G399,_,none⟩) NB392_399.1 _).trans (hHeld.2.1)))),((cF (p:=⟨G399,_,none⟩) (ne_c hw393_0 GW399.1) _).trans (((cF (p:=⟨G399,_,none⟩) (ne_c hw393_0 GW399.1) _).trans (hHeld.2.2))))⟩ (fun hHeld => ?_)
         clear hK K
         refine pz 12 9 #[T,T,T,T,T,T,T,T,T,T,T,T,T] HT_.1 ?_
         refine done_ (done_of HT_.out (by kernel_rfl)) ?_
         go_upto_region 9 with (fail)
         go_cut [63] (fun v63 wc => ∃ (kq : Nat) (x63_19 : Bool),v63 = .bool x63_19 ∧ Aside0 (beaconlaw17_TableRoom.j2 kq l1 a2 x7_2 x63_19 x383000_2 x383001_2 t387 t390 = some r) ∧ Aside0 (kq ≤ k2) ∧ Aside0 (Kd.V k39 39 wc w.heap.size (fun k_ => (P0_0_ k_ ∨ w.heap.size ≤ k_) ∧ some k_ ≠ ((.slice Ao26 t387.length co26) : Value).ownBlock ∧ some k_ ≠ ((.slice Ao34 t394.length co34) : Value).ownBlock ∧ k_ ≠ G382 ∧ k_ ≠ G392 ∧ k_ ≠ G399) (.slice Ao21 x383000_2.length co21) x383000_2) ∧ Aside0 (Kd.R k39 39 wc w.heap.size (fun k_ => (w.heap.size ≤ k_) ∧ some k_ ≠ ((.slice Ao34 t394.length co34) : Value).ownBlock) (.slice Ao26 t387.length co26) t387) ∧ Aside0 (Kd.R k39 39 wc w.heap.size (fun k_ => (w.heap.size ≤ k_) ∧ some k_ ≠ ((.slice Ao26 t387.length co26) : Value).ownBlock) (.slice Ao34 t394.length co34) t394) ∧ Aside0 (wc.heap[G382]? = some (.cells #[(.slice Ao21 x383000_2.length co21),.bool x383001_2] 24 (0,0))) ∧ Aside0 (wc.heap[G392]? = some (.cells #[(.slice Ao26 t387.length co26),.bool t390] 24 (0,0))) ∧ Aside0 (wc.heap[G399]? = some (.cells #[(.slice Ao34 t394.length co34),.bool t397] 24 (0,0))) ∧ Aside0 (Below w.heap.size w wc))
         case first =>
          have H:=HC20.out
          clear HC20
          by_cases c37 : t398 = 0
          ·rw [if_pos c37] at H
           have c37b0 : (t398 == 0) = true:=beq_iff_eq.mpr c37
           have c37b1 : (t398 != 0) = false:=bne_eq_false_iff_eq.mpr c37
           clear c37
           (first|rw [c37b0]|(simp only [i64_w,i32_w];rw [c37b0])|skip)
           replace H:=Option.bind_eq_some_iff.mp H
           obtain ⟨t400,A380,H⟩:=H
           replace H : (if t400 = true then (if x383001_2 = true then (beaconlaw17_TableRoom.j2 k2 l1 a2 x7_2 (!t390) x383000_2 x383001_2 t387 t390) else (beaconlaw17_TableRoom.j2 k2 l1 a2 x7_2 false x383000_2 x383001_2 t387 t390)) else (beaconlaw17_TableRoom.j2 k2 l1 a2 x7_2 true x383000_2 x383001_2 t387 t390)) = some r:=H
           have A38:=Aside0.mk A380
           clear A380
           by_cases c39 : t400 = true
           ·subst c39
            have H1 : (if x383001_2 = true then (beaconlaw17_TableRoom.j2 k2 l1 a2 x7_2 (!t390) x383000_2 x383001_2 t387 t390) else (beaconlaw17_TableRoom.j2 k2 l1 a2 x7_2 false x383000_2 x383001_2 t387 t390)) = some r:=by rw [if_pos rfl] at H;exact H
            clear H
            have H:=H1
            clear H1
            by_cases c40 : x383001_2 = true
            ·subst c40
             have H1 : (beaconlaw17_TableRoom.j2 k2 l1 a2 x7_2 (!t390) x383000_2 true t387 t390) = some r:=by rw [if_pos rfl] at H;exact H
             clear H
             have H:=H1
             clear H1
             have H':=Aside0.mk H
             clear H
             have hnb41:=NB399_382.1
             have hnc41:=NB382_399.1
             have hnb42:=NB399_392.1
             have hnc42:=NB392_399.1
             have hcz43_0 : w33.cell? ⟨G399,0,none⟩ = some (.slice none 0 0):=zk K399 0
             have hcz43_1 : w33.cell? ⟨G399,1,none⟩ = some (.bool false):=zk K399 1
             have hfz43_0:=bF K399.1 0
             have hfz43_1:=bF K399.1 1
             have hnb44:=NB392_382.1
             have hnc44:=NB382_392.1
             have hcz45_0 : w33.cell? ⟨G392,0,none⟩ = some (.slice Ao26 t387.length co26):=zk K392 0
             have hcz45_1 : w33.cell? ⟨G392,1,none⟩ = some (.bool t390):=zk K392 1
             have hfz45_0:=bF K392.1 0
             have hfz45_1:=bF K392.1 1
             go_wp2_with (first|(go_at_call 15;(with_reducible refine (beaconlaw17_same.calls k2 _ _ t394 t397 _ _ t387 t390 true _ ?side1 ?side2 ?side3 ?side4 A38.out).mono ?_);(case side1 => refine (Kd.R_reads' (e:=39) (base:=w.heap.size) (ok:=fun k_ => ((w.heap.size ≤ k_) ∧ some k_ ≠ (.slice Ao26 t387.length co26 : Value).ownBlock)) (n:=t394.length) (c:=co34) ?_).2.2;exact (by (with_reducible repeat (first|apply Kd.R_alloc|apply Kd.R_drewN|apply Kd.R_drew));exact (Kd.R_mono (Kd.R_far (p:=⟨G399,1,none⟩) (Kd.R_far (p:=⟨G399,0,none⟩) (Kd.R_types HO396.out K399.1 (by decide)) (fun _ hk => hk.2) (.slice Ao34 t394.length co34)) (fun _ hk => hk.2) (.bool t397)) (fun _ h_ => h_.1))));(case side2 => exact (Kd.R_reads' HO396.out).2.1);(case side3 => refine (Kd.R_reads' (e:=39) (base:=w.heap.size) (ok:=fun k_ => ((w.heap.size ≤ k_) ∧ some k_ ≠ (.slice Ao34 t394.length co34 : Value).ownBlock)) (n:=t387.length) (c:=co26) ?_).2.2;exact (by (with_reducible repeat (first|apply Kd.R_alloc|apply Kd.R_drewN|apply Kd.R_drew));exact (Kd.R_mono (Kd.R_far (p:=⟨G399,1,none⟩) (Kd.R_far (p:=⟨G399,0,none⟩) (Kd.R_types HO389.out K399.1 (by decide)) (fun _ hk => hk.2) (.slice Ao34 t394.length co34)) (fun _ hk => hk.2) (.bool t397)) (fun _ h_ => h_.1))));(case side4 => exact (Kd.R_reads' HO389.out).2.1);rintro e w46 ⟨rfl,hb⟩;replace HO_383000:=Aside0.mk (Kd.V_below (by (with_reducible repeat (first|apply Kd.V_alloc|apply Kd.V_drewN|apply Kd.V_drew));exact (Kd.V_mono (Kd.V_far (p:=⟨G399,1,none⟩) (Kd.V_far (p:=⟨G399,0,none⟩) (Kd.V_mono HO_383000.out (fun k_ hk => (⟨hk,hk.2.2.2.2.2⟩ : _ ∧ k_ ≠ G399))) (fun _ hk => hk.2) (.slice Ao34 t394.length co34)) (fun _ hk => hk.2) (.bool t397)) (fun _ h_ => h_.1))) hb);replace HO389:=Aside0.mk (Kd.R_below (by (with_reducible repeat (first|apply Kd.R_alloc|apply Kd.R_drewN|apply Kd.R_drew));exact (Kd.R_mono (Kd.R_far (p:=⟨G399,1,none⟩) (Kd.R_far (p:=⟨G399,0,none⟩) (Kd.R_types HO389.out K399.1 (by decide)) (fun _ hk => hk.2) (.slice Ao34 t394.length co34)) (fun _ hk => hk.2) (.bool t397)) (fun _ h_ => h_.1))) hb);replace HO396:=Aside0.mk (Kd.R_below (by (with_reducible repeat (first|apply Kd.R_alloc|apply Kd.R_drewN|apply Kd.R_drew));exact (Kd.R_mono (Kd.R_far (p:=⟨G399,1,none⟩) (Kd.R_far (p:=⟨G399,0,none⟩) (Kd.R_types HO396.out K399.1 (by decide)) (fun _ hk => hk.2) (.slice Ao34 t394.length co34)) (fun _ hk => hk.2) (.bool t397)) (fun _ h_ => h_.1))) hb);replace K382:=zBf K382 hb;replace K392:=zBf K392 hb;replace K399:=zBp (.cells #[.slice Ao34 t394.length co34,.bool t397] 24 (0,0)) K399 hb;replace HB:=zS HB hb;(try clear hb);have hcz47_0 : w46.cell? ⟨G382,0,none⟩ = some (.slice Ao21 x383000_2.length co21):=zk K382 0;have hcz47_1 : w46.cell? ⟨G382,1,none⟩ = some (.bool true):=zk K382 1;have hfz47_0:=bF K382.1 0;have hfz47_1:=bF K382.1 1;have hcz48_0 : w46.cell? ⟨G392,0,none⟩ = some (.slice Ao26 t387.length co26):=zk K392 0;have hcz48_1 : w46.cell? ⟨G392,1,none⟩ = some (.bool t390):=zk K392 1;have hfz48_0:=bF K392.1 0;have hfz48_1:=bF K392.1 1))
             go_meet
             case rel => exact ⟨_,(!t390),ze,H',⟨by have:=HJ3.out;have:=HK2.out;first|omega|exact Nat.le_refl _⟩,⟨by (with_reducible repeat (first|apply Kd.V_alloc|apply Kd.V_drewN|apply Kd.V_drew));exact HO_383000.out⟩,⟨zR HO389⟩,⟨zR HO396⟩,⟨z1 K382.1⟩,⟨z1 K392.1⟩,⟨z1 K399.1⟩,⟨zH HB⟩⟩
            ·replace c40:=Bool.eq_false_iff.mpr c40
             subst c40
             have H1 : (beaconlaw17_TableRoom.j2 k2 l1 a2 x7_2 false x383000_2 false t387 t390) = some r:=by rw [if_neg (show ¬ (false = true) by decide)] at H;exact H
             clear H
             have H:=H1
             clear H1
             have H':=Aside0.mk H
             clear H
             have hnb49:=NB399_382.1
             have hnc49:=NB382_399.1
             have hnb50:=NB399_392.1
             have hnc50:=NB392_399.1
             have hcz51_0 : w33.cell? ⟨G399,0,none⟩ = some (.slice none 0 0):=zk K399 0
             have hcz51_1 : w33.cell? ⟨G399,1,none⟩ = some (.bool false):=zk K399 1
             have hfz51_0:=bF K399.1 0
             have hfz51_1:=bF K399.1 1
             have hnb52:=NB392_382.1
             have hnc52:=NB382_392.1
             have hcz53_0 : w33.cell? ⟨G392,0,none⟩ = some (.slice Ao26 t387.length co26):=zk K392 0
             have hcz53_1 : w33.cell? ⟨G392,1,none⟩ = some (.bool t390):=zk K392 1
             have hfz53_0:=bF K392.1 0
             have hfz53_1:=bF K392.1 1
             go_wp2_with (first|(go_at_call 15;(with_reducible refine (beaconlaw17_same.calls k2 _ _ t394 t397 _ _ t387 t390 true _ ?side1 ?side2 ?side3 ?side4 A38.out).mono ?_);(case side1 => refine (Kd.R_reads' (e:=39) (base:=w.heap.size) (ok:=fun k_ => ((w.heap.size ≤ k_) ∧ some k_ ≠ (.slice Ao26 t387.length co26 : Value).ownBlock)) (n:=t394.length) (c:=co34) ?_).2.2;exact (by (with_reducible repeat (first|apply Kd.R_alloc|apply Kd.R_drewN|apply Kd.R_drew));exact (Kd.R_mono (Kd.R_far (p:=⟨G399,1,none⟩) (Kd.R_far (p:=⟨G399,0,none⟩) (Kd.R_types HO396.out K399.1 (by decide)) (fun _ hk => hk.2) (.slice Ao34 t394.length co34)) (fun _ hk => hk.2) (.bool t397)) (fun _ h_ => h_.1))));(case side2 => exact (Kd.R_reads' HO396.out).2.1);(case side3 => refine (Kd.R_reads' (e:=39) (base:=w.heap.size) (ok:=fun k_ => ((w.heap.size ≤ k_) ∧ some k_ ≠ (.slice Ao34 t394.length co34 : Value).ownBlock)) (n:=t387.length) (c:=co26) ?_).2.2;exact (by (with_reducible repeat (first|apply Kd.R_alloc|apply Kd.R_drewN|apply Kd.R_drew));exact (Kd.R_mono (Kd.R_far (p:=⟨G399,1,none⟩) (Kd.R_far (p:=⟨G399,0,none⟩) (Kd.R_types HO389.out K399.1 (by decide)) (fun _ hk => hk.2) (.slice Ao34 t394.length co34)) (fun _ hk => hk.2) (.bool t397)) (fun _ h_ => h_.1))));(case side4 => exact (Kd.R_reads' HO389.out).2.1);rintro e w54 ⟨rfl,hb⟩;replace HO_383000:=Aside0.mk (Kd.V_below (by (with_reducible repeat (first|apply Kd.V_alloc|apply Kd.V_drewN|apply Kd.V_drew));exact (Kd.V_mono (Kd.V_far (p:=⟨G399,1,none⟩) (Kd.V_far (p:=⟨G399,0,none⟩) (Kd.V_mono HO_383000.out (fun k_ hk => (⟨hk,hk.2.2.2.2.2⟩ : _ ∧ k_ ≠ G399))) (fun _ hk => hk.2) (.slice Ao34 t394.length co34)) (fun _ hk => hk.2) (.bool t397)) (fun _ h_ => h_.1))) hb);replace HO389:=Aside0.mk (Kd.R_below (by (with_reducible repeat (first|apply Kd.R_alloc|apply Kd.R_drewN|apply Kd.R_drew));exact (Kd.R_mono (Kd.R_far (p:=⟨G399,1,none⟩) (Kd.R_far (p:=⟨G399,0,none⟩) (Kd.R_types HO389.out K399.1 (by decide)) (fun _ hk => hk.2) (.slice Ao34 t394.length co34)) (fun _ hk => hk.2) (.bool t397)) (fun _ h_ => h_.1))) hb);replace HO396:=Aside0.mk (Kd.R_below (by (with_reducible repeat (first|apply Kd.R_alloc|apply Kd.R_drewN|apply Kd.R_drew));exact (Kd.R_mono (Kd.R_far (p:=⟨G399,1,none⟩) (Kd.R_far (p:=⟨G399,0,none⟩) (Kd.R_types HO396.out K399.1 (by decide)) (fun _ hk => hk.2) (.slice Ao34 t394.length co34)) (fun _ hk => hk.2) (.bool t397)) (fun _ h_ => h_.1))) hb);replace K382:=zBf K382 hb;replace K392:=zBf K392 hb;replace K399:=zBp (.cells #[.slice Ao34 t394.length co34,.bool t397] 24 (0,0)) K399 hb;replace HB:=zS HB hb;(try clear hb);have hcz55_0 : w54.cell? ⟨G382,0,none⟩ = some (.slice Ao21 x383000_2.length co21):=zk K382 0;have hcz55_1 : w54.cell? ⟨G382,1,none⟩ = some (.bool false):=zk K382 1;have hfz55_0:=bF K382.1 0;have hfz55_1:=bF K382.1 1))
             go_meet
             case rel => exact ⟨_,(false),ze,H',⟨by have:=HJ3.out;have:=HK2.out;first|omega|exact Nat.le_refl _⟩,⟨by (with_reducible repeat (first|apply Kd.V_alloc|apply Kd.V_drewN|apply Kd.V_drew));exact HO_383000.out⟩,⟨zR HO389⟩,⟨zR HO396⟩,⟨z1 K382.1⟩,⟨z1 K392.1⟩,⟨z1 K399.1⟩,⟨zH HB⟩⟩
           ·replace c39:=Bool.eq_false_iff.mpr c39
            subst c39
            have H1 : (beaconlaw17_TableRoom.j2 k2 l1 a2 x7_2 true x383000_2 x383001_2 t387 t390) = some r:=by rw [if_neg (show ¬ (false = true) by decide)] at H;exact H
            clear H
            have H:=H1
            clear H1
            have H':=Aside0.mk H
            clear H
            have hnb56:=NB399_382.1
            have hnc56:=NB382_399.1
            have hnb57:=NB399_392.1
            have hnc57:=NB392_399.1
            have hcz58_0 : w33.cell? ⟨G399,0,none⟩ = some (.slice none 0 0):=zk K399 0
            have hcz58_1 : w33.cell? ⟨G399,1,none⟩ = some (.bool false):=zk K399 1
            have hfz58_0:=bF K399.1 0
            have hfz58_1:=bF K399.1 1
            have hnb59:=NB392_382.1
            have hnc59:=NB382_392.1
            have hcz60_0 : w33.cell? ⟨G392,0,none⟩ = some (.slice Ao26 t387.length co26):=zk K392 0
            have hcz60_1 : w33.cell? ⟨G392,1,none⟩ = some (.bool t390):=zk K392 1
            have hfz60_0:=bF K392.1 0
            have hfz60_1:=bF K392.1 1
            go_wp2_with (first|(go_at_call 15;(with_reducible refine (beaconlaw17_same.calls k2 _ _ t394 t397 _ _ t387 t390 false _ ?side1 ?side2 ?side3 ?side4 A38.out).mono ?_);(case side1 => refine (Kd.R_reads' (e:=39) (base:=w.heap.size) (ok:=fun k_ => ((w.heap.size ≤ k_) ∧ some k_ ≠ (.slice Ao26 t387.length co26 : Value).ownBlock)) (n:=t394.length) (c:=co34) ?_).2.2;exact (by (with_reducible repeat (first|apply Kd.R_alloc|apply Kd.R_drewN|apply Kd.R_drew));exact (Kd.R_mono (Kd.R_far (p:=⟨G399,1,none⟩) (Kd.R_far (p:=⟨G399,0,none⟩) (Kd.R_types HO396.out K399.1 (by decide)) (fun _ hk => hk.2) (.slice Ao34 t394.length co34)) (fun _ hk => hk.2) (.bool t397)) (fun _ h_ => h_.1))));(case side2 => exact (Kd.R_reads' HO396.out).2.1);(case side3 => refine (Kd.R_reads' (e:=39) (base:=w.heap.size) (ok:=fun k_ => ((w.heap.size ≤ k_) ∧ some k_ ≠ (.slice Ao34 t394.length co34 : Value).ownBlock)) (n:=t387.length) (c:=co26) ?_).2.2;exact (by (with_reducible repeat (first|apply Kd.R_alloc|apply Kd.R_drewN|apply Kd.R_drew));exact (Kd.R_mono (Kd.R_far (p:=⟨G399,1,none⟩) (Kd.R_far (p:=⟨G399,0,none⟩) (Kd.R_types HO389.out K399.1 (by decide)) (fun _ hk => hk.2) (.slice Ao34 t394.length co34)) (fun _ hk => hk.2) (.bool t397)) (fun _ h_ => h_.1))));(case side4 => exact (Kd.R_reads' HO389.out).2.1);rintro e w61 ⟨rfl,hb⟩;replace HO_383000:=Aside0.mk (Kd.V_below (by (with_reducible repeat (first|apply Kd.V_alloc|apply Kd.V_drewN|apply Kd.V_drew));exact (Kd.V_mono (Kd.V_far (p:=⟨G399,1,none⟩) (Kd.V_far (p:=⟨G399,0,none⟩) (Kd.V_mono HO_383000.out (fun k_ hk => (⟨hk,hk.2.2.2.2.2⟩ : _ ∧ k_ ≠ G399))) (fun _ hk => hk.2) (.slice Ao34 t394.length co34)) (fun _ hk => hk.2) (.bool t397)) (fun _ h_ => h_.1))) hb);replace HO389:=Aside0.mk (Kd.R_below (by (with_reducible repeat (first|apply Kd.R_alloc|apply Kd.R_drewN|apply Kd.R_drew));exact (Kd.R_mono (Kd.R_far (p:=⟨G399,1,none⟩) (Kd.R_far (p:=⟨G399,0,none⟩) (Kd.R_types HO389.out K399.1 (by decide)) (fun _ hk => hk.2) (.slice Ao34 t394.length co34)) (fun _ hk => hk.2) (.bool t397)) (fun _ h_ => h_.1))) hb);replace HO396:=Aside0.mk (Kd.R_below (by (with_reducible repeat (first|apply Kd.R_alloc|apply Kd.R_drewN|apply Kd.R_drew));exact (Kd.R_mono (Kd.R_far (p:=⟨G399,1,none⟩) (Kd.R_far (p:=⟨G399,0,none⟩) (Kd.R_types HO396.out K399.1 (by decide)) (fun _ hk => hk.2) (.slice Ao34 t394.length co34)) (fun _ hk => hk.2) (.bool t397)) (fun _ h_ => h_.1))) hb);replace K382:=zBf K382 hb;replace K392:=zBf K392 hb;replace K399:=zBp (.cells #[.slice Ao34 t394.length co34,.bool t397] 24 (0,0)) K399 hb;replace HB:=zS HB hb;(try clear hb)))
            go_meet
            case rel => exact ⟨_,(true),ze,H',⟨by have:=HJ3.out;have:=HK2.out;first|omega|exact Nat.le_refl _⟩,⟨by (with_reducible repeat (first|apply Kd.V_alloc|apply Kd.V_drewN|apply Kd.V_drew));exact HO_383000.out⟩,⟨zR HO389⟩,⟨zR HO396⟩,⟨z1 K382.1⟩,⟨z1 K392.1⟩,⟨z1 K399.1⟩,⟨zH HB⟩⟩
          ·rw [if_neg c37] at H
           have c37b0 : (t398 == 0) = false:=beq_eq_false_iff_ne.mpr c37
           have c37b1 : (t398 != 0) = true:=bne_iff_ne.mpr c37
           (first|rw [c37b0]|(simp only [i64_w,i32_w];rw [c37b0])|skip)
           have H':=Aside0.mk H
           clear H
           go_wp2
           go_meet
           case rel => exact ⟨_,(true),ze,H',⟨by have:=HJ3.out;have:=HK2.out;first|omega|exact Nat.le_refl _⟩,⟨by (with_reducible repeat (first|apply Kd.V_alloc|apply Kd.V_drewN|apply Kd.V_drew));exact Kd.V_mono (Kd.V_far (p:=⟨G399,1,none⟩) (Kd.V_far (p:=⟨G399,0,none⟩) (Kd.V_mono HO_383000.out (fun k_ hk => (⟨hk,hk.2.2.2.2.2⟩ : _ ∧ k_ ≠ G399))) (fun _ hk => hk.2) (.slice Ao34 t394.length co34)) (fun _ hk => hk.2) (.bool t397)) (fun _ hk => ⟨hk.1.1,⟨hk.1.2.1,⟨hk.1.2.2.1,⟨hk.1.2.2.2.1,⟨hk.1.2.2.2.2.1,hk.1.2.2.2.2.2⟩⟩⟩⟩⟩)⟩,⟨by (with_reducible repeat (first|apply Kd.R_alloc|apply Kd.R_drewN|apply Kd.R_drew));exact Kd.R_mono (Kd.R_far (p:=⟨G399,1,none⟩) (Kd.R_far (p:=⟨G399,0,none⟩) (Kd.R_types HO389.out K399.1 (by decide)) (fun _ hk => hk.2) (.slice Ao34 t394.length co34)) (fun _ hk => hk.2) (.bool t397)) (fun _ hk => ⟨hk.1.1,hk.1.2⟩)⟩,⟨by (with_reducible repeat (first|apply Kd.R_alloc|apply Kd.R_drewN|apply Kd.R_drew));exact Kd.R_mono (Kd.R_far (p:=⟨G399,1,none⟩) (Kd.R_far (p:=⟨G399,0,none⟩) (Kd.R_types HO396.out K399.1 (by decide)) (fun _ hk => hk.2) (.slice Ao34 t394.length co34)) (fun _ hk => hk.2) (.bool t397)) (fun _ hk => ⟨hk.1.1,hk.1.2⟩)⟩,⟨zf K382⟩,⟨zf K392⟩,⟨zF K399⟩,⟨zH HB⟩⟩
         case rest =>
          clear HC20
          try clear c1;try clear p2;try clear c3;try clear p3;try clear q3;try clear hx3;try clear c4;try clear c5;try clear c14;try clear c37;try clear c37b0;try clear c37b1;try clear c38;try clear c39;try clear p39;try clear q39;try clear hx39;try clear c40;try clear c41;try clear c42;try clear c44;try clear c49;try clear c50;try clear c52;try clear c56;try clear c57;try clear c59;try clear hcz43_0;try clear hcz43_1;try clear hcz45_0;try clear hcz45_1;try clear hcz47_0;try clear hcz47_1;try clear hcz48_0;try clear hcz48_1;try clear hcz51_0;try clear hcz51_1;try clear hcz53_0;try clear hcz53_1;try clear hcz55_0;try clear hcz55_1;try clear hcz58_0;try clear hcz58_1;try clear hcz60_0;try clear hcz60_1;try clear hfz43_0;try clear hfz43_1;try clear hfz45_0;try clear hfz45_1;try clear hfz47_0;try clear hfz47_1;try clear hfz48_0;try clear hfz48_1;try clear hfz51_0;try clear hfz51_1;try clear hfz53_0;try clear hfz53_1;try clear hfz55_0;try clear hfz55_1;try clear hfz58_0;try clear hfz58_1;try clear hfz60_0;try clear hfz60_1;try clear hx393_0;try clear p393;try clear q393
          obtain ⟨kq,x63_19,rfl,HA,HJ19,HO_383000,HO_393000,HO_400000,K382,K392,K399,HB⟩:=hcut
          cases kq with
          | zero => exact absurd HA.out (by simp [beaconlaw17_TableRoom.j2])
          | succ kj19 =>
           have H:=HA.out
           clear HA
           simp only [beaconlaw17_TableRoom.j2] at H
           by_cases c62 : x63_19 = true
           ·subst c62
            have H1 : (some false) = some r:=by rw [if_pos rfl] at H;exact H
            clear H
            have H:=H1
            clear H1
            obtain rfl:=Option.some.inj H
            go_wp2
            go_ret
            exact ⟨by first|rfl|(simp [errW_none,errW_some] <;> rfl)|(simp [*,errW_none,errW_some] <;> rfl),zH HB⟩
           ·replace c62:=Bool.eq_false_iff.mpr c62
            subst c62
            have H1 : (if x383001_2 = true then (if t390 = true then (beaconlaw17_TableRoom.l0 kj19 l1 a2 (wrap64 (x7_2 + 1)) t387 t390) else (beaconlaw17_TableRoom.l0 kj19 l1 a2 (wrap64 (x7_2 + 1)) t387 t390)) else (if 0 ≤ x7_2 then (if x7_2 < (l1.length : Int) then (if (t390 != (decide ((t387.length : Int) < ((rd_L3 l1 x7_2).length : Int)))) = true then (some false) else (if t390 = true then (if (t387.length : Int) < a2 then (some false) else (beaconlaw17_TableRoom.l0 kj19 l1 a2 (wrap64 (x7_2 + 1)) t387 t390)) else (beaconlaw17_TableRoom.l0 kj19 l1 a2 (wrap64 (x7_2 + 1)) t387 t390))) else (none)) else (none))) = some r:=by rw [if_neg (show ¬ (false = true) by decide)] at H;exact H
            clear H
            have H:=H1
            clear H1
            by_cases c63 : x383001_2 = true
            ·subst c63
             have H1 : (if t390 = true then (beaconlaw17_TableRoom.l0 kj19 l1 a2 (wrap64 (x7_2 + 1)) t387 t390) else (beaconlaw17_TableRoom.l0 kj19 l1 a2 (wrap64 (x7_2 + 1)) t387 t390)) = some r:=by rw [if_pos rfl] at H;exact H
             clear H
             have H:=H1
             clear H1
             by_cases c64 : t390 = true
             ·subst c64
              have H1 : (beaconlaw17_TableRoom.l0 kj19 l1 a2 (wrap64 (x7_2 + 1)) t387 true) = some r:=by rw [if_pos rfl] at H;exact H
              clear H
              have H:=H1
              clear H1
              have H':=Aside0.mk H
              clear H
              try go_wp2
              replace HO_383000:=Aside0.mk (Kd.V_drew HO_383000.out)
              replace HO_393000:=Aside0.mk (Kd.R_drew HO_393000.out)
              replace HO_400000:=Aside0.mk (Kd.R_drew HO_400000.out)
              replace K382:=Aside0.mk (bD K382.1)
              replace K392:=Aside0.mk (bD K392.1)
              replace K399:=Aside0.mk (bD K399.1)
              replace HB:=Aside0.mk (bw1 HB.1)
              refine start_ (n:=33) (S:=fun w' => w'.cell? ⟨G382,0,none⟩ = some (.slice Ao21 x383000_2.length co21) ∧ w'.cell? ⟨G382,1,none⟩ = some (.bool true) ∧ w'.cell? ⟨G392,0,none⟩ = some (.slice Ao26 t387.length co26) ∧ w'.cell? ⟨G392,1,none⟩ = some (.bool true)) (ds:=[]) #[F,F,F,F,F,F,F,F,F,F,F,F,F,F,F,F,F,F,F,F,F,F,F,F,F,F,F,F,F,F,F,F,F] (by kernel_rfl) rfl rfl ⟨zk K382 0,zk K382 1,zk K392 0,zk K392 1⟩ (fun hHeld => ?_);refine with_tabW beaconlaw17_TableRoom.tab11 beaconlaw17_TableRoom.bits11 (fun HT_ HW_ => ?_)
              generalize wc.drew = w65 at HO_383000 HO_393000 HO_400000 K382 K392 K399 HB hHeld ⊢
              refine pz 0 64 #[T,F,F,F,F,F,F,F,F,F,F,F,F,F,F,F,F,F,F,F,F,F,F,F,F,F,F,F,F,F,F,F,F] HT_.1 ?_
              refine tz 1 65 #[T,T,F,F,F,F,F,F,F,F,F,F,F,F,F,F,F,F,F,F,F,F,F,F,F,F,F,F,F,F,F,F,F] HT_.1 HW_.1 hHeld ?_
              refine pz 2 66 #[T,T,T,F,F,F,F,F,F,F,F,F,F,F,F,F,F,F,F,F,F,F,F,F,F,F,F,F,F,F,F,F,F] HT_.1 ?_
              refine pz 3 67 #[T,T,T,T,F,F,F,F,F,F,F,F,F,F,F,F,F,F,F,F,F,F,F,F,F,F,F,F,F,F,F,F,F] HT_.1 ?_
              refine pu 4 68 #[T,T,T,T,T,F,F,F,F,F,F,F,F,F,F,F,F,F,F,F,F,F,F,F,F,F,F,F,F,F,F,F,F] HT_.1 ?_
              refine pu 5 69 #[T,T,T,T,T,T,F,F,F,F,F,F,F,F,F,F,F,F,F,F,F,F,F,F,F,F,F,F,F,F,F,F,F] HT_.1 ?_
              refine pu 6 70 #[T,T,T,T,T,T,T,F,F,F,F,F,F,F,F,F,F,F,F,F,F,F,F,F,F,F,F,F,F,F,F,F,F] HT_.1 ?_
              refine pu 7 71 #[T,T,T,T,T,T,T,T,F,F,F,F,F,F,F,F,F,F,F,F,F,F,F,F,F,F,F,F,F,F,F,F,F] HT_.1 ?_
              refine pu 8 72 #[T,T,T,T,T,T,T,T,T,F,F,F,F,F,F,F,F,F,F,F,F,F,F,F,F,F,F,F,F,F,F,F,F] HT_.1 ?_
              refine pu 9 73 #[T,T,T,T,T,T,T,T,T,T,F,F,F,F,F,F,F,F,F,F,F,F,F,F,F,F,F,F,F,F,F,F,F] HT_.1 ?_
              refine pu 10 74 #[T,T,T,T,T,T,T,T,T,T,T,F,F,F,F,F,F,F,F,F,F,F,F,F,F,F,F,F,F,F,F,F,F] HT_.1 ?_
              refine pu 11 75 #[T,T,T,T,T,T,T,T,T,T,T,T,F,F,F,F,F,F,F,F,F,F,F,F,F,F,F,F,F,F,F,F,F] HT_.1 ?_
              refine pu 12 76 #[T,T,T,T,T,T,T,T,T,T,T,T,T,F,F,F,F,F,F,F,F,F,F,F,F,F,F,F,F,F,F,F,F] HT_.1 ?_
              refine pu 13 77 #[T,T,T,T,T,T,T,T,T,T,T,T,T,T,F,F,F,F,F,F,F,F,F,F,F,F,F,F,F,F,F,F,F] HT_.1 ?_
              refine pu 14 78 #[T,T,T,T,T,T,T,T,T,T,T,T,T,T,T,F,F,F,F,F,F,F,F,F,F,F,F,F,F,F,F,F,F] HT_.1 ?_
              refine pu 15 79 #[T,T,T,T,T,T,T,T,T,T,T,T,T,T,T,T,F,F,F,F,F,F,F,F,F,F,F,F,F,F,F,F,F] HT_.1 ?_
              refine pz 16 80 #[T,T,T,T,T,T,T,T,T,T,T,T,T,T,T,T,T,F,F,F,F,F,F,F,F,F,F,F,F,F,F,F,F] HT_.1 ?_
              refine pz 17 81 #[T,T,T,T,T,T,T,T,T,T,T,T,T,T,T,T,T,T,F,F,F,F,F,F,F,F,F,F,F,F,F,F,F] HT_.1 ?_
              refine pz 18 82 #[T,T,T,T,T,T,T,T,T,T,T,T,T,T,T,T,T,T,T,F,F,F,F,F,F,F,F,F,F,F,F,F,F] HT_.1 ?_
              refine tz 19 83 #[T,T,T,T,T,T,T,T,T,T,T,T,T,T,T,T,T,T,T,T,F,F,F,F,F,F,F,F,F,F,F,F,F] HT_.1 HW_.1 hHeld ?_
              refine pz 20 84 #[T,T,T,T,T,T,T,T,T,T,T,T,T,T,T,T,T,T,T,T,T,F,F,F,F,F,F,F,F,F,F,F,F] HT_.1 ?_
              refine pz 21 85 #[T,T,T,T,T,T,T,T,T,T,T,T,T,T,T,T,T,T,T,T,T,T,F,F,F,F,F,F,F,F,F,F,F] HT_.1 ?_
              refine tz 22 86 #[T,T,T,T,T,T,T,T,T,T,T,T,T,T,T,T,T,T,T,T,T,T,T,F,F,F,F,F,F,F,F,F,F] HT_.1 HW_.1 hHeld ?_
              refine pz 23 87 #[T,T,T,T,T,T,T,T,T,T,T,T,T,T,T,T,T,T,T,T,T,T,T,T,F,F,F,F,F,F,F,F,F] HT_.1 ?_
              refine pz 24 88 #[T,T,T,T,T,T,T,T,T,T,T,T,T,T,T,T,T,T,T,T,T,T,T,T,T,F,F,F,F,F,F,F,F] HT_.1 ?_
              refine pz 25 89 #[T,T,T,T,T,T,T,T,T,T,T,T,T,T,T,T,T,T,T,T,T,T,T,T,T,T,F,F,F,F,F,F,F] HT_.1 ?_
              refine pu 26 90 #[T,T,T,T,T,T,T,T,T,T,T,T,T,T,T,T,T,T,T,T,T,T,T,T,T,T,T,F,F,F,F,F,F] HT_.1 ?_
              refine pu 27 91 #[T,T,T,T,T,T,T,T,T,T,T,T,T,T,T,T,T,T,T,T,T,T,T,T,T,T,T,T,F,F,F,F,F] HT_.1 ?_
              refine pu 28 92 #[T,T,T,T,T,T,T,T,T,T,T,T,T,T,T,T,T,T,T,T,T,T,T,T,T,T,T,T,T,F,F,F,F] HT_.1 ?_
              refine pu 29 93 #[T,T,T,T,T,T,T,T,T,T,T,T,T,T,T,T,T,T,T,T,T,T,T,T,T,T,T,T,T,T,F,F,F] HT_.1 ?_
              refine pu 30 94 #[T,T,T,T,T,T,T,T,T,T,T,T,T,T,T,T,T,T,T,T,T,T,T,T,T,T,T,T,T,T,T,F,F] HT_.1 ?_
              refine pz 31 95 #[T,T,T,T,T,T,T,T,T,T,T,T,T,T,T,T,T,T,T,T,T,T,T,T,T,T,T,T,T,T,T,T,F] HT_.1 ?_
              refine pz 32 96 #[T,T,T,T,T,T,T,T,T,T,T,T,T,T,T,T,T,T,T,T,T,T,T,T,T,T,T,T,T,T,T,T,T] HT_.1 ?_
              refine done_ (done_of HT_.out (by kernel_rfl)) ?_
              have hnb66:=NB392_382.1
              have hnc66:=NB382_392.1
              have hnb67:=NB392_399.1
              have hnc67:=NB399_392.1
              have hcz68_0 : w65.cell? ⟨G392,0,none⟩ = some (.slice Ao26 t387.length co26):=zk K392 0
              have hcz68_1 : w65.cell? ⟨G392,1,none⟩ = some (.bool true):=zk K392 1
              have hfz68_0:=bF K392.1 0
              have hfz68_1:=bF K392.1 1
              have hnb69:=NB382_399.1
              have hnc69:=NB399_382.1
              have hcz70_0 : w65.cell? ⟨G382,0,none⟩ = some (.slice Ao21 x383000_2.length co21):=zk K382 0
              have hcz70_1 : w65.cell? ⟨G382,1,none⟩ = some (.bool true):=zk K382 1
              have hfz70_0:=bF K382.1 0
              have hfz70_1:=bF K382.1 1
              try go_wp2
              go_roundg kj19
              case measure => have:=HJ3.out;have:=HK2.out;have:=HJ19.out;omega
              case rel => exact ⟨(wrap64 (x7_2 + 1)),(t387),(true),(.slice Ao26 t387.length co26),ze,H',⟨by have:=HJ3.out;have:=HK2.out;have:=HJ19.out;omega⟩,⟨Kd.V_mono (Kd.R_V (by (with_reducible repeat (first|apply Kd.R_alloc|apply Kd.R_drewN|apply Kd.R_drew));exact Kd.R_mono (Kd.R_far (p:=⟨G382,1,none⟩) (Kd.R_far (p:=⟨G382,0,none⟩) (Kd.R_types (Kd.R_types HO_393000.out K382.1 (by decide)) K382.1 (by decide)) (fun _ hk => hk.2) (.slice Ao26 t387.length co26)) (fun _ hk => hk.2) (.bool true)) (fun _ hk => And.intro hk.1.1.1 hk.1.2))) (fun k_ hk => by first|exact ⟨(.inr (hk.1)),hk.2⟩|exact (.inr (hk)))⟩,⟨zF K382⟩,⟨zH HB⟩⟩
             ·replace c64:=Bool.eq_false_iff.mpr c64
              subst c64
              have H1 : (beaconlaw17_TableRoom.l0 kj19 l1 a2 (wrap64 (x7_2 + 1)) t387 false) = some r:=by rw [if_neg (show ¬ (false = true) by decide)] at H;exact H
              clear H
              have H:=H1
              clear H1
              have H':=Aside0.mk H
              clear H
              try go_wp2
              replace HO_383000:=Aside0.mk (Kd.V_drew HO_383000.out)
              replace HO_393000:=Aside0.mk (Kd.R_drew HO_393000.out)
              replace HO_400000:=Aside0.mk (Kd.R_drew HO_400000.out)
              replace K382:=Aside0.mk (bD K382.1)
              replace K392:=Aside0.mk (bD K392.1)
              replace K399:=Aside0.mk (bD K399.1)
              replace HB:=Aside0.mk (bw1 HB.1)
              refine start_ (n:=33) (S:=fun w' => w'.cell? ⟨G382,0,none⟩ = some (.slice Ao21 x383000_2.length co21) ∧ w'.cell? ⟨G382,1,none⟩ = some (.bool true) ∧ w'.cell? ⟨G392,0,none⟩ = some (.slice Ao26 t387.length co26) ∧ w'.cell? ⟨G392,1,none⟩ = some (.bool false)) (ds:=[]) #[F,F,F,F,F,F,F,F,F,F,F,F,F,F,F,F,F,F,F,F,F,F,F,F,F,F,F,F,F,F,F,F,F] (by kernel_rfl) rfl rfl ⟨zk K382 0,zk K382 1,zk K392 0,zk K392 1⟩ (fun hHeld => ?_);refine with_tabW beaconlaw17_TableRoom.tab11 beaconlaw17_TableRoom.bits11 (fun HT_ HW_ => ?_)
              generalize wc.drew = w71 at HO_383000 HO_393000 HO_400000 K382 K392 K399 HB hHeld ⊢
              refine pz 0 64 #[T,F,F,F,F,F,F,F,F,F,F,F,F,F,F,F,F,F,F,F,F,F,F,F,F,F,F,F,F,F,F,F,F] HT_.1 ?_
              refine tz 1 65 #[T,T,F,F,F,F,F,F,F,F,F,F,F,F,F,F,F,F,F,F,F,F,F,F,F,F,F,F,F,F,F,F,F] HT_.1 HW_.1 hHeld ?_
              refine pz 2 66 #[T,T,T,F,F,F,F,F,F,F,F,F,F,F,F,F,F,F,F,F,F,F,F,F,F,F,F,F,F,F,F,F,F] HT_.1 ?_
              refine pz 3 67 #[T,T,T,T,F,F,F,F,F,F,F,F,F,F,F,F,F,F,F,F,F,F,F,F,F,F,F,F,F,F,F,F,F] HT_.1 ?_
              refine pu 4 68 #[T,T,T,T,T,F,F,F,F,F,F,F,F,F,F,F,F,F,F,F,F,F,F,F,F,F,F,F,F,F,F,F,F] HT_.1 ?_
              refine pu 5 69 #[T,T,T,T,T,T,F,F,F,F,F,F,F,F,F,F,F,F,F,F,F,F,F,F,F,F,F,F,F,F,F,F,F] HT_.1 ?_
              refine pu 6 70 #[T,T,T,T,T,T,T,F,F,F,F,F,F,F,F,F,F,F,F,F,F,F,F,F,F,F,F,F,F,F,F,F,F] HT_.1 ?_
              refine pu 7 71 #[T,T,T,T,T,T,T,T,F,F,F,F,F,F,F,F,F,F,F,F,F,F,F,F,F,F,F,F,F,F,F,F,F] HT_.1 ?_
              refine pu 8 72 #[T,T,T,T,T,T,T,T,T,F,F,F,F,F,F,F,F,F,F,F,F,F,F,F,F,F,F,F,F,F,F,F,F] HT_.1 ?_
              refine pu 9 73 #[T,T,T,T,T,T,T,T,T,T,F,F,F,F,F,F,F,F,F,F,F,F,F,F,F,F,F,F,F,F,F,F,F] HT_.1 ?_
              refine pu 10 74 #[T,T,T,T,T,T,T,T,T,T,T,F,F,F,F,F,F,F,F,F,F,F,F,F,F,F,F,F,F,F,F,F,F] HT_.1 ?_
              refine pu 11 75 #[T,T,T,T,T,T,T,T,T,T,T,T,F,F,F,F,F,F,F,F,F,F,F,F,F,F,F,F,F,F,F,F,F] HT_.1 ?_
              refine pu 12 76 #[T,T,T,T,T,T,T,T,T,T,T,T,T,F,F,F,F,F,F,F,F,F,F,F,F,F,F,F,F,F,F,F,F] HT_.1 ?_
              refine pu 13 77 #[T,T,T,T,T,T,T,T,T,T,T,T,T,T,F,F,F,F,F,F,F,F,F,F,F,F,F,F,F,F,F,F,F] HT_.1 ?_
              refine pu 14 78 #[T,T,T,T,T,T,T,T,T,T,T,T,T,T,T,F,F,F,F,F,F,F,F,F,F,F,F,F,F,F,F,F,F] HT_.1 ?_
              refine pu 15 79 #[T,T,T,T,T,T,T,T,T,T,T,T,T,T,T,T,F,F,F,F,F,F,F,F,F,F,F,F,F,F,F,F,F] HT_.1 ?_
              refine pz 16 80 #[T,T,T,T,T,T,T,T,T,T,T,T,T,T,T,T,T,F,F,F,F,F,F,F,F,F,F,F,F,F,F,F,F] HT_.1 ?_
              refine pz 17 81 #[T,T,T,T,T,T,T,T,T,T,T,T,T,T,T,T,T,T,F,F,F,F,F,F,F,F,F,F,F,F,F,F,F] HT_.1 ?_
              refine pz 18 82 #[T,T,T,T,T,T,T,T,T,T,T,T,T,T,T,T,T,T,T,F,F,F,F,F,F,F,F,F,F,F,F,F,F] HT_.1 ?_
              refine tz 19 83 #[T,T,T,T,T,T,T,T,T,T,T,T,T,T,T,T,T,T,T,T,F,F,F,F,F,F,F,F,F,F,F,F,F] HT_.1 HW_.1 hHeld ?_
              refine pz 20 84 #[T,T,T,T,T,T,T,T,T,T,T,T,T,T,T,T,T,T,T,T,T,F,F,F,F,F,F,F,F,F,F,F,F] HT_.1 ?_
              refine pu 21 85 #[T,T,T,T,T,T,T,T,T,T,T,T,T,T,T,T,T,T,T,T,T,T,F,F,F,F,F,F,F,F,F,F,F] HT_.1 ?_
              refine pu 22 86 #[T,T,T,T,T,T,T,T,T,T,T,T,T,T,T,T,T,T,T,T,T,T,T,F,F,F,F,F,F,F,F,F,F] HT_.1 ?_
              refine pu 23 87 #[T,T,T,T,T,T,T,T,T,T,T,T,T,T,T,T,T,T,T,T,T,T,T,T,F,F,F,F,F,F,F,F,F] HT_.1 ?_
              refine pz 24 88 #[T,T,T,T,T,T,T,T,T,T,T,T,T,T,T,T,T,T,T,T,T,T,T,T,T,F,F,F,F,F,F,F,F] HT_.1 ?_
              refine pz 25 89 #[T,T,T,T,T,T,T,T,T,T,T,T,T,T,T,T,T,T,T,T,T,T,T,T,T,T,F,F,F,F,F,F,F] HT_.1 ?_
              refine pu 26 90 #[T,T,T,T,T,T,T,T,T,T,T,T,T,T,T,T,T,T,T,T,T,T,T,T,T,T,T,F,F,F,F,F,F] HT_.1 ?_
              refine pu 27 91 #[T,T,T,T,T,T,T,T,T,T,T,T,T,T,T,T,T,T,T,T,T,T,T,T,T,T,T,T,F,F,F,F,F] HT_.1 ?_
              refine pu 28 92 #[T,T,T,T,T,T,T,T,T,T,T,T,T,T,T,T,T,T,T,T,T,T,T,T,T,T,T,T,T,F,F,F,F] HT_.1 ?_
              refine pu 29 93 #[T,T,T,T,T,T,T,T,T,T,T,T,T,T,T,T,T,T,T,T,T,T,T,T,T,T,T,T,T,T,F,F,F] HT_.1 ?_
              refine pu 30 94 #[T,T,T,T,T,T,T,T,T,T,T,T,T,T,T,T,T,T,T,T,T,T,T,T,T,T,T,T,T,T,T,F,F] HT_.1 ?_
              refine pz 31 95 #[T,T,T,T,T,T,T,T,T,T,T,T,T,T,T,T,T,T,T,T,T,T,T,T,T,T,T,T,T,T,T,T,F] HT_.1 ?_
              refine pz 32 96 #[T,T,T,T,T,T,T,T,T,T,T,T,T,T,T,T,T,T,T,T,T,T,T,T,T,T,T,T,T,T,T,T,T] HT_.1 ?_
              refine done_ (done_of HT_.out (by kernel_rfl)) ?_
              have hnb72:=NB392_382.1
              have hnc72:=NB382_392.1
              have hnb73:=NB392_399.1
              have hnc73:=NB399_392.1
              have hcz74_0 : w71.cell? ⟨G392,0,none⟩ = some (.slice Ao26 t387.length co26):=zk K392 0
              have hcz74_1 : w71.cell? ⟨G392,1,none⟩ = some (.bool false):=zk K392 1
              have hfz74_0:=bF K392.1 0
              have hfz74_1:=bF K392.1 1
              have hnb75:=NB382_399.1
              have hnc75:=NB399_382.1
              have hcz76_0 : w71.cell? ⟨G382,0,none⟩ = some (.slice Ao21 x383000_2.length co21):=zk K382 0
              have hcz76_1 : w71.cell? ⟨G382,1,none⟩ = some (.bool true):=zk K382 1
              have hfz76_0:=bF K382.1 0
              have hfz76_1:=bF K382.1 1
              try go_wp2
              go_roundg kj19
              case measure => have:=HJ3.out;have:=HK2.out;have:=HJ19.out;omega
              case rel => exact ⟨(wrap64 (x7_2 + 1)),(t387),(false),(.slice Ao26 t387.length co26),ze,H',⟨by have:=HJ3.out;have:=HK2.out;have:=HJ19.out;omega⟩,⟨Kd.V_mono (Kd.R_V (by (with_reducible repeat (first|apply Kd.R_alloc|apply Kd.R_drewN|apply Kd.R_drew));exact Kd.R_mono (Kd.R_far (p:=⟨G382,1,none⟩) (Kd.R_far (p:=⟨G382,0,none⟩) (Kd.R_types (Kd.R_types HO_393000.out K382.1 (by decide)) K382.1 (by decide)) (fun _ hk => hk.2) (.slice Ao26 t387.length co26)) (fun _ hk => hk.2) (.bool false)) (fun _ hk => And.intro hk.1.1.1 hk.1.2))) (fun k_ hk => by first|exact ⟨(.inr (hk.1)),hk.2⟩|exact (.inr (hk)))⟩,⟨zF K382⟩,⟨zH HB⟩⟩
            ·replace c63:=Bool.eq_false_iff.mpr c63
             subst c63
             have H1 : (if 0 ≤ x7_2 then (if x7_2 < (l1.length : Int) then (if (t390 != (decide ((t387.length : Int) < ((rd_L3 l1 x7_2).length : Int)))) = true then (some false) else (if t390 = true then (if (t387.length : Int) < a2 then (some false) else (beaconlaw17_TableRoom.l0 kj19 l1 a2 (wrap64 (x7_2 + 1)) t387 t390)) else (beaconlaw17_TableRoom.l0 kj19 l1 a2 (wrap64 (x7_2 + 1)) t387 t390))) else (none)) else (none)) = some r:=by rw [if_neg (show ¬ (false = true) by decide)] at H;exact H
             clear H
             have H:=H1
             clear H1
             by_cases c77 : 0 ≤ x7_2
             ·rw [if_pos c77] at H
              have c77b0 : decide (0 ≤ x7_2) = true:=decide_eq_true c77
              clear c77
              by_cases c78 : x7_2 < (l1.length : Int)
              ·rw [if_pos c78] at H
               have c78b0 : decide (x7_2 < (l1.length : Int)) = true:=decide_eq_true c78
               clear c78
               by_cases c79 : (t390 != (decide ((t387.length : Int) < ((rd_L3 l1 x7_2).length : Int)))) = true
               ·rw [if_pos c79] at H
                have c79b0 : (t390 != (decide ((t387.length : Int) < ((rd_L3 l1 x7_2).length : Int)))) = true:=c79
                (try (have c79b1 : decide (t390 = (decide ((t387.length : Int) < ((rd_L3 l1 x7_2).length : Int)))) = false:=by simpa using c79))
                (try (have c79b1n : decide (t390 = (decide (t387.length < (rd_L3 l1 x7_2).length))) = false:=by simpa using c79))
                (try (have c79b2 : (t390 == (decide ((t387.length : Int) < ((rd_L3 l1 x7_2).length : Int)))) = false:=by simpa using c79))
                (try (have c79b2n : (t390 == (decide (t387.length < (rd_L3 l1 x7_2).length))) = false:=by simpa using c79))
                (try (have c79b3 : ¬ (t390 = (decide ((t387.length : Int) < ((rd_L3 l1 x7_2).length : Int)))):=by simpa using c79))
                (try (have c79b3n : ¬ (t390 = (decide (t387.length < (rd_L3 l1 x7_2).length))):=by simpa using c79))
                clear c79
                obtain rfl:=Option.some.inj H
                try go_wp2
                replace HO_383000:=Aside0.mk (Kd.V_drew HO_383000.out)
                replace HO_393000:=Aside0.mk (Kd.R_drew HO_393000.out)
                replace HO_400000:=Aside0.mk (Kd.R_drew HO_400000.out)
                replace K382:=Aside0.mk (bD K382.1)
                replace K392:=Aside0.mk (bD K392.1)
                replace K399:=Aside0.mk (bD K399.1)
                replace HB:=Aside0.mk (bw1 HB.1)
                have p401 : 0 ≤ (x7_2 : Int):=zd
                have q401 : x7_2 < (l1.length : Int):=zd
                obtain ⟨ad401,A401_0,c401_0,e401,hx401_0,hl401_0,hi401_0⟩:=at_L3 HR1.out x7_2 p401 q401
                have hw401_0:=hx401_0
                obtain rfl : ad386 = ad401:=(by injection e401)
                replace hx401_0:=zh HB hx401_0
                have HR401_0:=Aside0.mk hi401_0
                have HC401_0:=Aside0.mk hl401_0
                clear hi401_0 hl401_0
                replace p401:=eq_true p401
                replace q401:=eq_true q401
                refine start_ (n:=33) (S:=fun w' => w'.cell? ⟨G382,0,none⟩ = some (.slice Ao21 x383000_2.length co21) ∧ w'.cell? ⟨G382,1,none⟩ = some (.bool false) ∧ w'.cell? ⟨G392,0,none⟩ = some (.slice Ao26 t387.length co26) ∧ w'.cell? ⟨G392,1,none⟩ = some (.bool t390) ∧ w'.cell? (ad386.add (x7_2).toNat) = some (.slice A401_0 (rd_L3 l1 x7_2).length c401_0)) (ds:=[]) #[F,F,F,F,F,F,F,F,F,F,F,F,F,F,F,F,F,F,F,F,F,F,F,F,F,F,F,F,F,F,F,F,F] (by kernel_rfl) rfl rfl ⟨zk K382 0,zk K382 1,zk K392 0,zk K392 1,(zh HB hw401_0)⟩ (fun hHeld => ?_);refine with_tabW beaconlaw17_TableRoom.tab11 beaconlaw17_TableRoom.bits11 (fun HT_ HW_ => ?_)
                generalize wc.drew = w80 at HO_383000 HO_393000 HO_400000 K382 K392 K399 HB HR401_0 hx401_0 hHeld ⊢
                refine pz 0 64 #[T,F,F,F,F,F,F,F,F,F,F,F,F,F,F,F,F,F,F,F,F,F,F,F,F,F,F,F,F,F,F,F,F] HT_.1 ?_
                refine tz 1 65 #[T,T,F,F,F,F,F,F,F,F,F,F,F,F,F,F,F,F,F,F,F,F,F,F,F,F,F,F,F,F,F,F,F] HT_.1 HW_.1 hHeld ?_
                refine pz 2 66 #[T,T,T,F,F,F,F,F,F,F,F,F,F,F,F,F,F,F,F,F,F,F,F,F,F,F,F,F,F,F,F,F,F] HT_.1 ?_
                refine pz 3 67 #[T,T,T,T,F,F,F,F,F,F,F,F,F,F,F,F,F,F,F,F,F,F,F,F,F,F,F,F,F,F,F,F,F] HT_.1 ?_
                refine pz 4 68 #[T,T,T,T,T,F,F,F,F,F,F,F,F,F,F,F,F,F,F,F,F,F,F,F,F,F,F,F,F,F,F,F,F] HT_.1 ?_
                refine pz 6 70 #[T,T,T,T,T,F,T,F,F,F,F,F,F,F,F,F,F,F,F,F,F,F,F,F,F,F,F,F,F,F,F,F,F] HT_.1 ?_
                refine pz 9 73 #[T,T,T,T,T,F,T,F,F,T,F,F,F,F,F,F,F,F,F,F,F,F,F,F,F,F,F,F,F,F,F,F,F] HT_.1 ?_
                refine pz 10 74 #[T,T,T,T,T,F,T,F,F,T,T,F,F,F,F,F,F,F,F,F,F,F,F,F,F,F,F,F,F,F,F,F,F] HT_.1 ?_
                refine pz 11 75 #[T,T,T,T,T,F,T,F,F,T,T,T,F,F,F,F,F,F,F,F,F,F,F,F,F,F,F,F,F,F,F,F,F] HT_.1 ?_
                refine tz 5 69 #[T,T,T,T,T,T,T,F,F,T,T,T,F,F,F,F,F,F,F,F,F,F,F,F,F,F,F,F,F,F,F,F,F] HT_.1 HW_.1 hHeld ?_
                refine tz 7 71 #[T,T,T,T,T,T,T,T,F,T,T,T,F,F,F,F,F,F,F,F,F,F,F,F,F,F,F,F,F,F,F,F,F] HT_.1 HW_.1 hHeld ?_
                refine pz 8 72 #[T,T,T,T,T,T,T,T,T,T,T,T,F,F,F,F,F,F,F,F,F,F,F,F,F,F,F,F,F,F,F,F,F] HT_.1 ?_
                refine tz 12 76 #[T,T,T,T,T,T,T,T,T,T,T,T,T,F,F,F,F,F,F,F,F,F,F,F,F,F,F,F,F,F,F,F,F] HT_.1 HW_.1 hHeld ?_
                refine pz 13 77 #[T,T,T,T,T,T,T,T,T,T,T,T,T,T,F,F,F,F,F,F,F,F,F,F,F,F,F,F,F,F,F,F,F] HT_.1 ?_
                refine pz 14 78 #[T,T,T,T,T,T,T,T,T,T,T,T,T,T,T,F,F,F,F,F,F,F,F,F,F,F,F,F,F,F,F,F,F] HT_.1 ?_
                refine pz 15 79 #[T,T,T,T,T,T,T,T,T,T,T,T,T,T,T,T,F,F,F,F,F,F,F,F,F,F,F,F,F,F,F,F,F] HT_.1 ?_
                refine pz 16 80 #[T,T,T,T,T,T,T,T,T,T,T,T,T,T,T,T,T,F,F,F,F,F,F,F,F,F,F,F,F,F,F,F,F] HT_.1 ?_
                refine pz 17 81 #[T,T,T,T,T,T,T,T,T,T,T,T,T,T,T,T,T,T,F,F,F,F,F,F,F,F,F,F,F,F,F,F,F] HT_.1 ?_
                refine pu 18 82 #[T,T,T,T,T,T,T,T,T,T,T,T,T,T,T,T,T,T,T,F,F,F,F,F,F,F,F,F,F,F,F,F,F] HT_.1 ?_
                refine pu 19 83 #[T,T,T,T,T,T,T,T,T,T,T,T,T,T,T,T,T,T,T,T,F,F,F,F,F,F,F,F,F,F,F,F,F] HT_.1 ?_
                refine pu 20 84 #[T,T,T,T,T,T,T,T,T,T,T,T,T,T,T,T,T,T,T,T,T,F,F,F,F,F,F,F,F,F,F,F,F] HT_.1 ?_
                refine pu 21 85 #[T,T,T,T,T,T,T,T,T,T,T,T,T,T,T,T,T,T,T,T,T,T,F,F,F,F,F,F,F,F,F,F,F] HT_.1 ?_
                refine pu 22 86 #[T,T,T,T,T,T,T,T,T,T,T,T,T,T,T,T,T,T,T,T,T,T,T,F,F,F,F,F,F,F,F,F,F] HT_.1 ?_
                refine pu 23 87 #[T,T,T,T,T,T,T,T,T,T,T,T,T,T,T,T,T,T,T,T,T,T,T,T,F,F,F,F,F,F,F,F,F] HT_.1 ?_
                refine pu 24 88 #[T,T,T,T,T,T,T,T,T,T,T,T,T,T,T,T,T,T,T,T,T,T,T,T,T,F,F,F,F,F,F,F,F] HT_.1 ?_
                refine pu 25 89 #[T,T,T,T,T,T,T,T,T,T,T,T,T,T,T,T,T,T,T,T,T,T,T,T,T,T,F,F,F,F,F,F,F] HT_.1 ?_
                refine pu 26 90 #[T,T,T,T,T,T,T,T,T,T,T,T,T,T,T,T,T,T,T,T,T,T,T,T,T,T,T,F,F,F,F,F,F] HT_.1 ?_
                refine pu 27 91 #[T,T,T,T,T,T,T,T,T,T,T,T,T,T,T,T,T,T,T,T,T,T,T,T,T,T,T,T,F,F,F,F,F] HT_.1 ?_
                refine pu 28 92 #[T,T,T,T,T,T,T,T,T,T,T,T,T,T,T,T,T,T,T,T,T,T,T,T,T,T,T,T,T,F,F,F,F] HT_.1 ?_
                refine pu 29 93 #[T,T,T,T,T,T,T,T,T,T,T,T,T,T,T,T,T,T,T,T,T,T,T,T,T,T,T,T,T,T,F,F,F] HT_.1 ?_
                refine pu 30 94 #[T,T,T,T,T,T,T,T,T,T,T,T,T,T,T,T,T,T,T,T,T,T,T,T,T,T,T,T,T,T,T,F,F] HT_.1 ?_
                refine pu 31 95 #[T,T,T,T,T,T,T,T,T,T,T,T,T,T,T,T,T,T,T,T,T,T,T,T,T,T,T,T,T,T,T,T,F] HT_.1 ?_
                refine pz 32 96 #[T,T,T,T,T,T,T,T,T,T,T,T,T,T,T,T,T,T,T,T,T,T,T,T,T,T,T,T,T,T,T,T,T] HT_.1 ?_
                refine done_ (done_of HT_.out (by kernel_rfl)) ?_
                try go_wp2
                go_ret
                exact ⟨by first|rfl|(simp [errW_none,errW_some] <;> rfl)|(simp [*,errW_none,errW_some] <;> rfl),zH HB⟩
               ·rw [if_neg c79] at H
                have c79b0 : (t390 != (decide ((t387.length : Int) < ((rd_L3 l1 x7_2).length : Int)))) = false:=by simpa using c79
                (try (have c79b1 : decide (t390 = (decide ((t387.length : Int) < ((rd_L3 l1 x7_2).length : Int)))) = true:=by simpa using c79))
                (try (have c79b1n : decide (t390 = (decide (t387.length < (rd_L3 l1 x7_2).length))) = true:=by simpa using c79))
                (try (have c79b2 : (t390 == (decide ((t387.length : Int) < ((rd_L3 l1 x7_2).length : Int)))) = true:=by simpa using c79))
                (try (have c79b2n : (t390 == (decide (t387.length < (rd_L3 l1 x7_2).length))) = true:=by simpa using c79))
                clear c79
                by_cases c81 : t390 = true
                ·subst c81
                 have H1 : (if (t387.length : Int) < a2 then (some false) else (beaconlaw17_TableRoom.l0 kj19 l1 a2 (wrap64 (x7_2 + 1)) t387 true)) = some r:=by rw [if_pos rfl] at H;exact H
                 clear H
                 have H:=H1
                 clear H1
                 by_cases c82 : (t387.length : Int) < a2
                 ·rw [if_pos c82] at H
                  have c82b0 : decide ((t387.length : Int) < a2) = true:=decide_eq_true c82
                  clear c82
                  obtain rfl:=Option.some.inj H
                  try go_wp2
                  replace HO_383000:=Aside0.mk (Kd.V_drew HO_383000.out)
                  replace HO_393000:=Aside0.mk (Kd.R_drew HO_393000.out)
                  replace HO_400000:=Aside0.mk (Kd.R_drew HO_400000.out)
                  replace K382:=Aside0.mk (bD K382.1)
                  replace K392:=Aside0.mk (bD K392.1)
                  replace K399:=Aside0.mk (bD K399.1)
                  replace HB:=Aside0.mk (bw1 HB.1)
                  have p401 : 0 ≤ (x7_2 : Int):=zd
                  have q401 : x7_2 < (l1.length : Int):=zd
                  obtain ⟨ad401,A401_0,c401_0,e401,hx401_0,hl401_0,hi401_0⟩:=at_L3 HR1.out x7_2 p401 q401
                  have hw401_0:=hx401_0
                  obtain rfl : ad386 = ad401:=(by injection e401)
                  replace hx401_0:=zh HB hx401_0
                  have HR401_0:=Aside0.mk hi401_0
                  have HC401_0:=Aside0.mk hl401_0
                  clear hi401_0 hl401_0
                  replace p401:=eq_true p401
                  replace q401:=eq_true q401
                  refine start_ (n:=33) (S:=fun w' => w'.cell? ⟨G382,0,none⟩ = some (.slice Ao21 x383000_2.length co21) ∧ w'.cell? ⟨G382,1,none⟩ = some (.bool false) ∧ w'.cell? ⟨G392,0,none⟩ = some (.slice Ao26 t387.length co26) ∧ w'.cell? ⟨G392,1,none⟩ = some (.bool true) ∧ w'.cell? (ad386.add (x7_2).toNat) = some (.slice A401_0 (rd_L3 l1 x7_2).length c401_0)) (ds:=[]) #[F,F,F,F,F,F,F,F,F,F,F,F,F,F,F,F,F,F,F,F,F,F,F,F,F,F,F,F,F,F,F,F,F] (by kernel_rfl) rfl rfl ⟨zk K382 0,zk K382 1,zk K392 0,zk K392 1,(zh HB hw401_0)⟩ (fun hHeld => ?_);refine with_tabW beaconlaw17_TableRoom.tab11 beaconlaw17_TableRoom.bits11 (fun HT_ HW_ => ?_)
                  generalize wc.drew = w83 at HO_383000 HO_393000 HO_400000 K382 K392 K399 HB HR401_0 hx401_0 hHeld ⊢
                  refine pz 0 64 #[T,F,F,F,F,F,F,F,F,F,F,F,F,F,F,F,F,F,F,F,F,F,F,F,F,F,F,F,F,F,F,F,F] HT_.1 ?_
                  refine tz 1 65 #[T,T,F,F,F,F,F,F,F,F,F,F,F,F,F,F,F,F,F,F,F,F,F,F,F,F,F,F,F,F,F,F,F] HT_.1 HW_.1 hHeld ?_
                  refine pz 2 66 #[T,T,T,F,F,F,F,F,F,F,F,F,F,F,F,F,F,F,F,F,F,F,F,F,F,F,F,F,F,F,F,F,F] HT_.1 ?_
                  refine pz 3 67 #[T,T,T,T,F,F,F,F,F,F,F,F,F,F,F,F,F,F,F,F,F,F,F,F,F,F,F,F,F,F,F,F,F] HT_.1 ?_
                  refine pz 4 68 #[T,T,T,T,T,F,F,F,F,F,F,F,F,F,F,F,F,F,F,F,F,F,F,F,F,F,F,F,F,F,F,F,F] HT_.1 ?_
                  refine pz 6 70 #[T,T,T,T,T,F,T,F,F,F,F,F,F,F,F,F,F,F,F,F,F,F,F,F,F,F,F,F,F,F,F,F,F] HT_.1 ?_
                  refine pz 9 73 #[T,T,T,T,T,F,T,F,F,T,F,F,F,F,F,F,F,F,F,F,F,F,F,F,F,F,F,F,F,F,F,F,F] HT_.1 ?_
                  refine pz 10 74 #[T,T,T,T,T,F,T,F,F,T,T,F,F,F,F,F,F,F,F,F,F,F,F,F,F,F,F,F,F,F,F,F,F] HT_.1 ?_
                  refine pz 11 75 #[T,T,T,T,T,F,T,F,F,T,T,T,F,F,F,F,F,F,F,F,F,F,F,F,F,F,F,F,F,F,F,F,F] HT_.1 ?_
                  refine tz 5 69 #[T,T,T,T,T,T,T,F,F,T,T,T,F,F,F,F,F,F,F,F,F,F,F,F,F,F,F,F,F,F,F,F,F] HT_.1 HW_.1 hHeld ?_
                  refine tz 7 71 #[T,T,T,T,T,T,T,T,F,T,T,T,F,F,F,F,F,F,F,F,F,F,F,F,F,F,F,F,F,F,F,F,F] HT_.1 HW_.1 hHeld ?_
                  refine pz 8 72 #[T,T,T,T,T,T,T,T,T,T,T,T,F,F,F,F,F,F,F,F,F,F,F,F,F,F,F,F,F,F,F,F,F] HT_.1 ?_
                  refine tz 12 76 #[T,T,T,T,T,T,T,T,T,T,T,T,T,F,F,F,F,F,F,F,F,F,F,F,F,F,F,F,F,F,F,F,F] HT_.1 HW_.1 hHeld ?_
                  refine pz 13 77 #[T,T,T,T,T,T,T,T,T,T,T,T,T,T,F,F,F,F,F,F,F,F,F,F,F,F,F,F,F,F,F,F,F] HT_.1 ?_
                  refine pz 14 78 #[T,T,T,T,T,T,T,T,T,T,T,T,T,T,T,F,F,F,F,F,F,F,F,F,F,F,F,F,F,F,F,F,F] HT_.1 ?_
                  refine pz 15 79 #[T,T,T,T,T,T,T,T,T,T,T,T,T,T,T,T,F,F,F,F,F,F,F,F,F,F,F,F,F,F,F,F,F] HT_.1 ?_
                  refine pz 16 80 #[T,T,T,T,T,T,T,T,T,T,T,T,T,T,T,T,T,F,F,F,F,F,F,F,F,F,F,F,F,F,F,F,F] HT_.1 ?_
                  refine pz 17 81 #[T,T,T,T,T,T,T,T,T,T,T,T,T,T,T,T,T,T,F,F,F,F,F,F,F,F,F,F,F,F,F,F,F] HT_.1 ?_
                  refine pz 18 82 #[T,T,T,T,T,T,T,T,T,T,T,T,T,T,T,T,T,T,T,F,F,F,F,F,F,F,F,F,F,F,F,F,F] HT_.1 ?_
                  refine tz 19 83 #[T,T,T,T,T,T,T,T,T,T,T,T,T,T,T,T,T,T,T,T,F,F,F,F,F,F,F,F,F,F,F,F,F] HT_.1 HW_.1 hHeld ?_
                  refine pz 20 84 #[T,T,T,T,T,T,T,T,T,T,T,T,T,T,T,T,T,T,T,T,T,F,F,F,F,F,F,F,F,F,F,F,F] HT_.1 ?_
                  refine pz 21 85 #[T,T,T,T,T,T,T,T,T,T,T,T,T,T,T,T,T,T,T,T,T,T,F,F,F,F,F,F,F,F,F,F,F] HT_.1 ?_
                  refine tz 22 86 #[T,T,T,T,T,T,T,T,T,T,T,T,T,T,T,T,T,T,T,T,T,T,T,F,F,F,F,F,F,F,F,F,F] HT_.1 HW_.1 hHeld ?_
                  refine pz 23 87 #[T,T,T,T,T,T,T,T,T,T,T,T,T,T,T,T,T,T,T,T,T,T,T,T,F,F,F,F,F,F,F,F,F] HT_.1 ?_
                  refine pz 24 88 #[T,T,T,T,T,T,T,T,T,T,T,T,T,T,T,T,T,T,T,T,T,T,T,T,T,F,F,F,F,F,F,F,F] HT_.1 ?_
                  refine pz 25 89 #[T,T,T,T,T,T,T,T,T,T,T,T,T,T,T,T,T,T,T,T,T,T,T,T,T,T,F,F,F,F,F,F,F] HT_.1 ?_
                  refine pz 26 90 #[T,T,T,T,T,T,T,T,T,T,T,T,T,T,T,T,T,T,T,T,T,T,T,T,T,T,T,F,F,F,F,F,F] HT_.1 ?_
                  refine pz 29 93 #[T,T,T,T,T,T,T,T,T,T,T,T,T,T,T,T,T,T,T,T,T,T,T,T,T,T,T,F,F,T,F,F,F] HT_.1 ?_
                  refine tz 27 91 #[T,T,T,T,T,T,T,T,T,T,T,T,T,T,T,T,T,T,T,T,T,T,T,T,T,T,T,T,F,T,F,F,F] HT_.1 HW_.1 hHeld ?_
                  refine pz 28 92 #[T,T,T,T,T,T,T,T,T,T,T,T,T,T,T,T,T,T,T,T,T,T,T,T,T,T,T,T,T,T,F,F,F] HT_.1 ?_
                  refine pz 30 94 #[T,T,T,T,T,T,T,T,T,T,T,T,T,T,T,T,T,T,T,T,T,T,T,T,T,T,T,T,T,T,T,F,F] HT_.1 ?_
                  refine pz 31 95 #[T,T,T,T,T,T,T,T,T,T,T,T,T,T,T,T,T,T,T,T,T,T,T,T,T,T,T,T,T,T,T,T,F] HT_.1 ?_
                  refine pz 32 96 #[T,T,T,T,T,T,T,T,T,T,T,T,T,T,T,T,T,T,T,T,T,T,T,T,T,T,T,T,T,T,T,T,T] HT_.1 ?_
                  refine done_ (done_of HT_.out (by kernel_rfl)) ?_
                  try go_wp2
                  go_ret
                  exact ⟨by first|rfl|(simp [errW_none,errW_some] <;> rfl)|(simp [*,errW_none,errW_some] <;> rfl),zH HB⟩
                 ·rw [if_neg c82] at H
                  have c82b0 : decide ((t387.length : Int) < a2) = false:=decide_eq_false c82
                  clear c82
                  have H':=Aside0.mk H
                  clear H
                  try go_wp2
                  replace HO_383000:=Aside0.mk (Kd.V_drew HO_383000.out)
                  replace HO_393000:=Aside0.mk (Kd.R_drew HO_393000.out)
                  replace HO_400000:=Aside0.mk (Kd.R_drew HO_400000.out)
                  replace K382:=Aside0.mk (bD K382.1)
                  replace K392:=Aside0.mk (bD K392.1)
                  replace K399:=Aside0.mk (bD K399.1)
                  replace HB:=Aside0.mk (bw1 HB.1)
                  have p401 : 0 ≤ (x7_2 : Int):=zd
                  have q401 : x7_2 < (l1.length : Int):=zd
                  obtain ⟨ad401,A401_0,c401_0,e401,hx401_0,hl401_0,hi401_0⟩:=at_L3 HR1.out x7_2 p401 q401
                  have hw401_0:=hx401_0
                  obtain rfl : ad386 = ad401:=(by injection e401)
                  replace hx401_0:=zh HB hx401_0
                  have HR401_0:=Aside0.mk hi401_0
                  have HC401_0:=Aside0.mk hl401_0
                  clear hi401_0 hl401_0
                  replace p401:=eq_true p401
                  replace q401:=eq_true q401
                  refine start_ (n:=33) (S:=fun w' => w'.cell? ⟨G382,0,none⟩ = some (.slice Ao21 x383000_2.length co21) ∧ w'.cell? ⟨G382,1,none⟩ = some (.bool false) ∧ w'.cell? ⟨G392,0,none⟩ = some (.slice Ao26 t387.length co26) ∧ w'.cell? ⟨G392,1,none⟩ = some (.bool true) ∧ w'.cell? (ad386.add (x7_2).toNat) = some (.slice A401_0 (rd_L3 l1 x7_2).length c401_0)) (ds:=[]) #[F,F,F,F,F,F,F,F,F,F,F,F,F,F,F,F,F,F,F,F,F,F,F,F,F,F,F,F,F,F,F,F,F] (by kernel_rfl) rfl rfl ⟨zk K382 0,zk K382 1,zk K392 0,zk K392 1,(zh HB hw401_0)⟩ (fun hHeld => ?_);refine with_tabW beaconlaw17_TableRoom.tab11 beaconlaw17_TableRoom.bits11 (fun HT_ HW_ => ?_)
                  generalize wc.drew = w84 at HO_383000 HO_393000 HO_400000 K382 K392 K399 HB HR401_0 hx401_0 hHeld ⊢
                  refine pz 0 64 #[T,F,F,F,F,F,F,F,F,F,F,F,F,F,F,F,F,F,F,F,F,F,F,F,F,F,F,F,F,F,F,F,F] HT_.1 ?_
                  refine tz 1 65 #[T,T,F,F,F,F,F,F,F,F,F,F,F,F,F,F,F,F,F,F,F,F,F,F,F,F,F,F,F,F,F,F,F] HT_.1 HW_.1 hHeld ?_
                  refine pz 2 66 #[T,T,T,F,F,F,F,F,F,F,F,F,F,F,F,F,F,F,F,F,F,F,F,F,F,F,F,F,F,F,F,F,F] HT_.1 ?_
                  refine pz 3 67 #[T,T,T,T,F,F,F,F,F,F,F,F,F,F,F,F,F,F,F,F,F,F,F,F,F,F,F,F,F,F,F,F,F] HT_.1 ?_
                  refine pz 4 68 #[T,T,T,T,T,F,F,F,F,F,F,F,F,F,F,F,F,F,F,F,F,F,F,F,F,F,F,F,F,F,F,F,F] HT_.1 ?_
                  refine pz 6 70 #[T,T,T,T,T,F,T,F,F,F,F,F,F,F,F,F,F,F,F,F,F,F,F,F,F,F,F,F,F,F,F,F,F] HT_.1 ?_
                  refine pz 9 73 #[T,T,T,T,T,F,T,F,F,T,F,F,F,F,F,F,F,F,F,F,F,F,F,F,F,F,F,F,F,F,F,F,F] HT_.1 ?_
                  refine pz 10 74 #[T,T,T,T,T,F,T,F,F,T,T,F,F,F,F,F,F,F,F,F,F,F,F,F,F,F,F,F,F,F,F,F,F] HT_.1 ?_
                  refine pz 11 75 #[T,T,T,T,T,F,T,F,F,T,T,T,F,F,F,F,F,F,F,F,F,F,F,F,F,F,F,F,F,F,F,F,F] HT_.1 ?_
                  refine tz 5 69 #[T,T,T,T,T,T,T,F,F,T,T,T,F,F,F,F,F,F,F,F,F,F,F,F,F,F,F,F,F,F,F,F,F] HT_.1 HW_.1 hHeld ?_
                  refine tz 7 71 #[T,T,T,T,T,T,T,T,F,T,T,T,F,F,F,F,F,F,F,F,F,F,F,F,F,F,F,F,F,F,F,F,F] HT_.1 HW_.1 hHeld ?_
                  refine pz 8 72 #[T,T,T,T,T,T,T,T,T,T,T,T,F,F,F,F,F,F,F,F,F,F,F,F,F,F,F,F,F,F,F,F,F] HT_.1 ?_
                  refine tz 12 76 #[T,T,T,T,T,T,T,T,T,T,T,T,T,F,F,F,F,F,F,F,F,F,F,F,F,F,F,F,F,F,F,F,F] HT_.1 HW_.1 hHeld ?_
                  refine pz 13 77 #[T,T,T,T,T,T,T,T,T,T,T,T,T,T,F,F,F,F,F,F,F,F,F,F,F,F,F,F,F,F,F,F,F] HT_.1 ?_
                  refine pz 14 78 #[T,T,T,T,T,T,T,T,T,T,T,T,T,T,T,F,F,F,F,F,F,F,F,F,F,F,F,F,F,F,F,F,F] HT_.1 ?_
                  refine pz 15 79 #[T,T,T,T,T,T,T,T,T,T,T,T,T,T,T,T,F,F,F,F,F,F,F,F,F,F,F,F,F,F,F,F,F] HT_.1 ?_
                  refine pz 16 80 #[T,T,T,T,T,T,T,T,T,T,T,T,T,T,T,T,T,F,F,F,F,F,F,F,F,F,F,F,F,F,F,F,F] HT_.1 ?_
                  refine pz 17 81 #[T,T,T,T,T,T,T,T,T,T,T,T,T,T,T,T,T,T,F,F,F,F,F,F,F,F,F,F,F,F,F,F,F] HT_.1 ?_
                  refine pz 18 82 #[T,T,T,T,T,T,T,T,T,T,T,T,T,T,T,T,T,T,T,F,F,F,F,F,F,F,F,F,F,F,F,F,F] HT_.1 ?_
                  refine tz 19 83 #[T,T,T,T,T,T,T,T,T,T,T,T,T,T,T,T,T,T,T,T,F,F,F,F,F,F,F,F,F,F,F,F,F] HT_.1 HW_.1 hHeld ?_
                  refine pz 20 84 #[T,T,T,T,T,T,T,T,T,T,T,T,T,T,T,T,T,T,T,T,T,F,F,F,F,F,F,F,F,F,F,F,F] HT_.1 ?_
                  refine pz 21 85 #[T,T,T,T,T,T,T,T,T,T,T,T,T,T,T,T,T,T,T,T,T,T,F,F,F,F,F,F,F,F,F,F,F] HT_.1 ?_
                  refine tz 22 86 #[T,T,T,T,T,T,T,T,T,T,T,T,T,T,T,T,T,T,T,T,T,T,T,F,F,F,F,F,F,F,F,F,F] HT_.1 HW_.1 hHeld ?_
                  refine pz 23 87 #[T,T,T,T,T,T,T,T,T,T,T,T,T,T,T,T,T,T,T,T,T,T,T,T,F,F,F,F,F,F,F,F,F] HT_.1 ?_
                  refine pz 24 88 #[T,T,T,T,T,T,T,T,T,T,T,T,T,T,T,T,T,T,T,T,T,T,T,T,T,F,F,F,F,F,F,F,F] HT_.1 ?_
                  refine pz 25 89 #[T,T,T,T,T,T,T,T,T,T,T,T,T,T,T,T,T,T,T,T,T,T,T,T,T,T,F,F,F,F,F,F,F] HT_.1 ?_
                  refine pz 26 90 #[T,T,T,T,T,T,T,T,T,T,T,T,T,T,T,T,T,T,T,T,T,T,T,T,T,T,T,F,F,F,F,F,F] HT_.1 ?_
                  refine pz 29 93 #[T,T,T,T,T,T,T,T,T,T,T,T,T,T,T,T,T,T,T,T,T,T,T,T,T,T,T,F,F,T,F,F,F] HT_.1 ?_
                  refine tz 27 91 #[T,T,T,T,T,T,T,T,T,T,T,T,T,T,T,T,T,T,T,T,T,T,T,T,T,T,T,T,F,T,F,F,F] HT_.1 HW_.1 hHeld ?_
                  refine pz 28 92 #[T,T,T,T,T,T,T,T,T,T,T,T,T,T,T,T,T,T,T,T,T,T,T,T,T,T,T,T,T,T,F,F,F] HT_.1 ?_
                  refine pz 30 94 #[T,T,T,T,T,T,T,T,T,T,T,T,T,T,T,T,T,T,T,T,T,T,T,T,T,T,T,T,T,T,T,F,F] HT_.1 ?_
                  refine pz 31 95 #[T,T,T,T,T,T,T,T,T,T,T,T,T,T,T,T,T,T,T,T,T,T,T,T,T,T,T,T,T,T,T,T,F] HT_.1 ?_
                  refine pz 32 96 #[T,T,T,T,T,T,T,T,T,T,T,T,T,T,T,T,T,T,T,T,T,T,T,T,T,T,T,T,T,T,T,T,T] HT_.1 ?_
                  refine done_ (done_of HT_.out (by kernel_rfl)) ?_
                  have hnb85:=NB392_382.1
                  have hnc85:=NB382_392.1
                  have hnb86:=NB392_399.1
                  have hnc86:=NB399_392.1
                  have hcz87_0 : w84.cell? ⟨G392,0,none⟩ = some (.slice Ao26 t387.length co26):=zk K392 0
                  have hcz87_1 : w84.cell? ⟨G392,1,none⟩ = some (.bool true):=zk K392 1
                  have hfz87_0:=bF K392.1 0
                  have hfz87_1:=bF K392.1 1
                  have hnb88:=NB382_399.1
                  have hnc88:=NB399_382.1
                  have hcz89_0 : w84.cell? ⟨G382,0,none⟩ = some (.slice Ao21 x383000_2.length co21):=zk K382 0
                  have hcz89_1 : w84.cell? ⟨G382,1,none⟩ = some (.bool false):=zk K382 1
                  have hfz89_0:=bF K382.1 0
                  have hfz89_1:=bF K382.1 1
                  try go_wp2
                  go_roundg kj19
                  case measure => have:=HJ3.out;have:=HK2.out;have:=HJ19.out;omega
                  case rel => exact ⟨(wrap64 (x7_2 + 1)),(t387),(true),(.slice Ao26 t387.length co26),ze,H',⟨by have:=HJ3.out;have:=HK2.out;have:=HJ19.out;omega⟩,⟨Kd.V_mono (Kd.R_V (by (with_reducible repeat (first|apply Kd.R_alloc|apply Kd.R_drewN|apply Kd.R_drew));exact Kd.R_mono (Kd.R_far (p:=⟨G382,1,none⟩) (Kd.R_far (p:=⟨G382,0,none⟩) (Kd.R_types (Kd.R_types HO_393000.out K382.1 (by decide)) K382.1 (by decide)) (fun _ hk => hk.2) (.slice Ao26 t387.length co26)) (fun _ hk => hk.2) (.bool true)) (fun _ hk => And.intro hk.1.1.1 hk.1.2))) (fun k_ hk => by first|exact ⟨(.inr (hk.1)),hk.2⟩|exact (.inr (hk)))⟩,⟨zF K382⟩,⟨zH HB⟩⟩
                ·replace c81:=Bool.eq_false_iff.mpr c81
                 subst c81
                 have H1 : (beaconlaw17_TableRoom.l0 kj19 l1 a2 (wrap64 (x7_2 + 1)) t387 false) = some r:=by rw [if_neg (show ¬ (false = true) by decide)] at H;exact H
                 clear H
                 have H:=H1
                 clear H1
                 have H':=Aside0.mk H
                 clear H
                 try go_wp2
                 replace HO_383000:=Aside0.mk (Kd.V_drew HO_383000.out)
                 replace HO_393000:=Aside0.mk (Kd.R_drew HO_393000.out)
                 replace HO_400000:=Aside0.mk (Kd.R_drew HO_400000.out)
                 replace K382:=Aside0.mk (bD K382.1)
                 replace K392:=Aside0.mk (bD K392.1)
                 replace K399:=Aside0.mk (bD K399.1)
                 replace HB:=Aside0.mk (bw1 HB.1)
                 have p401 : 0 ≤ (x7_2 : Int):=zd
                 have q401 : x7_2 < (l1.length : Int):=zd
                 obtain ⟨ad401,A401_0,c401_0,e401,hx401_0,hl401_0,hi401_0⟩:=at_L3 HR1.out x7_2 p401 q401
                 have hw401_0:=hx401_0
                 obtain rfl : ad386 = ad401:=(by injection e401)
                 replace hx401_0:=zh HB hx401_0
                 have HR401_0:=Aside0.mk hi401_0
                 have HC401_0:=Aside0.mk hl401_0
                 clear hi401_0 hl401_0
                 replace p401:=eq_true p401
                 replace q401:=eq_true q401
                 refine start_ (n:=33) (S:=fun w' => w'.cell? ⟨G382,0,none⟩ = some (.slice Ao21 x383000_2.length co21) ∧ w'.cell? ⟨G382,1,none⟩ = some (.bool false) ∧ w'.cell? ⟨G392,0,none⟩ = some (.slice Ao26 t387.length co26) ∧ w'.cell? ⟨G392,1,none⟩ = some (.bool false) ∧ w'.cell? (ad386.add (x7_2).toNat) = some (.slice A401_0 (rd_L3 l1 x7_2).length c401_0)) (ds:=[]) #[F,F,F,F,F,F,F,F,F,F,F,F,F,F,F,F,F,F,F,F,F,F,F,F,F,F,F,F,F,F,F,F,F] (by kernel_rfl) rfl rfl ⟨zk K382 0,zk K382 1,zk K392 0,zk K392 1,(zh HB hw401_0)⟩ (fun hHeld => ?_);refine with_tabW beaconlaw17_TableRoom.tab11 beaconlaw17_TableRoom.bits11 (fun HT_ HW_ => ?_)
                 generalize wc.drew = w90 at HO_383000 HO_393000 HO_400000 K382 K392 K399 HB HR401_0 hx401_0 hHeld ⊢
                 refine pz 0 64 #[T,F,F,F,F,F,F,F,F,F,F,F,F,F,F,F,F,F,F,F,F,F,F,F,F,F,F,F,F,F,F,F,F] HT_.1 ?_
                 refine tz 1 65 #[T,T,F,F,F,F,F,F,F,F,F,F,F,F,F,F,F,F,F,F,F,F,F,F,F,F,F,F,F,F,F,F,F] HT_.1 HW_.1 hHeld ?_
                 refine pz 2 66 #[T,T,T,F,F,F,F,F,F,F,F,F,F,F,F,F,F,F,F,F,F,F,F,F,F,F,F,F,F,F,F,F,F] HT_.1 ?_
                 refine pz 3 67 #[T,T,T,T,F,F,F,F,F,F,F,F,F,F,F,F,F,F,F,F,F,F,F,F,F,F,F,F,F,F,F,F,F] HT_.1 ?_
                 refine pz 4 68 #[T,T,T,T,T,F,F,F,F,F,F,F,F,F,F,F,F,F,F,F,F,F,F,F,F,F,F,F,F,F,F,F,F] HT_.1 ?_
                 refine pz 6 70 #[T,T,T,T,T,F,T,F,F,F,F,F,F,F,F,F,F,F,F,F,F,F,F,F,F,F,F,F,F,F,F,F,F] HT_.1 ?_
                 refine pz 9 73 #[T,T,T,T,T,F,T,F,F,T,F,F,F,F,F,F,F,F,F,F,F,F,F,F,F,F,F,F,F,F,F,F,F] HT_.1 ?_
                 refine pz 10 74 #[T,T,T,T,T,F,T,F,F,T,T,F,F,F,F,F,F,F,F,F,F,F,F,F,F,F,F,F,F,F,F,F,F] HT_.1 ?_
                 refine pz 11 75 #[T,T,T,T,T,F,T,F,F,T,T,T,F,F,F,F,F,F,F,F,F,F,F,F,F,F,F,F,F,F,F,F,F] HT_.1 ?_
                 refine tz 5 69 #[T,T,T,T,T,T,T,F,F,T,T,T,F,F,F,F,F,F,F,F,F,F,F,F,F,F,F,F,F,F,F,F,F] HT_.1 HW_.1 hHeld ?_
                 refine tz 7 71 #[T,T,T,T,T,T,T,T,F,T,T,T,F,F,F,F,F,F,F,F,F,F,F,F,F,F,F,F,F,F,F,F,F] HT_.1 HW_.1 hHeld ?_
                 refine pz 8 72 #[T,T,T,T,T,T,T,T,T,T,T,T,F,F,F,F,F,F,F,F,F,F,F,F,F,F,F,F,F,F,F,F,F] HT_.1 ?_
                 refine tz 12 76 #[T,T,T,T,T,T,T,T,T,T,T,T,T,F,F,F,F,F,F,F,F,F,F,F,F,F,F,F,F,F,F,F,F] HT_.1 HW_.1 hHeld ?_
                 refine pz 13 77 #[T,T,T,T,T,T,T,T,T,T,T,T,T,T,F,F,F,F,F,F,F,F,F,F,F,F,F,F,F,F,F,F,F] HT_.1 ?_
                 refine pz 14 78 #[T,T,T,T,T,T,T,T,T,T,T,T,T,T,T,F,F,F,F,F,F,F,F,F,F,F,F,F,F,F,F,F,F] HT_.1 ?_
                 refine pz 15 79 #[T,T,T,T,T,T,T,T,T,T,T,T,T,T,T,T,F,F,F,F,F,F,F,F,F,F,F,F,F,F,F,F,F] HT_.1 ?_
                 refine pz 16 80 #[T,T,T,T,T,T,T,T,T,T,T,T,T,T,T,T,T,F,F,F,F,F,F,F,F,F,F,F,F,F,F,F,F] HT_.1 ?_
                 refine pz 17 81 #[T,T,T,T,T,T,T,T,T,T,T,T,T,T,T,T,T,T,F,F,F,F,F,F,F,F,F,F,F,F,F,F,F] HT_.1 ?_
                 refine pz 18 82 #[T,T,T,T,T,T,T,T,T,T,T,T,T,T,T,T,T,T,T,F,F,F,F,F,F,F,F,F,F,F,F,F,F] HT_.1 ?_
                 refine tz 19 83 #[T,T,T,T,T,T,T,T,T,T,T,T,T,T,T,T,T,T,T,T,F,F,F,F,F,F,F,F,F,F,F,F,F] HT_.1 HW_.1 hHeld ?_
                 refine pz 20 84 #[T,T,T,T,T,T,T,T,T,T,T,T,T,T,T,T,T,T,T,T,T,F,F,F,F,F,F,F,F,F,F,F,F] HT_.1 ?_
                 refine pu 21 85 #[T,T,T,T,T,T,T,T,T,T,T,T,T,T,T,T,T,T,T,T,T,T,F,F,F,F,F,F,F,F,F,F,F] HT_.1 ?_
                 refine pu 22 86 #[T,T,T,T,T,T,T,T,T,T,T,T,T,T,T,T,T,T,T,T,T,T,T,F,F,F,F,F,F,F,F,F,F] HT_.1 ?_
                 refine pu 23 87 #[T,T,T,T,T,T,T,T,T,T,T,T,T,T,T,T,T,T,T,T,T,T,T,T,F,F,F,F,F,F,F,F,F] HT_.1 ?_
                 refine pz 24 88 #[T,T,T,T,T,T,T,T,T,T,T,T,T,T,T,T,T,T,T,T,T,T,T,T,T,F,F,F,F,F,F,F,F] HT_.1 ?_
                 refine pz 25 89 #[T,T,T,T,T,T,T,T,T,T,T,T,T,T,T,T,T,T,T,T,T,T,T,T,T,T,F,F,F,F,F,F,F] HT_.1 ?_
                 refine pu 26 90 #[T,T,T,T,T,T,T,T,T,T,T,T,T,T,T,T,T,T,T,T,T,T,T,T,T,T,T,F,F,F,F,F,F] HT_.1 ?_
                 refine pu 27 91 #[T,T,T,T,T,T,T,T,T,T,T,T,T,T,T,T,T,T,T,T,T,T,T,T,T,T,T,T,F,F,F,F,F] HT_.1 ?_
                 refine pu 28 92 #[T,T,T,T,T,T,T,T,T,T,T,T,T,T,T,T,T,T,T,T,T,T,T,T,T,T,T,T,T,F,F,F,F] HT_.1 ?_
                 refine pu 29 93 #[T,T,T,T,T,T,T,T,T,T,T,T,T,T,T,T,T,T,T,T,T,T,T,T,T,T,T,T,T,T,F,F,F] HT_.1 ?_
                 refine pu 30 94 #[T,T,T,T,T,T,T,T,T,T,T,T,T,T,T,T,T,T,T,T,T,T,T,T,T,T,T,T,T,T,T,F,F] HT_.1 ?_
                 refine pz 31 95 #[T,T,T,T,T,T,T,T,T,T,T,T,T,T,T,T,T,T,T,T,T,T,T,T,T,T,T,T,T,T,T,T,F] HT_.1 ?_
                 refine pz 32 96 #[T,T,T,T,T,T,T,T,T,T,T,T,T,T,T,T,T,T,T,T,T,T,T,T,T,T,T,T,T,T,T,T,T] HT_.1 ?_
                 refine done_ (done_of HT_.out (by kernel_rfl)) ?_
                 have hnb91:=NB392_382.1
                 have hnc91:=NB382_392.1
                 have hnb92:=NB392_399.1
                 have hnc92:=NB399_392.1
                 have hcz93_0 : w90.cell? ⟨G392,0,none⟩ = some (.slice Ao26 t387.length co26):=zk K392 0
                 have hcz93_1 : w90.cell? ⟨G392,1,none⟩ = some (.bool false):=zk K392 1
                 have hfz93_0:=bF K392.1 0
                 have hfz93_1:=bF K392.1 1
                 have hnb94:=NB382_399.1
                 have hnc94:=NB399_382.1
                 have hcz95_0 : w90.cell? ⟨G382,0,none⟩ = some (.slice Ao21 x383000_2.length co21):=zk K382 0
                 have hcz95_1 : w90.cell? ⟨G382,1,none⟩ = some (.bool false):=zk K382 1
                 have hfz95_0:=bF K382.1 0
                 have hfz95_1:=bF K382.1 1
                 try go_wp2
                 go_roundg kj19
                 case measure => have:=HJ3.out;have:=HK2.out;have:=HJ19.out;omega
                 case rel => exact ⟨(wrap64 (x7_2 + 1)),(t387),(false),(.slice Ao26 t387.length co26),ze,H',⟨by have:=HJ3.out;have:=HK2.out;have:=HJ19.out;omega⟩,⟨Kd.V_mono (Kd.R_V (by (with_reducible repeat (first|apply Kd.R_alloc|apply Kd.R_drewN|apply Kd.R_drew));exact Kd.R_mono (Kd.R_far (p:=⟨G382,1,none⟩) (Kd.R_far (p:=⟨G382,0,none⟩) (Kd.R_types (Kd.R_types HO_393000.out K382.1 (by decide)) K382.1 (by decide)) (fun _ hk => hk.2) (.slice Ao26 t387.length co26)) (fun _ hk => hk.2) (.bool false)) (fun _ hk => And.intro hk.1.1.1 hk.1.2))) (fun k_ hk => by first|exact ⟨(.inr (hk.1)),hk.2⟩|exact (.inr (hk)))⟩,⟨zF K382⟩,⟨zH HB⟩⟩
              ·rw [if_neg c78] at H
               exact absurd H (by simp)
             ·rw [if_neg c77] at H
              exact absurd H (by simp)
        ·rw [if_neg c18] at H
         have c18b0 : (t391 == 0) = false:=beq_eq_false_iff_ne.mpr c18
         have c18b1 : (t391 != 0) = true:=bne_iff_ne.mpr c18
         have H':=Aside0.mk H
         clear H
         obtain ⟨Ao96,co96,eo96⟩:=Kd.V_slice HO_383000.out
         subst eo96
         try go_wp2
         replace HO_383000:=Aside0.mk (Kd.V_drew HO_383000.out)
         replace K382:=Aside0.mk (bD K382.1)
         replace HB:=Aside0.mk (bw1 HB.1)
         have p386 : 0 ≤ (x7_2 : Int):=zd
         have q386 : x7_2 < (l1.length : Int):=zd
         obtain ⟨ad386,A386_0,c386_0,e386,hx386_0,hl386_0,hi386_0⟩:=at_L3 HR1.out x7_2 p386 q386
         have hw386_0:=hx386_0
         cases e386
         replace hx386_0:=zh HB hx386_0
         have HR386_0:=Aside0.mk hi386_0
         have HC386_0:=Aside0.mk hl386_0
         clear hi386_0 hl386_0
         replace p386:=eq_true p386
         replace q386:=eq_true q386
         refine start_ (n:=13) (S:=fun w' => w'.cell? ⟨G382,0,none⟩ = some (.slice Ao96 x383000_2.length co96) ∧ w'.cell? ⟨G382,1,none⟩ = some (.bool x383001_2) ∧ w'.cell? (ad386.add (x7_2).toNat) = some (.slice A386_0 (rd_L3 l1 x7_2).length c386_0)) (ds:=[]) #[F,F,F,F,F,F,F,F,F,F,F,F,F] (by kernel_rfl) rfl rfl ⟨zk K382 0,zk K382 1,(zh HB hw386_0)⟩ (fun hHeld => ?_);refine with_tabW beaconlaw17_TableRoom.tab6 beaconlaw17_TableRoom.bits6 (fun HT_ HW_ => ?_)
         generalize wr.drew = w97 at HO_383000 K382 HB HR386_0 hx386_0 hHeld ⊢
         refine pz 1 27 #[F,T,F,F,F,F,F,F,F,F,F,F,F] HT_.1 ?_
         refine pz 2 28 #[F,T,T,F,F,F,F,F,F,F,F,F,F] HT_.1 ?_
         refine pz 3 29 #[F,T,T,T,F,F,F,F,F,F,F,F,F] HT_.1 ?_
         refine pz 5 31 #[F,T,T,T,F,T,F,F,F,F,F,F,F] HT_.1 ?_
         refine tz 0 26 #[T,T,T,T,F,T,F,F,F,F,F,F,F] HT_.1 HW_.1 hHeld ?_
         refine tz 4 30 #[T,T,T,T,T,T,F,F,F,F,F,F,F] HT_.1 HW_.1 hHeld ?_
         refine join_ (σ:=Value × Nat) 2 #[T,T,T,T,T,T,T,T,T,T,T,F,F] (fun s_ => [(32,.tuple #[.agg #[s_.1,.bool t390],.int .i64 t391]),(8,.pointer (some ⟨s_.2,0,none⟩)),(25,.tuple #[.agg #[s_.1,.bool t390],.int .i64 t391]),(33,.agg #[s_.1,.bool t390]),(34,.int .i64 t391)]) (fun s_ w' => (w'.cell? ⟨G382,0,none⟩ = some (.slice Ao96 x383000_2.length co96) ∧ w'.cell? ⟨G382,1,none⟩ = some (.bool x383001_2) ∧ w'.cell? (ad386.add (x7_2).toNat) = some (.slice A386_0 (rd_L3 l1 x7_2).length c386_0)) ∧ (Kd.R k39 39 w' w.heap.size (fun k_ => (w.heap.size ≤ k_)) s_.1 t387) ∧ (Kd.V k39 39 w' w.heap.size (fun k_ => (P0_0_ k_ ∨ w.heap.size ≤ k_) ∧ some k_ ≠ (s_.1 : Value).ownBlock ∧ k_ ≠ G382 ∧ k_ ≠ s_.2) (.slice Ao96 x383000_2.length co96) x383000_2) ∧ (w'.heap[G382]? = some (.cells #[.slice Ao96 x383000_2.length co96,.bool x383001_2] 24 (0,0))) ∧ (w'.heap[s_.2]? = some (.cells #[.slice none 0 0,.bool false] 24 (0,0))) ∧ (w.heap.size ≤ s_.2) ∧ (w.heap.size ≤ s_.2) ∧ (G382 ≠ s_.2) ∧ (s_.2 ≠ G382) ∧ (Below w.heap.size w w')) ?_ ?_
         rotate_left
         ·intro hCont
          refine two_ (i:=6) (j:=10) (Ni:=some 32) (Nj:=some 8) #[T,T,T,T,T,T,T,F,F,F,F,F,F] #[T,T,T,T,T,T,F,F,F,F,T,F,F] rfl rfl rfl rfl (two_of HT_.out (by kernel_rfl)) (by decide) (by decide) (fun K hK => ?_) (fun K hK => ?_)
          ·skip
           refine goes_ Try.func14 (by kernel_rfl) rfl #[.agg #[.slice Ao96 x383000_2.length co96,.bool x383001_2],.slice A386_0 (rd_L3 l1 x7_2).length c386_0,.int .i64 a2] (by rfl) rfl rfl (by (try simp only [List.map_toArray,List.map_cons,List.map_nil]);first|done|rfl|(simp only [List.length_drop,List.length_take];rfl)) ?_
           with_reducible refine (table_Keep.calls k2 _ _ x383000_2 x383001_2 _ _ (rd_L3 l1 x7_2) a2 t387 t390 t391 _ ?side1 ?side2 ?side3 ?side4 A17.out).mono ?_
           (case side1 => exact zC ((Kd.V_reads' HO_383000.out).2.2))
           (case side2 => exact (Kd.V_reads' HO_383000.out).2.1)
           (case side3 => exact zC (Kd.C_below HR386_0.out HB.1))
           (case side4 => exact HC386_0.out)
           rintro e w98 ⟨v388,rfl,ho0,hb⟩
           refine ⟨_,rfl,?_⟩
           replace HO_383000:=Aside0.mk (Kd.V_elder' (by (with_reducible repeat (first|apply Kd.V_alloc|apply Kd.V_drewN|apply Kd.V_drew));exact HO_383000.out) (Kd.R_base ho0) hb)
           have HO389:=Aside0.mk (Kd.R_lower (Kd.R_newM (M:=fun k_ => (w.heap.size ≤ k_)) ho0 (zW HB) (fun k_ h_ => h_)) (zW HB))
           replace K382:=zB K382 hb
           replace HB:=zS HB hb
           (try clear hb)
           (try clear hb2)
           (try clear hk)
           (try clear hi)
           (try clear ho0)
           refine hK.out _ _ ⟨zk K382 0,zk K382 1,(zh HB hw386_0)⟩ (fun hHeld => ?_)
           clear hK K
           refine nz 32 ?_
           refine pz 7 25 #[T,T,T,T,T,T,T,T,F,F,F,F,F] HT_.1 ?_
           refine pz 8 33 #[T,T,T,T,T,T,T,T,T,F,F,F,F] HT_.1 ?_
           refine pz 9 34 #[T,T,T,T,T,T,T,T,T,T,F,F,F] HT_.1 ?_
           refine one_ (i:=10) (N:=some 8) #[T,T,T,T,T,T,T,T,T,T,T,F,F] rfl rfl (one_of HT_.out (by kernel_rfl)) (by decide) (fun K hK => ?_)
           refine box_step ?hg (N:=8) ?hd (cs:=#[.slice none 0 0,.bool false]) (t:=24) ?hr ?_;(case hd => rfl);(case hg => exact zw);(case hr => first|(go_simp;done)|(go_simp;rfl))
           intro G392 hg w99 hbox hb
           replace HO_383000:=Aside0.mk (Kd.V_below (Kd.V_elderB (by (with_reducible repeat (first|apply Kd.V_alloc|apply Kd.V_drewN|apply Kd.V_drew));exact HO_383000.out) G392 (Nat.le_of_eq hg.symm)) hb)
           replace HO389:=Aside0.mk (Kd.R_below (zR HO389) hb)
           have K392:=Aside0.mk (hbox)
           have GW392:=zN HB hg
           have GE392:=zN HB hg
           replace HB:=zS HB hb
           have NB382_392:=zL K382 hg
           have NB392_382:=zG K382 hg
           replace K382:=zB K382 hb
           clear hb hbox hg
           refine hK.out _ _ ⟨zk K382 0,zk K382 1,(zh HB hw386_0)⟩ (fun hHeld => ?_)
           clear hK K
           refine nz 8 ?_
           exact norm_ (by simp only [putAll,Act.put,xA,xB,xC]) (hCont (v388,G392) _ ⟨hHeld,(by (with_reducible repeat (first|apply Kd.R_alloc|apply Kd.R_drewN|apply Kd.R_drew));exact Kd.R_mono HO389.out (fun _ hk => hk.1)),(by (with_reducible repeat (first|apply Kd.V_alloc|apply Kd.V_drewN|apply Kd.V_drew));exact Kd.V_mono HO_383000.out (fun _ hk => ⟨hk.1.1.1,⟨hk.1.2,⟨hk.1.1.2,hk.2⟩⟩⟩)),(z1 K382.1),(z1 K392.1),GW392.1,GE392.1,NB382_392.1,NB392_382.1,(zH HB)⟩)
          ·skip
           refine box_step ?hg (N:=8) ?hd (cs:=#[.slice none 0 0,.bool false]) (t:=24) ?hr ?_;(case hd => rfl);(case hg => exact zw);(case hr => first|(go_simp;done)|(go_simp;rfl))
           intro G392 hg w98 hbox hb
           replace HO_383000:=Aside0.mk (Kd.V_below (Kd.V_elderB (by (with_reducible repeat (first|apply Kd.V_alloc|apply Kd.V_drewN|apply Kd.V_drew));exact HO_383000.out) G392 (Nat.le_of_eq hg.symm)) hb)
           have K392:=Aside0.mk (hbox)
           have GW392:=zN HB hg
           have GE392:=zN HB hg
           replace HB:=zS HB hb
           have NB382_392:=zL K382 hg
           have NB392_382:=zG K382 hg
           replace K382:=zB K382 hb
           clear hb hbox hg
           refine hK.out _ _ ⟨zk K382 0,zk K382 1,(zh HB hw386_0)⟩ (fun hHeld => ?_)
           clear hK K
           refine nz 8 ?_
           refine one_ (i:=6) (N:=some 32) #[T,T,T,T,T,T,T,F,F,F,T,F,F] rfl rfl (one_of HT_.out (by kernel_rfl)) (by decide) (fun K hK => ?_)
           refine goes_ Try.func14 (by kernel_rfl) rfl #[.agg #[.slice Ao96 x383000_2.length co96,.bool x383001_2],.slice A386_0 (rd_L3 l1 x7_2).length c386_0,.int .i64 a2] (by rfl) rfl rfl (by (try simp only [List.map_toArray,List.map_cons,List.map_nil]);first|done|rfl|(simp only [List.length_drop,List.length_take];rfl)) ?_
           with_reducible refine (table_Keep.calls k2 _ _ x383000_2 x383001_2 _ _ (rd_L3 l1 x7_2) a2 t387 t390 t391 _ ?side1 ?side2 ?side3 ?side4 A17.out).mono ?_
           (case side1 => exact zC ((Kd.V_reads' HO_383000.out).2.2))
           (case side2 => exact (Kd.V_reads' HO_383000.out).2.1)
           (case side3 => exact zC (Kd.C_below HR386_0.out HB.1))
           (case side4 => exact HC386_0.out)
           rintro e w99 ⟨v388,rfl,ho0,hb⟩
           refine ⟨_,rfl,?_⟩
           replace HO_383000:=Aside0.mk (Kd.V_elder' (by (with_reducible repeat (first|apply Kd.V_alloc|apply Kd.V_drewN|apply Kd.V_drew));exact HO_383000.out) (Kd.R_base ho0) hb)
           have HO389:=Aside0.mk (Kd.R_lower (Kd.R_newM (M:=fun k_ => (w.heap.size ≤ k_)) ho0 (zW HB) (fun k_ h_ => h_)) (zW HB))
           replace K382:=zB K382 hb
           replace K392:=zB K392 hb
           replace HB:=zS HB hb
           (try clear hb)
           (try clear hb2)
           (try clear hk)
           (try clear hi)
           (try clear ho0)
           refine hK.out _ _ ⟨zk K382 0,zk K382 1,(zh HB hw386_0)⟩ (fun hHeld => ?_)
           clear hK K
           refine nz 32 ?_
           refine pz 7 25 #[T,T,T,T,T,T,T,T,F,F,T,F,F] HT_.1 ?_
           refine pz 8 33 #[T,T,T,T,T,T,T,T,T,F,T,F,F] HT_.1 ?_
           refine pz 9 34 #[T,T,T,T,T,T,T,T,T,T,T,F,F] HT_.1 ?_
           exact norm_ (by simp only [putAll,Act.put,xA,xB,xC]) (hCont (v388,G392) _ ⟨hHeld,(by (with_reducible repeat (first|apply Kd.R_alloc|apply Kd.R_drewN|apply Kd.R_drew));exact Kd.R_mono HO389.out (fun _ hk => hk.1)),(by (with_reducible repeat (first|apply Kd.V_alloc|apply Kd.V_drewN|apply Kd.V_drew));exact Kd.V_mono HO_383000.out (fun _ hk => ⟨hk.1.1.1,⟨hk.2,⟨hk.1.1.2,hk.1.2⟩⟩⟩)),(z1 K382.1),(z1 K392.1),GW392.1,GE392.1,NB382_392.1,NB392_382.1,(zH HB)⟩)
         rintro ⟨v388,G392⟩ w100 ⟨hS_,h0_,h1_,h2_,h3_,h4_,h5_,h6_,h7_,h8_⟩
         have HO389 : Aside0 (Kd.R k39 39 w100 w.heap.size (fun k_ => (w.heap.size ≤ k_)) v388 t387):=⟨h0_⟩
         replace HO_383000 : Aside0 (Kd.V k39 39 w100 w.heap.size (fun k_ => (P0_0_ k_ ∨ w.heap.size ≤ k_) ∧ some k_ ≠ (v388 : Value).ownBlock ∧ k_ ≠ G382 ∧ k_ ≠ G392) (.slice Ao96 x383000_2.length co96) x383000_2):=⟨h1_⟩
         replace K382 : Aside0 (w100.heap[G382]? = some (.cells #[.slice Ao96 x383000_2.length co96,.bool x383001_2] 24 (0,0))):=⟨h2_⟩
         have K392 : Aside0 (w100.heap[G392]? = some (.cells #[.slice none 0 0,.bool false] 24 (0,0))):=⟨h3_⟩
         have GW392 : Aside0 (w.heap.size ≤ G392):=⟨h4_⟩
         have GE392 : Aside0 (w.heap.size ≤ G392):=⟨h5_⟩
         have NB382_392 : Aside0 (G382 ≠ G392):=⟨h6_⟩
         have NB392_382 : Aside0 (G392 ≠ G382):=⟨h7_⟩
         replace HB : Aside0 (Below w.heap.size w w100):=⟨h8_⟩
         clear h0_ h1_ h2_ h3_ h4_ h5_ h6_ h7_ h8_
         have hHeld : w100.cell? ⟨G382,0,none⟩ = some (.slice Ao96 x383000_2.length co96) ∧ w100.cell? ⟨G382,1,none⟩ = some (.bool x383001_2) ∧ w100.cell? (ad386.add (x7_2).toNat) = some (.slice A386_0 (rd_L3 l1 x7_2).length c386_0):=hS_
         obtain ⟨Ao101,co101,eo101⟩:=Kd.R_slice HO389.out
         (first|subst eo101|(injection eo101 with f1_ f2_ f3_;have f4_:=f1_.symm;have f5_:=f3_.symm;clear f1_ f2_ f3_;subst f4_;subst f5_))
         refine norm_ (a':=?_) ?_ ?_
         rotate_left
         ·simp only [putAll,Act.put,xA,xB,xC]
          rfl
         refine one_ (i:=11) (N:=none) #[T,T,T,T,T,T,T,T,T,T,T,T,F] rfl rfl (one_of HT_.out (by kernel_rfl)) (by decide) (fun K hK => ?_)
         have hs102 : w100.cell? ⟨G392,0,none⟩ = some (.slice none 0 0):=zk K392 0
         have hfs102:=bF K392.1 0
         have hns102_0:=NB382_392.1
         have hms102_0:=NB392_382.1
         have hs103 : w100.cell? ⟨G392,1,none⟩ = some (.bool false):=zk K392 1
         have hfs103:=bF K392.1 1
         have hns103_0:=NB382_392.1
         have hms103_0:=NB392_382.1
         refine sz ?_
         refine hK.out _ _ ⟨((cF (p:=⟨G392,_,none⟩) NB382_392.1 _).trans (((cF (p:=⟨G392,_,none⟩) NB382_392.1 _).trans (hHeld.1)))),((cF (p:=⟨G392,_,none⟩) NB382_392.1 _).trans (((cF (p:=⟨G392,_,none⟩) NB382_392.1 _).trans (hHeld.2.1)))),((cF (p:=⟨G392,_,none⟩) (ne_c hw386_0 GW392.1) _).trans (((cF (p:=⟨G392,_,none⟩) (ne_c hw386_0 GW392.1) _).trans (hHeld.2.2))))⟩ (fun hHeld => ?_)
         clear hK K
         refine pz 12 9 #[T,T,T,T,T,T,T,T,T,T,T,T,T] HT_.1 ?_
         refine done_ (done_of HT_.out (by kernel_rfl)) ?_
         try go_wp2
         go_roundg k2
         case measure => have:=HJ3.out;have:=HK2.out;omega
         case rel => exact ⟨(wrap64 (x7_2 + 1)),(x383000_2),(x383001_2),(.slice Ao96 x383000_2.length co96),ze,H',⟨by have:=HJ3.out;have:=HK2.out;omega⟩,⟨by (with_reducible repeat (first|apply Kd.V_alloc|apply Kd.V_drewN|apply Kd.V_drew));exact Kd.V_mono (Kd.V_far (p:=⟨G392,1,none⟩) (Kd.V_far (p:=⟨G392,0,none⟩) (Kd.V_mono HO_383000.out (fun k_ hk => (⟨hk,hk.2.2.2⟩ : _ ∧ k_ ≠ G392))) (fun _ hk => hk.2) (.slice Ao101 t387.length co101)) (fun _ hk => hk.2) (.bool t390)) (fun _ hk => ⟨hk.1.1,hk.1.2.2.1⟩)⟩,⟨zf K382⟩,⟨zH HB⟩⟩
       ·rw [if_neg c16] at H
        exact absurd H (by simp)
      ·rw [if_neg c15] at H
       have c15b0 : decide (x7_2 < (l1.length : Int)) = false:=decide_eq_false c15
       clear c15
       replace H:=Option.bind_eq_some_iff.mp H
       obtain ⟨t385,A1040,H⟩:=H
       replace H : (some t385) = some r:=H
       have A104:=Aside0.mk A1040
       clear A1040
       obtain rfl:=Option.some.inj H
       go_wp2_with (first|((with_reducible refine gate_callee (f:=13) rfl ?_);refine zg (some 98) Try.func13 #[] ?_;(with_reducible refine (beaconlaw17_awake.calls k2  t385 _ A104.out).mono ?_);rintro e w105 ⟨rfl,hb⟩;refine ⟨_,rfl,?_⟩;replace HO_383000:=Aside0.mk (Kd.V_below (by (with_reducible repeat (first|apply Kd.V_alloc|apply Kd.V_drewN|apply Kd.V_drew));exact HO_383000.out) hb);replace K382:=zB K382 hb;replace HB:=zS HB hb;(try clear hb)))
       go_ret
       exact ⟨by first|rfl|(simp [errW_none,errW_some] <;> rfl)|(simp [*,errW_none,errW_some] <;> rfl),zH HB⟩

end Go.Proofs.Ytgmjlhpigfaicaa.XA
