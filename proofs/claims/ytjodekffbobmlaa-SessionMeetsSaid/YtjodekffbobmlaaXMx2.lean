/- Go functions of this seat as Lean functions, with proofs that the calls come to them. (Written by xprint.py, a program of this session, over the kit's print.) -/
import Derived.Test.YtjodekffbobmlaaXMx0
import Derived.Test.YtjodekffbobmlaaXMx1
namespace Go.Proofs.Ytjodekffbobmlaa.XM
open Go.RowKit Go.Proofs.YtjodekffbobmlaaW.PrintWords Go.Proofs.YtjodekffbobmlaaW.PrintLast Go.Proofs.YtjodekffbobmlaaW.PrintMore
attribute [local go_sem] max2_int min2_int max_two min_two max_three min_three max_four min_four   -- for this text's walks alone
set_option linter.unusedVariables false
set_option linter.unusedSimpArgs false

/-! ### beaconlaw12_SessionMeets: function 3 -/
mutual
def beaconlaw12_SessionMeets.l0 : Nat → List (S33) → Int → Int → Int → Int → Int → Bool → Int → Int → Int → Bool → Int → Option (Bool)
  | 0, _, _, _, _, _, _, _, _, _, _, _, _ => none
  | k + 1, x1, x6, x148000, x148001, x149000, x149001, x149002, x149003, x149004, x149005, x149006, x149007 => if x6 < 2 then (if x6 = 0 then ((session_New.f x148000).bind fun bt149 => (if bt149.2.2.2.2 = 0 then (beaconlaw12_SessionMeets.l0 k x1 1 x148000 x148001 bt149.1 bt149.2.1 bt149.2.2.1 bt149.2.2.2.1 x149004 x149005 x149006 x149007) else (if x148000 = 0 then ((beaconlaw12_awake.f k).bind fun t155 => (some t155)) else (some false)))) else (if x6 = 1 then ((session_New.f x148001).bind fun bt156 => (if bt156.2.2.2.2 = 0 then (beaconlaw12_SessionMeets.l0 k x1 2 x148000 x148001 x149000 x149001 x149002 x149003 bt156.1 bt156.2.1 bt156.2.2.1 bt156.2.2.2.1) else (if x148001 = 0 then ((beaconlaw12_awake.f k).bind fun t162 => (some t162)) else (some false)))) else (none))) else (beaconlaw12_SessionMeets.l1 k x1 0 x149000 x149001 x149002 x149003 x149004 x149005 x149006 x149007)
def beaconlaw12_SessionMeets.l1 : Nat → List (S33) → Int → Int → Int → Bool → Int → Int → Int → Bool → Int → Option (Bool)
  | 0, _, _, _, _, _, _, _, _, _, _ => none
  | k + 1, x1, x9, x149000, x149001, x149002, x149003, x149004, x149005, x149006, x149007 => if x9 < (x1.length : Int) then (if 0 ≤ x9 then (if ((rd_T33 x1 x9).f1) = 0 then (beaconlaw12_SessionMeets.j2 k x1 x9 (Go.bits .and .i64 ((rd_T33 x1 x9).f0) 1) ((rd_T33 x1 x9).f1) (((rd_T33 x1 x9).f1) == 0) x149000 x149001 x149002 x149003 x149004 x149005 x149006 x149007) else (if ((rd_T33 x1 x9).f1) = 1 then (beaconlaw12_SessionMeets.j2 k x1 x9 (Go.bits .and .i64 ((rd_T33 x1 x9).f0) 1) ((rd_T33 x1 x9).f1) (((rd_T33 x1 x9).f1) == 1) x149000 x149001 x149002 x149003 x149004 x149005 x149006 x149007) else (beaconlaw12_SessionMeets.j2 k x1 x9 (Go.bits .and .i64 ((rd_T33 x1 x9).f0) 1) ((rd_T33 x1 x9).f1) (((rd_T33 x1 x9).f1) == 2) x149000 x149001 x149002 x149003 x149004 x149005 x149006 x149007))) else (none)) else (beaconlaw12_SessionMeets.l2 k 0 x149000 x149001 x149002 x149003 x149004 x149005 x149006 x149007)
def beaconlaw12_SessionMeets.j2 : Nat → List (S33) → Int → Int → Int → Bool → Int → Int → Bool → Int → Int → Int → Bool → Int → Option (Bool)
  | 0, _, _, _, _, _, _, _, _, _, _, _, _, _ => none
  | k + 1, x1, x9, x10, x56, x57, x149000, x149001, x149002, x149003, x149004, x149005, x149006, x149007 => if x57 = true then (if x10 = 0 then ((session_Hello.f x149004 x149005 x149006 x149007).bind fun bt165 => ((session_Hear.f k x149000 x149001 x149002 x149003 bt165.1 bt165.2).bind fun bt167 => (beaconlaw12_SessionMeets.l1 k x1 (wrap64 (x9 + 1)) bt167.1 bt167.2.1 bt167.2.2.1 bt167.2.2.2.1 x149004 x149005 x149006 x149007))) else (if x10 = 1 then ((session_Hello.f x149000 x149001 x149002 x149003).bind fun bt173 => ((session_Hear.f k x149004 x149005 x149006 x149007 bt173.1 bt173.2).bind fun bt175 => (beaconlaw12_SessionMeets.l1 k x1 (wrap64 (x9 + 1)) x149000 x149001 x149002 x149003 bt175.1 bt175.2.1 bt175.2.2.1 bt175.2.2.2.1))) else (none))) else (if x56 = 3 then (if x10 = 0 then (if 0 ≤ x9 then (if x9 < (x1.length : Int) then ((session_Tick.f x149000 x149001 x149002 x149003 ((rd_T33 x1 x9).f3)).bind fun bt182 => (beaconlaw12_SessionMeets.l1 k x1 (wrap64 (x9 + 1)) bt182.1 bt182.2.1 bt182.2.2.1 bt182.2.2.2.1 x149004 x149005 x149006 x149007)) else (none)) else (none)) else (if x10 = 1 then (if 0 ≤ x9 then (if x9 < (x1.length : Int) then ((session_Tick.f x149004 x149005 x149006 x149007 ((rd_T33 x1 x9).f3)).bind fun bt188 => (beaconlaw12_SessionMeets.l1 k x1 (wrap64 (x9 + 1)) x149000 x149001 x149002 x149003 bt188.1 bt188.2.1 bt188.2.2.1 bt188.2.2.2.1)) else (none)) else (none)) else (none))) else (if x56 = 4 then (if x10 = 0 then ((session_Down.f x149000 x149001 x149002 x149003).bind fun bt193 => (beaconlaw12_SessionMeets.l1 k x1 (wrap64 (x9 + 1)) bt193.1 bt193.2.1 bt193.2.2.1 bt193.2.2.2 x149004 x149005 x149006 x149007)) else (if x10 = 1 then ((session_Down.f x149004 x149005 x149006 x149007).bind fun bt197 => (beaconlaw12_SessionMeets.l1 k x1 (wrap64 (x9 + 1)) x149000 x149001 x149002 x149003 bt197.1 bt197.2.1 bt197.2.2.1 bt197.2.2.2)) else (none))) else (beaconlaw12_SessionMeets.l1 k x1 (wrap64 (x9 + 1)) x149000 x149001 x149002 x149003 x149004 x149005 x149006 x149007)))
def beaconlaw12_SessionMeets.l2 : Nat → Int → Int → Int → Bool → Int → Int → Int → Bool → Int → Option (Bool)
  | 0, _, _, _, _, _, _, _, _, _ => none
  | k + 1, x13, x149000, x149001, x149002, x149003, x149004, x149005, x149006, x149007 => if x13 < 3 then (if (Go.bits .and .i64 x13 1) = 0 then ((session_Hello.f x149004 x149005 x149006 x149007).bind fun bt201 => ((session_Hear.f k x149000 x149001 x149002 x149003 bt201.1 bt201.2).bind fun bt203 => (beaconlaw12_SessionMeets.l2 k (wrap64 (x13 + 1)) bt203.1 bt203.2.1 bt203.2.2.1 bt203.2.2.2.1 x149004 x149005 x149006 x149007))) else (if (Go.bits .and .i64 x13 1) = 1 then ((session_Hello.f x149000 x149001 x149002 x149003).bind fun bt209 => ((session_Hear.f k x149004 x149005 x149006 x149007 bt209.1 bt209.2).bind fun bt211 => (beaconlaw12_SessionMeets.l2 k (wrap64 (x13 + 1)) x149000 x149001 x149002 x149003 bt211.1 bt211.2.1 bt211.2.2.1 bt211.2.2.2.1))) else (none))) else (if x149002 = true then (if x149006 = true then (if x149001 = x149004 then (if x149005 = x149000 then ((beaconlaw12_awake.f k).bind fun t217 => (some t217)) else (some false)) else (some false)) else (some false)) else (some false))
end
def beaconlaw12_SessionMeets.f (k : Nat) (a0_0 : Int) (a0_1 : Int) (l1 : List (S33)) : Option (Bool) := beaconlaw12_SessionMeets.l0 k l1 0 a0_0 a0_1 0 0 false 0 0 0 false 0
theorem beaconlaw12_SessionMeets.mono_l : ∀ k, (∀ y0 y1 y2 y3 y4 y5 y6 y7 y8 y9 y10 y11, LeO (beaconlaw12_SessionMeets.l0 k y0 y1 y2 y3 y4 y5 y6 y7 y8 y9 y10 y11) (beaconlaw12_SessionMeets.l0 (k + 1) y0 y1 y2 y3 y4 y5 y6 y7 y8 y9 y10 y11)) ∧ (∀ y0 y1 y2 y3 y4 y5 y6 y7 y8 y9, LeO (beaconlaw12_SessionMeets.l1 k y0 y1 y2 y3 y4 y5 y6 y7 y8 y9) (beaconlaw12_SessionMeets.l1 (k + 1) y0 y1 y2 y3 y4 y5 y6 y7 y8 y9)) ∧ (∀ y0 y1 y2 y3 y4 y5 y6 y7 y8 y9 y10 y11 y12, LeO (beaconlaw12_SessionMeets.j2 k y0 y1 y2 y3 y4 y5 y6 y7 y8 y9 y10 y11 y12) (beaconlaw12_SessionMeets.j2 (k + 1) y0 y1 y2 y3 y4 y5 y6 y7 y8 y9 y10 y11 y12)) ∧ (∀ y0 y1 y2 y3 y4 y5 y6 y7 y8, LeO (beaconlaw12_SessionMeets.l2 k y0 y1 y2 y3 y4 y5 y6 y7 y8) (beaconlaw12_SessionMeets.l2 (k + 1) y0 y1 y2 y3 y4 y5 y6 y7 y8))
  | 0 => ⟨fun _ _ _ _ _ _ _ _ _ _ _ _ r h => by simp [beaconlaw12_SessionMeets.l0] at h, fun _ _ _ _ _ _ _ _ _ _ r h => by simp [beaconlaw12_SessionMeets.l1] at h, fun _ _ _ _ _ _ _ _ _ _ _ _ _ r h => by simp [beaconlaw12_SessionMeets.j2] at h, fun _ _ _ _ _ _ _ _ _ r h => by simp [beaconlaw12_SessionMeets.l2] at h⟩
  | k + 1 => by
    obtain ⟨ih0, ih1, ih2, ih3⟩ := beaconlaw12_SessionMeets.mono_l k
    refine ⟨?_, ?_, ?_, ?_⟩
    · intro y0 y1 y2 y3 y4 y5 y6 y7 y8 y9 y10 y11
      unfold beaconlaw12_SessionMeets.l0
      repeat' first
      | (with_reducible exact ih0 _ _ _ _ _ _ _ _ _ _ _ _)
      | (with_reducible exact ih1 _ _ _ _ _ _ _ _ _ _)
      | (with_reducible exact ih2 _ _ _ _ _ _ _ _ _ _ _ _ _)
      | (with_reducible exact ih3 _ _ _ _ _ _ _ _ _)
      | (with_reducible exact beaconlaw12_awake.mono _)
      | (with_reducible exact session_Hear.mono _ _ _ _ _ _ _)
      | (with_reducible exact LeO.refl _)
      | (with_reducible exact LeO.none _)
      | (with_reducible refine LeO.ite ?_ ?_)
      | (with_reducible refine LeO.bind ?_ (fun _ => ?_))
      | exact ih0 _ _ _ _ _ _ _ _ _ _ _ _
      | exact ih1 _ _ _ _ _ _ _ _ _ _
      | exact ih2 _ _ _ _ _ _ _ _ _ _ _ _ _
      | exact ih3 _ _ _ _ _ _ _ _ _
      | exact beaconlaw12_awake.mono _
      | exact session_Hear.mono _ _ _ _ _ _ _
      | exact LeO.none _
      | refine LeO.ite ?_ ?_
      | refine LeO.bind ?_ (fun _ => ?_)
    · intro y0 y1 y2 y3 y4 y5 y6 y7 y8 y9
      unfold beaconlaw12_SessionMeets.l1
      repeat' first
      | (with_reducible exact ih0 _ _ _ _ _ _ _ _ _ _ _ _)
      | (with_reducible exact ih1 _ _ _ _ _ _ _ _ _ _)
      | (with_reducible exact ih2 _ _ _ _ _ _ _ _ _ _ _ _ _)
      | (with_reducible exact ih3 _ _ _ _ _ _ _ _ _)
      | (with_reducible exact beaconlaw12_awake.mono _)
      | (with_reducible exact session_Hear.mono _ _ _ _ _ _ _)
      | (with_reducible exact LeO.refl _)
      | (with_reducible exact LeO.none _)
      | (with_reducible refine LeO.ite ?_ ?_)
      | (with_reducible refine LeO.bind ?_ (fun _ => ?_))
      | exact ih0 _ _ _ _ _ _ _ _ _ _ _ _
      | exact ih1 _ _ _ _ _ _ _ _ _ _
      | exact ih2 _ _ _ _ _ _ _ _ _ _ _ _ _
      | exact ih3 _ _ _ _ _ _ _ _ _
      | exact beaconlaw12_awake.mono _
      | exact session_Hear.mono _ _ _ _ _ _ _
      | exact LeO.none _
      | refine LeO.ite ?_ ?_
      | refine LeO.bind ?_ (fun _ => ?_)
    · intro y0 y1 y2 y3 y4 y5 y6 y7 y8 y9 y10 y11 y12
      unfold beaconlaw12_SessionMeets.j2
      repeat' first
      | (with_reducible exact ih0 _ _ _ _ _ _ _ _ _ _ _ _)
      | (with_reducible exact ih1 _ _ _ _ _ _ _ _ _ _)
      | (with_reducible exact ih2 _ _ _ _ _ _ _ _ _ _ _ _ _)
      | (with_reducible exact ih3 _ _ _ _ _ _ _ _ _)
      | (with_reducible exact beaconlaw12_awake.mono _)
      | (with_reducible exact session_Hear.mono _ _ _ _ _ _ _)
      | (with_reducible exact LeO.refl _)
      | (with_reducible exact LeO.none _)
      | (with_reducible refine LeO.ite ?_ ?_)
      | (with_reducible refine LeO.bind ?_ (fun _ => ?_))
      | exact ih0 _ _ _ _ _ _ _ _ _ _ _ _
      | exact ih1 _ _ _ _ _ _ _ _ _ _
      | exact ih2 _ _ _ _ _ _ _ _ _ _ _ _ _
      | exact ih3 _ _ _ _ _ _ _ _ _
      | exact beaconlaw12_awake.mono _
      | exact session_Hear.mono _ _ _ _ _ _ _
      | exact LeO.none _
      | refine LeO.ite ?_ ?_
      | refine LeO.bind ?_ (fun _ => ?_)
    · intro y0 y1 y2 y3 y4 y5 y6 y7 y8
      unfold beaconlaw12_SessionMeets.l2
      repeat' first
      | (with_reducible exact ih0 _ _ _ _ _ _ _ _ _ _ _ _)
      | (with_reducible exact ih1 _ _ _ _ _ _ _ _ _ _)
      | (with_reducible exact ih2 _ _ _ _ _ _ _ _ _ _ _ _ _)
      | (with_reducible exact ih3 _ _ _ _ _ _ _ _ _)
      | (with_reducible exact beaconlaw12_awake.mono _)
      | (with_reducible exact session_Hear.mono _ _ _ _ _ _ _)
      | (with_reducible exact LeO.refl _)
      | (with_reducible exact LeO.none _)
      | (with_reducible refine LeO.ite ?_ ?_)
      | (with_reducible refine LeO.bind ?_ (fun _ => ?_))
      | exact ih0 _ _ _ _ _ _ _ _ _ _ _ _
      | exact ih1 _ _ _ _ _ _ _ _ _ _
      | exact ih2 _ _ _ _ _ _ _ _ _ _ _ _ _
      | exact ih3 _ _ _ _ _ _ _ _ _
      | exact beaconlaw12_awake.mono _
      | exact session_Hear.mono _ _ _ _ _ _ _
      | exact LeO.none _
      | refine LeO.ite ?_ ?_
      | refine LeO.bind ?_ (fun _ => ?_)
theorem beaconlaw12_SessionMeets.mono : ∀ a0 a1 a2 k, LeO (beaconlaw12_SessionMeets.f k a0 a1 a2) (beaconlaw12_SessionMeets.f (k + 1) a0 a1 a2) := by
  intro a0 a1 a2 k
  obtain ⟨ih0, ih1, ih2, ih3⟩ := beaconlaw12_SessionMeets.mono_l k
  unfold beaconlaw12_SessionMeets.f
  repeat' first
      | (with_reducible exact ih0 _ _ _ _ _ _ _ _ _ _ _ _)
      | (with_reducible exact ih1 _ _ _ _ _ _ _ _ _ _)
      | (with_reducible exact ih2 _ _ _ _ _ _ _ _ _ _ _ _ _)
      | (with_reducible exact ih3 _ _ _ _ _ _ _ _ _)
      | (with_reducible exact beaconlaw12_awake.mono _)
      | (with_reducible exact session_Hear.mono _ _ _ _ _ _ _)
      | (with_reducible exact LeO.refl _)
      | (with_reducible exact LeO.none _)
      | (with_reducible refine LeO.ite ?_ ?_)
      | (with_reducible refine LeO.bind ?_ (fun _ => ?_))
      | exact ih0 _ _ _ _ _ _ _ _ _ _ _ _
      | exact ih1 _ _ _ _ _ _ _ _ _ _
      | exact ih2 _ _ _ _ _ _ _ _ _ _ _ _ _
      | exact ih3 _ _ _ _ _ _ _ _ _
      | exact beaconlaw12_awake.mono _
      | exact session_Hear.mono _ _ _ _ _ _ _
      | exact LeO.none _
      | refine LeO.ite ?_ ?_
      | refine LeO.bind ?_ (fun _ => ?_)
def beaconlaw12_SessionMeets.T20 : Bool × List (List Nat × List Nat) := (true, [([], []), ([], []), ([1], [1]), ([2], [2]), ([], []), ([], []), ([4, 5], [4, 5]), ([6], [6]), ([7], [7]), ([3, 8], [3, 8]), ([9], [9]), ([10], [10]), ([10], [10]), ([0, 0, 1, 2, 3, 4, 5, 6, 7, 8, 9, 10, 11], [0]), ([13, 11, 9, 0, 1, 2, 3, 4, 5, 6, 7, 8, 9, 10, 11], [11, 13])])
def beaconlaw12_SessionMeets.B20 : List Nat := [0, 0, 2, 6, 0, 0, 48, 112, 240, 510, 1022, 2046, 2046, 4095, 12287]
theorem beaconlaw12_SessionMeets.tab20 : rtab .any (opsOf Try.f3 20) = beaconlaw12_SessionMeets.T20 := by kernel_rfl
theorem beaconlaw12_SessionMeets.bits20 : waitsOk beaconlaw12_SessionMeets.T20.2 beaconlaw12_SessionMeets.B20 = true := by kernel_rfl
set_option maxHeartbeats 2500000 in
set_option maxRecDepth 100000 in
theorem beaconlaw12_SessionMeets.calls (k : Nat) (a0_0 : Int) (a0_1 : Int) (A1 : Option Addr) (c1 : Nat) (l1 : List (S33)) (r : Bool) (w : World) (hr1 : Kd.C k33 w A1 l1.length l1) (hc1 : l1.length ≤ c1) (h : beaconlaw12_SessionMeets.f k a0_0 a0_1 l1 = some r) :
    Calls Try.prog 3 #[.agg #[.int .u64 a0_0, .int .u64 a0_1], .slice A1 l1.length c1] w fun e w' => e = .returned (.bool r) ∧ Below w.heap.size w w' := by
  have hu23 := Try.underlying23
  have hu27 := Try.underlying27
  have hu26 := Try.underlying26
  have HR1 := Aside0.mk hr1
  have HC1 := Aside0.mk hc1
  clear hr1 hc1
  have HB := Aside0.mk (Below.refl w.heap.size w)
  have H : (beaconlaw12_SessionMeets.l0 k l1 0 a0_0 a0_1 0 0 false 0 0 0 false 0) = some r := h
  clear h
  have H' := Aside0.mk H
  clear H
  go_enter Try.func3, Try.ntmps3
  go_wp2_with (first | ((with_reducible refine gate_dst (N := 2) rfl ?_); refine box_event ?hg (N := 2) ?hd (cs := #[.int .u64 a0_0, .int .u64 a0_1]) (t := 23) ?hr ?_; (case hd => rfl); (case hg => rfl); (case hr => first | (go_simp; done) | (go_simp; rfl)); intro gb147 hg w3 hbox hb; have n0_ := Aside0.mk (below_step (by repeat (first | (with_reducible first | exact HB.out | apply below_alloc | apply pw_below_drewN | apply below_drew1) | exact HB.out)) hb); have n1_ := Aside0.mk (hbox); have n2_ := Aside0.mk ((by rw [hg]; exact (below_size (by repeat (first | (with_reducible first | exact HB.out | apply below_alloc | apply pw_below_drewN | apply below_drew1) | exact HB.out))) : w.heap.size ≤ gb147)); have n3_ := Aside0.mk ((by rw [hg]; exact (below_size (by repeat (first | (with_reducible first | exact HB.out | apply below_alloc | apply pw_below_drewN | apply below_drew1) | exact HB.out))) : w.heap.size ≤ gb147)); clear HB; have HB := n0_; have BK147 := n1_; have GW147 := n2_; have GE147 := n3_; clear n0_ n1_ n2_ n3_; clear hb hbox hg) | ((with_reducible refine gate_dst (N := 5) rfl ?_); refine box_event ?hg (N := 5) ?hd (cs := #[.int .u64 0, .int .u64 0, .bool false, .int .i64 0, .int .u64 0, .int .u64 0, .bool false, .int .i64 0]) (t := 27) ?hr ?_; (case hd => rfl); (case hg => rfl); (case hr => first | (go_simp; done) | (go_simp; rfl)); intro gb148 hg w4 hbox hb; have n0_ := Aside0.mk (blk_below (g := gb147) (o := .cells #[.int .u64 a0_0, .int .u64 a0_1] 23 (0, 0)) (by (with_reducible repeat (first | refine blk_drewN ?_ _ | refine blk_drew ?_ | refine blk_alloc ?_ _)); exact BK147.out) hb); have n1_ := Aside0.mk (below_step (by repeat (first | (with_reducible first | exact HB.out | apply below_alloc | apply pw_below_drewN | apply below_drew1 | refine below_set ?_ GE147.out) | exact HB.out)) hb); have n2_ := Aside0.mk (hbox); have n3_ := Aside0.mk ((by rw [hg]; exact (below_size (by repeat (first | (with_reducible first | exact HB.out | apply below_alloc | apply pw_below_drewN | apply below_drew1 | refine below_set ?_ GE147.out) | exact HB.out))) : w.heap.size ≤ gb148)); have n4_ := Aside0.mk ((by rw [hg]; exact (below_size (by repeat (first | (with_reducible first | exact HB.out | apply below_alloc | apply pw_below_drewN | apply below_drew1 | refine below_set ?_ GE147.out) | exact HB.out))) : w.heap.size ≤ gb148)); have n5_ := Aside0.mk ((by rw [hg]; exact Nat.ne_of_lt (blk_lt (g := gb147) (o := .cells #[.int .u64 a0_0, .int .u64 a0_1] 23 (0, 0)) (by (with_reducible repeat (first | refine blk_drewN ?_ _ | refine blk_drew ?_ | refine blk_alloc ?_ _)); exact BK147.out)) : gb147 ≠ gb148)); have n6_ := Aside0.mk ((by rw [hg]; exact Nat.ne_of_gt (blk_lt (g := gb147) (o := .cells #[.int .u64 a0_0, .int .u64 a0_1] 23 (0, 0)) (by (with_reducible repeat (first | refine blk_drewN ?_ _ | refine blk_drew ?_ | refine blk_alloc ?_ _)); exact BK147.out)) : gb148 ≠ gb147)); clear BK147; clear HB; have BK147 := n0_; have HB := n1_; have BK148 := n2_; have GW148 := n3_; have GE148 := n4_; have NB147_148 := n5_; have NB148_147 := n6_; clear n0_ n1_ n2_ n3_ n4_ n5_ n6_; clear hb hbox hg))
  go_loopg [6] k (fun kq v6 w' => ∃ (x6_1 : Int) (x149000_1 : Int) (x149001_1 : Int) (x149002_1 : Bool) (x149003_1 : Int) (x149004_1 : Int) (x149005_1 : Int) (x149006_1 : Bool) (x149007_1 : Int), v6 = .int .i64 x6_1 ∧ Aside0 (beaconlaw12_SessionMeets.l0 kq l1 x6_1 a0_0 a0_1 x149000_1 x149001_1 x149002_1 x149003_1 x149004_1 x149005_1 x149006_1 x149007_1 = some r) ∧ Aside0 (kq ≤ k) ∧ Aside0 (w'.heap[gb147]? = some (.cells #[.int .u64 a0_0, .int .u64 a0_1] 23 (0, 0))) ∧ Aside0 (w'.heap[gb148]? = some (.cells #[.int .u64 x149000_1, .int .u64 x149001_1, .bool x149002_1, .int .i64 x149003_1, .int .u64 x149004_1, .int .u64 x149005_1, .bool x149006_1, .int .i64 x149007_1] 27 (0, 0))) ∧ Aside0 (Below w.heap.size w w'))
  case atStart => exact ⟨(0), (0), (0), (false), (0), (0), (0), (false), (0), (by first | rfl | (simp; done) | (simp [*]; done)), H', ⟨Nat.le_refl _⟩, ⟨by (with_reducible repeat (first | refine blk_drewN ?_ _ | refine blk_drew ?_ | refine blk_alloc ?_ _)); exact BK147.out⟩, ⟨by (with_reducible repeat (first | refine blk_drewN ?_ _ | refine blk_drew ?_ | refine blk_alloc ?_ _)); exact BK148.out⟩, ⟨by repeat (first | (with_reducible first | exact HB.out | apply below_alloc | apply pw_below_drewN | apply below_drew1 | refine below_set ?_ GE147.out | refine below_set ?_ GE148.out) | exact HB.out)⟩⟩
  case round =>
    clear H'
    try clear c1
    try clear p2
    try clear c3
    obtain ⟨x6_1, x149000_1, x149001_1, x149002_1, x149003_1, x149004_1, x149005_1, x149006_1, x149007_1, rfl, HA, HK1, BK147, BK148, HB⟩ := hrel
    cases gk with
    | zero => exact absurd HA.out (by simp [beaconlaw12_SessionMeets.l0])
    | succ k1 =>
      have H := HA.out
      clear HA
      simp only [beaconlaw12_SessionMeets.l0] at H
      by_cases c5 : x6_1 < 2
      · rw [if_pos c5] at H
        have c5b0 : decide (x6_1 < 2) = true := decide_eq_true c5
        clear c5
        by_cases c6 : x6_1 = 0
        · rw [if_pos c6] at H
          have c6b0 : (x6_1 == 0) = true := beq_iff_eq.mpr c6
          have c6b1 : (x6_1 != 0) = false := bne_eq_false_iff_eq.mpr c6
          replace H := Option.bind_eq_some_iff.mp H
          obtain ⟨⟨t149, t150, t151, t152, t153⟩, A70, H⟩ := H
          replace H : (if t153 = 0 then (beaconlaw12_SessionMeets.l0 k1 l1 1 a0_0 a0_1 t149 t150 t151 t152 x149004_1 x149005_1 x149006_1 x149007_1) else (if a0_0 = 0 then ((beaconlaw12_awake.f k1).bind fun t155 => (some t155)) else (some false))) = some r := H
          have A7 := Aside0.mk A70
          clear A70
          by_cases c8 : t153 = 0
          · rw [if_pos c8] at H
            have c8b0 : (t153 == 0) = true := beq_iff_eq.mpr c8
            have c8b1 : (t153 != 0) = false := bne_eq_false_iff_eq.mpr c8
            clear c8
            have H' := Aside0.mk H
            clear H
            have hnb9 := NB147_148.out
            have hnc9 := NB148_147.out
            have hcz10_0 : wr.cell? ⟨gb147, 0, none⟩ = some (.int .u64 a0_0) := (blk_cell BK147.out 0).trans rfl
            have hcz10_1 : wr.cell? ⟨gb147, 1, none⟩ = some (.int .u64 a0_1) := (blk_cell BK147.out 1).trans rfl
            have hfz10_0 := blk_frozen BK147.out 0
            have hfz10_1 := blk_frozen BK147.out 1
            go_wp2_with (first | ((with_reducible refine gate_callee (f := 7) rfl ?_); refine goesL_ (some 25) rfl rfl Try.func7 (by kernel_rfl) rfl #[.int .u64 a0_0] rfl (by (try simp only [List.map_toArray, List.map_cons, List.map_nil]); first | done | rfl | (simp only [List.length_drop, List.length_take]; rfl)) ?_; (with_reducible refine (session_New.calls a0_0 t149 t150 t151 t152 t153 _ A7.out).mono ?_); rintro e w11 ⟨rfl, hb⟩; refine ⟨_, rfl, ?_⟩; have n0_ := Aside0.mk (blk_below (g := gb147) (o := .cells #[.int .u64 a0_0, .int .u64 a0_1] 23 (0, 0)) (by (with_reducible repeat (first | refine blk_drewN ?_ _ | refine blk_drew ?_ | refine blk_alloc ?_ _)); exact BK147.out) hb); have n1_ := Aside0.mk (blk_below (g := gb148) (o := .cells #[.int .u64 x149000_1, .int .u64 x149001_1, .bool x149002_1, .int .i64 x149003_1, .int .u64 x149004_1, .int .u64 x149005_1, .bool x149006_1, .int .i64 x149007_1] 27 (0, 0)) (by (with_reducible repeat (first | refine blk_drewN ?_ _ | refine blk_drew ?_ | refine blk_alloc ?_ _)); exact BK148.out) hb); have n2_ := Aside0.mk (below_step (by repeat (first | (with_reducible first | exact HB.out | apply below_alloc | apply pw_below_drewN | apply below_drew1 | refine below_set ?_ GE147.out | refine below_set ?_ GE148.out) | exact HB.out)) hb); clear BK147; clear BK148; clear HB; have BK147 := n0_; have BK148 := n1_; have HB := n2_; clear n0_ n1_ n2_; (try clear hb); (try clear hb2); (try clear hk); (try clear hi)) | ((with_reducible refine gate_dst (N := 7) rfl ?_); refine box_event ?hg (N := 7) ?hd (cs := #[.int .u64 0, .int .u64 0, .bool false, .int .i64 0]) (t := 26) ?hr ?_; (case hd => rfl); (case hg => rfl); (case hr => first | (go_simp; done) | (go_simp; rfl)); intro gb154 hg w12 hbox hb; have n0_ := Aside0.mk (blk_below (g := gb147) (o := .cells #[.int .u64 a0_0, .int .u64 a0_1] 23 (0, 0)) (by (with_reducible repeat (first | refine blk_drewN ?_ _ | refine blk_drew ?_ | refine blk_alloc ?_ _)); exact BK147.out) hb); have n1_ := Aside0.mk (blk_below (g := gb148) (o := .cells #[.int .u64 x149000_1, .int .u64 x149001_1, .bool x149002_1, .int .i64 x149003_1, .int .u64 x149004_1, .int .u64 x149005_1, .bool x149006_1, .int .i64 x149007_1] 27 (0, 0)) (by (with_reducible repeat (first | refine blk_drewN ?_ _ | refine blk_drew ?_ | refine blk_alloc ?_ _)); exact BK148.out) hb); have n2_ := Aside0.mk (below_step (by repeat (first | (with_reducible first | exact HB.out | apply below_alloc | apply pw_below_drewN | apply below_drew1 | refine below_set ?_ GE147.out | refine below_set ?_ GE148.out) | exact HB.out)) hb); have n3_ := Aside0.mk (hbox); have n4_ := Aside0.mk ((by rw [hg]; exact (below_size (by repeat (first | (with_reducible first | exact HB.out | apply below_alloc | apply pw_below_drewN | apply below_drew1 | refine below_set ?_ GE147.out | refine below_set ?_ GE148.out) | exact HB.out))) : w.heap.size ≤ gb154)); have n5_ := Aside0.mk ((by rw [hg]; exact (below_size (by repeat (first | (with_reducible first | exact HB.out | apply below_alloc | apply pw_below_drewN | apply below_drew1 | refine below_set ?_ GE147.out | refine below_set ?_ GE148.out) | exact HB.out))) : w.heap.size ≤ gb154)); have n6_ := Aside0.mk ((by rw [hg]; exact Nat.ne_of_lt (blk_lt (g := gb147) (o := .cells #[.int .u64 a0_0, .int .u64 a0_1] 23 (0, 0)) (by (with_reducible repeat (first | refine blk_drewN ?_ _ | refine blk_drew ?_ | refine blk_alloc ?_ _)); exact BK147.out)) : gb147 ≠ gb154)); have n7_ := Aside0.mk ((by rw [hg]; exact Nat.ne_of_gt (blk_lt (g := gb147) (o := .cells #[.int .u64 a0_0, .int .u64 a0_1] 23 (0, 0)) (by (with_reducible repeat (first | refine blk_drewN ?_ _ | refine blk_drew ?_ | refine blk_alloc ?_ _)); exact BK147.out)) : gb154 ≠ gb147)); have n8_ := Aside0.mk ((by rw [hg]; exact Nat.ne_of_lt (blk_lt (g := gb148) (o := .cells #[.int .u64 x149000_1, .int .u64 x149001_1, .bool x149002_1, .int .i64 x149003_1, .int .u64 x149004_1, .int .u64 x149005_1, .bool x149006_1, .int .i64 x149007_1] 27 (0, 0)) (by (with_reducible repeat (first | refine blk_drewN ?_ _ | refine blk_drew ?_ | refine blk_alloc ?_ _)); exact BK148.out)) : gb148 ≠ gb154)); have n9_ := Aside0.mk ((by rw [hg]; exact Nat.ne_of_gt (blk_lt (g := gb148) (o := .cells #[.int .u64 x149000_1, .int .u64 x149001_1, .bool x149002_1, .int .i64 x149003_1, .int .u64 x149004_1, .int .u64 x149005_1, .bool x149006_1, .int .i64 x149007_1] 27 (0, 0)) (by (with_reducible repeat (first | refine blk_drewN ?_ _ | refine blk_drew ?_ | refine blk_alloc ?_ _)); exact BK148.out)) : gb154 ≠ gb148)); clear BK147; clear BK148; clear HB; have BK147 := n0_; have BK148 := n1_; have HB := n2_; have BK154 := n3_; have GW154 := n4_; have GE154 := n5_; have NB147_154 := n6_; have NB154_147 := n7_; have NB148_154 := n8_; have NB154_148 := n9_; clear n0_ n1_ n2_ n3_ n4_ n5_ n6_ n7_ n8_ n9_; clear hb hbox hg; have hnb13 := NB154_147.out; have hnc13 := NB147_154.out; have hnb14 := NB154_148.out; have hnc14 := NB148_154.out; have hcz15_0 : w12.cell? ⟨gb154, 0, none⟩ = some (.int .u64 0) := (blk_cell BK154.out 0).trans rfl; have hcz15_1 : w12.cell? ⟨gb154, 1, none⟩ = some (.int .u64 0) := (blk_cell BK154.out 1).trans rfl; have hcz15_2 : w12.cell? ⟨gb154, 2, none⟩ = some (.bool false) := (blk_cell BK154.out 2).trans rfl; have hcz15_3 : w12.cell? ⟨gb154, 3, none⟩ = some (.int .i64 0) := (blk_cell BK154.out 3).trans rfl; have hfz15_0 := blk_frozen BK154.out 0; have hfz15_1 := blk_frozen BK154.out 1; have hfz15_2 := blk_frozen BK154.out 2; have hfz15_3 := blk_frozen BK154.out 3) | ((with_reducible refine gate_store (t := 26) (p := 7) rfl ?_); refine store_event (t := 26) (p := 7) (v := ?vo_w16) (w1 := ((((w12.setCell ⟨gb154, 0, none⟩ (.int .u64 t149)).setCell ⟨gb154, 1, none⟩ (.int .u64 t150)).setCell ⟨gb154, 2, none⟩ (.bool t151)).setCell ⟨gb154, 3, none⟩ (.int .i64 t152))) ?hg ?ho ?hn ?hr ?_; (case ho => rfl); (case hg => rfl); (case hn => rfl); (case hr => first | (go_simp; done) | (go_simp; rfl)); intro w16 hw; have n0_ : Aside0 (w16.heap[gb147]? = some (.cells #[.int .u64 a0_0, .int .u64 a0_1] 23 (0, 0))) := ⟨(by rw [hw]; exact (by (with_reducible repeat (first | refine blk_drewN ?_ _ | refine blk_drew ?_ | refine blk_alloc ?_ _)); refine blk_far ?_ NB147_154.out _; (with_reducible repeat (first | refine blk_drewN ?_ _ | refine blk_drew ?_ | refine blk_alloc ?_ _)); refine blk_far ?_ NB147_154.out _; (with_reducible repeat (first | refine blk_drewN ?_ _ | refine blk_drew ?_ | refine blk_alloc ?_ _)); refine blk_far ?_ NB147_154.out _; (with_reducible repeat (first | refine blk_drewN ?_ _ | refine blk_drew ?_ | refine blk_alloc ?_ _)); refine blk_far ?_ NB147_154.out _; (with_reducible repeat (first | refine blk_drewN ?_ _ | refine blk_drew ?_ | refine blk_alloc ?_ _)); exact BK147.out))⟩; have n1_ : Aside0 (w16.heap[gb148]? = some (.cells #[.int .u64 x149000_1, .int .u64 x149001_1, .bool x149002_1, .int .i64 x149003_1, .int .u64 x149004_1, .int .u64 x149005_1, .bool x149006_1, .int .i64 x149007_1] 27 (0, 0))) := ⟨(by rw [hw]; exact (by (with_reducible repeat (first | refine blk_drewN ?_ _ | refine blk_drew ?_ | refine blk_alloc ?_ _)); refine blk_far ?_ NB148_154.out _; (with_reducible repeat (first | refine blk_drewN ?_ _ | refine blk_drew ?_ | refine blk_alloc ?_ _)); refine blk_far ?_ NB148_154.out _; (with_reducible repeat (first | refine blk_drewN ?_ _ | refine blk_drew ?_ | refine blk_alloc ?_ _)); refine blk_far ?_ NB148_154.out _; (with_reducible repeat (first | refine blk_drewN ?_ _ | refine blk_drew ?_ | refine blk_alloc ?_ _)); refine blk_far ?_ NB148_154.out _; (with_reducible repeat (first | refine blk_drewN ?_ _ | refine blk_drew ?_ | refine blk_alloc ?_ _)); exact BK148.out))⟩; have n2_ : Aside0 (w16.heap[gb154]? = some (.cells #[.int .u64 t149, .int .u64 t150, .bool t151, .int .i64 t152] 26 (0, 0))) := ⟨(by rw [hw]; exact (by (with_reducible repeat (first | refine blk_drewN ?_ _ | refine blk_drew ?_ | refine blk_alloc ?_ _)); refine blk_put (cs := #[.int .u64 t149, .int .u64 t150, .bool t151, .int .i64 0]) ?_ 3 _ rfl; (with_reducible repeat (first | refine blk_drewN ?_ _ | refine blk_drew ?_ | refine blk_alloc ?_ _)); refine blk_put (cs := #[.int .u64 t149, .int .u64 t150, .bool false, .int .i64 0]) ?_ 2 _ rfl; (with_reducible repeat (first | refine blk_drewN ?_ _ | refine blk_drew ?_ | refine blk_alloc ?_ _)); refine blk_put (cs := #[.int .u64 t149, .int .u64 0, .bool false, .int .i64 0]) ?_ 1 _ rfl; (with_reducible repeat (first | refine blk_drewN ?_ _ | refine blk_drew ?_ | refine blk_alloc ?_ _)); refine blk_put (cs := #[.int .u64 0, .int .u64 0, .bool false, .int .i64 0]) ?_ 0 _ rfl; (with_reducible repeat (first | refine blk_drewN ?_ _ | refine blk_drew ?_ | refine blk_alloc ?_ _)); exact BK154.out))⟩; have n3_ : Aside0 (Below w.heap.size w w16) := ⟨(by rw [hw]; exact (by repeat (first | (with_reducible first | exact HB.out | apply below_alloc | apply pw_below_drewN | apply below_drew1 | refine below_set ?_ GE147.out | refine below_set ?_ GE148.out | refine below_set ?_ GE154.out) | exact HB.out)))⟩; clear hw; clear BK147; clear BK148; clear BK154; clear HB; have BK147 := n0_; have BK148 := n1_; have BK154 := n2_; have HB := n3_; clear n0_ n1_ n2_ n3_; have hcz17_0 : w16.cell? ⟨gb154, 0, none⟩ = some (.int .u64 t149) := (blk_cell BK154.out 0).trans rfl; have hcz17_1 : w16.cell? ⟨gb154, 1, none⟩ = some (.int .u64 t150) := (blk_cell BK154.out 1).trans rfl; have hcz17_2 : w16.cell? ⟨gb154, 2, none⟩ = some (.bool t151) := (blk_cell BK154.out 2).trans rfl; have hcz17_3 : w16.cell? ⟨gb154, 3, none⟩ = some (.int .i64 t152) := (blk_cell BK154.out 3).trans rfl; have hfz17_0 := blk_frozen BK154.out 0; have hfz17_1 := blk_frozen BK154.out 1; have hfz17_2 := blk_frozen BK154.out 2; have hfz17_3 := blk_frozen BK154.out 3; have hcz18_0 : w16.cell? ⟨gb148, 0, none⟩ = some (.int .u64 x149000_1) := (blk_cell BK148.out 0).trans rfl; have hcz18_1 : w16.cell? ⟨gb148, 1, none⟩ = some (.int .u64 x149001_1) := (blk_cell BK148.out 1).trans rfl; have hcz18_2 : w16.cell? ⟨gb148, 2, none⟩ = some (.bool x149002_1) := (blk_cell BK148.out 2).trans rfl; have hcz18_3 : w16.cell? ⟨gb148, 3, none⟩ = some (.int .i64 x149003_1) := (blk_cell BK148.out 3).trans rfl; have hcz18_4 : w16.cell? ⟨gb148, 4, none⟩ = some (.int .u64 x149004_1) := (blk_cell BK148.out 4).trans rfl; have hcz18_5 : w16.cell? ⟨gb148, 5, none⟩ = some (.int .u64 x149005_1) := (blk_cell BK148.out 5).trans rfl; have hcz18_6 : w16.cell? ⟨gb148, 6, none⟩ = some (.bool x149006_1) := (blk_cell BK148.out 6).trans rfl; have hcz18_7 : w16.cell? ⟨gb148, 7, none⟩ = some (.int .i64 x149007_1) := (blk_cell BK148.out 7).trans rfl; have hfz18_0 := blk_frozen BK148.out 0; have hfz18_1 := blk_frozen BK148.out 1; have hfz18_2 := blk_frozen BK148.out 2; have hfz18_3 := blk_frozen BK148.out 3; have hfz18_4 := blk_frozen BK148.out 4; have hfz18_5 := blk_frozen BK148.out 5; have hfz18_6 := blk_frozen BK148.out 6; have hfz18_7 := blk_frozen BK148.out 7) | ((with_reducible refine gate_store (t := 26) (p := 39) rfl ?_); refine store_event (t := 26) (p := 39) (v := ?vo_w19) (w1 := ((((w16.setCell ⟨gb148, 0, none⟩ (.int .u64 t149)).setCell ⟨gb148, 1, none⟩ (.int .u64 t150)).setCell ⟨gb148, 2, none⟩ (.bool t151)).setCell ⟨gb148, 3, none⟩ (.int .i64 t152))) ?hg ?ho ?hn ?hr ?_; (case ho => rfl); (case hg => rfl); (case hn => rfl); (case hr => first | (go_simp; done) | (go_simp; rfl)); intro w19 hw; have n0_ : Aside0 (w19.heap[gb147]? = some (.cells #[.int .u64 a0_0, .int .u64 a0_1] 23 (0, 0))) := ⟨(by rw [hw]; exact (by (with_reducible repeat (first | refine blk_drewN ?_ _ | refine blk_drew ?_ | refine blk_alloc ?_ _)); refine blk_far ?_ NB147_148.out _; (with_reducible repeat (first | refine blk_drewN ?_ _ | refine blk_drew ?_ | refine blk_alloc ?_ _)); refine blk_far ?_ NB147_148.out _; (with_reducible repeat (first | refine blk_drewN ?_ _ | refine blk_drew ?_ | refine blk_alloc ?_ _)); refine blk_far ?_ NB147_148.out _; (with_reducible repeat (first | refine blk_drewN ?_ _ | refine blk_drew ?_ | refine blk_alloc ?_ _)); refine blk_far ?_ NB147_148.out _; (with_reducible repeat (first | refine blk_drewN ?_ _ | refine blk_drew ?_ | refine blk_alloc ?_ _)); exact BK147.out))⟩; have n1_ : Aside0 (w19.heap[gb148]? = some (.cells #[.int .u64 t149, .int .u64 t150, .bool t151, .int .i64 t152, .int .u64 x149004_1, .int .u64 x149005_1, .bool x149006_1, .int .i64 x149007_1] 27 (0, 0))) := ⟨(by rw [hw]; exact (by (with_reducible repeat (first | refine blk_drewN ?_ _ | refine blk_drew ?_ | refine blk_alloc ?_ _)); refine blk_put (cs := #[.int .u64 t149, .int .u64 t150, .bool t151, .int .i64 x149003_1, .int .u64 x149004_1, .int .u64 x149005_1, .bool x149006_1, .int .i64 x149007_1]) ?_ 3 _ rfl; (with_reducible repeat (first | refine blk_drewN ?_ _ | refine blk_drew ?_ | refine blk_alloc ?_ _)); refine blk_put (cs := #[.int .u64 t149, .int .u64 t150, .bool x149002_1, .int .i64 x149003_1, .int .u64 x149004_1, .int .u64 x149005_1, .bool x149006_1, .int .i64 x149007_1]) ?_ 2 _ rfl; (with_reducible repeat (first | refine blk_drewN ?_ _ | refine blk_drew ?_ | refine blk_alloc ?_ _)); refine blk_put (cs := #[.int .u64 t149, .int .u64 x149001_1, .bool x149002_1, .int .i64 x149003_1, .int .u64 x149004_1, .int .u64 x149005_1, .bool x149006_1, .int .i64 x149007_1]) ?_ 1 _ rfl; (with_reducible repeat (first | refine blk_drewN ?_ _ | refine blk_drew ?_ | refine blk_alloc ?_ _)); refine blk_put (cs := #[.int .u64 x149000_1, .int .u64 x149001_1, .bool x149002_1, .int .i64 x149003_1, .int .u64 x149004_1, .int .u64 x149005_1, .bool x149006_1, .int .i64 x149007_1]) ?_ 0 _ rfl; (with_reducible repeat (first | refine blk_drewN ?_ _ | refine blk_drew ?_ | refine blk_alloc ?_ _)); exact BK148.out))⟩; have n2_ : Aside0 (w19.heap[gb154]? = some (.cells #[.int .u64 t149, .int .u64 t150, .bool t151, .int .i64 t152] 26 (0, 0))) := ⟨(by rw [hw]; exact (by (with_reducible repeat (first | refine blk_drewN ?_ _ | refine blk_drew ?_ | refine blk_alloc ?_ _)); refine blk_far ?_ NB154_148.out _; (with_reducible repeat (first | refine blk_drewN ?_ _ | refine blk_drew ?_ | refine blk_alloc ?_ _)); refine blk_far ?_ NB154_148.out _; (with_reducible repeat (first | refine blk_drewN ?_ _ | refine blk_drew ?_ | refine blk_alloc ?_ _)); refine blk_far ?_ NB154_148.out _; (with_reducible repeat (first | refine blk_drewN ?_ _ | refine blk_drew ?_ | refine blk_alloc ?_ _)); refine blk_far ?_ NB154_148.out _; (with_reducible repeat (first | refine blk_drewN ?_ _ | refine blk_drew ?_ | refine blk_alloc ?_ _)); exact BK154.out))⟩; have n3_ : Aside0 (Below w.heap.size w w19) := ⟨(by rw [hw]; exact (by repeat (first | (with_reducible first | exact HB.out | apply below_alloc | apply pw_below_drewN | apply below_drew1 | refine below_set ?_ GE147.out | refine below_set ?_ GE148.out | refine below_set ?_ GE154.out) | exact HB.out)))⟩; clear hw; clear BK147; clear BK148; clear BK154; clear HB; have BK147 := n0_; have BK148 := n1_; have BK154 := n2_; have HB := n3_; clear n0_ n1_ n2_ n3_))
            go_roundg k1
            case measure => have := HK1.out; omega
            case rel => exact ⟨(1), (t149), (t150), (t151), (t152), (x149004_1), (x149005_1), (x149006_1), (x149007_1), (by first | rfl | (simp; done) | (simp [*]; done)), H', ⟨by have := HK1.out; omega⟩, ⟨by (with_reducible repeat (first | refine blk_drewN ?_ _ | refine blk_drew ?_ | refine blk_alloc ?_ _)); exact BK147.out⟩, ⟨by (with_reducible repeat (first | refine blk_drewN ?_ _ | refine blk_drew ?_ | refine blk_alloc ?_ _)); exact BK148.out⟩, ⟨by repeat (first | (with_reducible first | exact HB.out | apply below_alloc | apply pw_below_drewN | apply below_drew1 | refine below_set ?_ GE147.out | refine below_set ?_ GE148.out | refine below_set ?_ GE154.out) | exact HB.out)⟩⟩
          · rw [if_neg c8] at H
            have c8b0 : (t153 == 0) = false := beq_eq_false_iff_ne.mpr c8
            have c8b1 : (t153 != 0) = true := bne_iff_ne.mpr c8
            by_cases c20 : a0_0 = 0
            · rw [if_pos c20] at H
              have c20b0 : (a0_0 == 0) = true := beq_iff_eq.mpr c20
              have c20b1 : (a0_0 != 0) = false := bne_eq_false_iff_eq.mpr c20
              clear c20
              replace H := Option.bind_eq_some_iff.mp H
              obtain ⟨t155, A210, H⟩ := H
              replace H : (some t155) = some r := H
              have A21 := Aside0.mk A210
              clear A210
              obtain rfl := Option.some.inj H
              have hnb22 := NB147_148.out
              have hnc22 := NB148_147.out
              have hcz23_0 : wr.cell? ⟨gb147, 0, none⟩ = some (.int .u64 a0_0) := (blk_cell BK147.out 0).trans rfl
              have hcz23_1 : wr.cell? ⟨gb147, 1, none⟩ = some (.int .u64 a0_1) := (blk_cell BK147.out 1).trans rfl
              have hfz23_0 := blk_frozen BK147.out 0
              have hfz23_1 := blk_frozen BK147.out 1
              go_wp2_with (first | ((with_reducible refine gate_callee (f := 7) rfl ?_); refine goesL_ (some 25) rfl rfl Try.func7 (by kernel_rfl) rfl #[.int .u64 a0_0] rfl (by (try simp only [List.map_toArray, List.map_cons, List.map_nil]); first | done | rfl | (simp only [List.length_drop, List.length_take]; rfl)) ?_; (with_reducible refine (session_New.calls a0_0 t149 t150 t151 t152 t153 _ A7.out).mono ?_); rintro e w24 ⟨rfl, hb⟩; refine ⟨_, rfl, ?_⟩; have n0_ := Aside0.mk (blk_below (g := gb147) (o := .cells #[.int .u64 a0_0, .int .u64 a0_1] 23 (0, 0)) (by (with_reducible repeat (first | refine blk_drewN ?_ _ | refine blk_drew ?_ | refine blk_alloc ?_ _)); exact BK147.out) hb); have n1_ := Aside0.mk (blk_below (g := gb148) (o := .cells #[.int .u64 x149000_1, .int .u64 x149001_1, .bool x149002_1, .int .i64 x149003_1, .int .u64 x149004_1, .int .u64 x149005_1, .bool x149006_1, .int .i64 x149007_1] 27 (0, 0)) (by (with_reducible repeat (first | refine blk_drewN ?_ _ | refine blk_drew ?_ | refine blk_alloc ?_ _)); exact BK148.out) hb); have n2_ := Aside0.mk (below_step (by repeat (first | (with_reducible first | exact HB.out | apply below_alloc | apply pw_below_drewN | apply below_drew1 | refine below_set ?_ GE147.out | refine below_set ?_ GE148.out) | exact HB.out)) hb); clear BK147; clear BK148; clear HB; have BK147 := n0_; have BK148 := n1_; have HB := n2_; clear n0_ n1_ n2_; (try clear hb); (try clear hb2); (try clear hk); (try clear hi)) | ((with_reducible refine gate_dst (N := 7) rfl ?_); refine box_event ?hg (N := 7) ?hd (cs := #[.int .u64 0, .int .u64 0, .bool false, .int .i64 0]) (t := 26) ?hr ?_; (case hd => rfl); (case hg => rfl); (case hr => first | (go_simp; done) | (go_simp; rfl)); intro gb154 hg w25 hbox hb; have n0_ := Aside0.mk (blk_below (g := gb147) (o := .cells #[.int .u64 a0_0, .int .u64 a0_1] 23 (0, 0)) (by (with_reducible repeat (first | refine blk_drewN ?_ _ | refine blk_drew ?_ | refine blk_alloc ?_ _)); exact BK147.out) hb); have n1_ := Aside0.mk (blk_below (g := gb148) (o := .cells #[.int .u64 x149000_1, .int .u64 x149001_1, .bool x149002_1, .int .i64 x149003_1, .int .u64 x149004_1, .int .u64 x149005_1, .bool x149006_1, .int .i64 x149007_1] 27 (0, 0)) (by (with_reducible repeat (first | refine blk_drewN ?_ _ | refine blk_drew ?_ | refine blk_alloc ?_ _)); exact BK148.out) hb); have n2_ := Aside0.mk (below_step (by repeat (first | (with_reducible first | exact HB.out | apply below_alloc | apply pw_below_drewN | apply below_drew1 | refine below_set ?_ GE147.out | refine below_set ?_ GE148.out) | exact HB.out)) hb); have n3_ := Aside0.mk (hbox); have n4_ := Aside0.mk ((by rw [hg]; exact (below_size (by repeat (first | (with_reducible first | exact HB.out | apply below_alloc | apply pw_below_drewN | apply below_drew1 | refine below_set ?_ GE147.out | refine below_set ?_ GE148.out) | exact HB.out))) : w.heap.size ≤ gb154)); have n5_ := Aside0.mk ((by rw [hg]; exact (below_size (by repeat (first | (with_reducible first | exact HB.out | apply below_alloc | apply pw_below_drewN | apply below_drew1 | refine below_set ?_ GE147.out | refine below_set ?_ GE148.out) | exact HB.out))) : w.heap.size ≤ gb154)); have n6_ := Aside0.mk ((by rw [hg]; exact Nat.ne_of_lt (blk_lt (g := gb147) (o := .cells #[.int .u64 a0_0, .int .u64 a0_1] 23 (0, 0)) (by (with_reducible repeat (first | refine blk_drewN ?_ _ | refine blk_drew ?_ | refine blk_alloc ?_ _)); exact BK147.out)) : gb147 ≠ gb154)); have n7_ := Aside0.mk ((by rw [hg]; exact Nat.ne_of_gt (blk_lt (g := gb147) (o := .cells #[.int .u64 a0_0, .int .u64 a0_1] 23 (0, 0)) (by (with_reducible repeat (first | refine blk_drewN ?_ _ | refine blk_drew ?_ | refine blk_alloc ?_ _)); exact BK147.out)) : gb154 ≠ gb147)); have n8_ := Aside0.mk ((by rw [hg]; exact Nat.ne_of_lt (blk_lt (g := gb148) (o := .cells #[.int .u64 x149000_1, .int .u64 x149001_1, .bool x149002_1, .int .i64 x149003_1, .int .u64 x149004_1, .int .u64 x149005_1, .bool x149006_1, .int .i64 x149007_1] 27 (0, 0)) (by (with_reducible repeat (first | refine blk_drewN ?_ _ | refine blk_drew ?_ | refine blk_alloc ?_ _)); exact BK148.out)) : gb148 ≠ gb154)); have n9_ := Aside0.mk ((by rw [hg]; exact Nat.ne_of_gt (blk_lt (g := gb148) (o := .cells #[.int .u64 x149000_1, .int .u64 x149001_1, .bool x149002_1, .int .i64 x149003_1, .int .u64 x149004_1, .int .u64 x149005_1, .bool x149006_1, .int .i64 x149007_1] 27 (0, 0)) (by (with_reducible repeat (first | refine blk_drewN ?_ _ | refine blk_drew ?_ | refine blk_alloc ?_ _)); exact BK148.out)) : gb154 ≠ gb148)); clear BK147; clear BK148; clear HB; have BK147 := n0_; have BK148 := n1_; have HB := n2_; have BK154 := n3_; have GW154 := n4_; have GE154 := n5_; have NB147_154 := n6_; have NB154_147 := n7_; have NB148_154 := n8_; have NB154_148 := n9_; clear n0_ n1_ n2_ n3_ n4_ n5_ n6_ n7_ n8_ n9_; clear hb hbox hg; have hnb26 := NB154_147.out; have hnc26 := NB147_154.out; have hnb27 := NB154_148.out; have hnc27 := NB148_154.out; have hcz28_0 : w25.cell? ⟨gb154, 0, none⟩ = some (.int .u64 0) := (blk_cell BK154.out 0).trans rfl; have hcz28_1 : w25.cell? ⟨gb154, 1, none⟩ = some (.int .u64 0) := (blk_cell BK154.out 1).trans rfl; have hcz28_2 : w25.cell? ⟨gb154, 2, none⟩ = some (.bool false) := (blk_cell BK154.out 2).trans rfl; have hcz28_3 : w25.cell? ⟨gb154, 3, none⟩ = some (.int .i64 0) := (blk_cell BK154.out 3).trans rfl; have hfz28_0 := blk_frozen BK154.out 0; have hfz28_1 := blk_frozen BK154.out 1; have hfz28_2 := blk_frozen BK154.out 2; have hfz28_3 := blk_frozen BK154.out 3) | ((with_reducible refine gate_store (t := 26) (p := 7) rfl ?_); refine store_event (t := 26) (p := 7) (v := ?vo_w29) (w1 := ((((w25.setCell ⟨gb154, 0, none⟩ (.int .u64 t149)).setCell ⟨gb154, 1, none⟩ (.int .u64 t150)).setCell ⟨gb154, 2, none⟩ (.bool t151)).setCell ⟨gb154, 3, none⟩ (.int .i64 t152))) ?hg ?ho ?hn ?hr ?_; (case ho => rfl); (case hg => rfl); (case hn => rfl); (case hr => first | (go_simp; done) | (go_simp; rfl)); intro w29 hw; have n0_ : Aside0 (w29.heap[gb147]? = some (.cells #[.int .u64 a0_0, .int .u64 a0_1] 23 (0, 0))) := ⟨(by rw [hw]; exact (by (with_reducible repeat (first | refine blk_drewN ?_ _ | refine blk_drew ?_ | refine blk_alloc ?_ _)); refine blk_far ?_ NB147_154.out _; (with_reducible repeat (first | refine blk_drewN ?_ _ | refine blk_drew ?_ | refine blk_alloc ?_ _)); refine blk_far ?_ NB147_154.out _; (with_reducible repeat (first | refine blk_drewN ?_ _ | refine blk_drew ?_ | refine blk_alloc ?_ _)); refine blk_far ?_ NB147_154.out _; (with_reducible repeat (first | refine blk_drewN ?_ _ | refine blk_drew ?_ | refine blk_alloc ?_ _)); refine blk_far ?_ NB147_154.out _; (with_reducible repeat (first | refine blk_drewN ?_ _ | refine blk_drew ?_ | refine blk_alloc ?_ _)); exact BK147.out))⟩; have n1_ : Aside0 (w29.heap[gb148]? = some (.cells #[.int .u64 x149000_1, .int .u64 x149001_1, .bool x149002_1, .int .i64 x149003_1, .int .u64 x149004_1, .int .u64 x149005_1, .bool x149006_1, .int .i64 x149007_1] 27 (0, 0))) := ⟨(by rw [hw]; exact (by (with_reducible repeat (first | refine blk_drewN ?_ _ | refine blk_drew ?_ | refine blk_alloc ?_ _)); refine blk_far ?_ NB148_154.out _; (with_reducible repeat (first | refine blk_drewN ?_ _ | refine blk_drew ?_ | refine blk_alloc ?_ _)); refine blk_far ?_ NB148_154.out _; (with_reducible repeat (first | refine blk_drewN ?_ _ | refine blk_drew ?_ | refine blk_alloc ?_ _)); refine blk_far ?_ NB148_154.out _; (with_reducible repeat (first | refine blk_drewN ?_ _ | refine blk_drew ?_ | refine blk_alloc ?_ _)); refine blk_far ?_ NB148_154.out _; (with_reducible repeat (first | refine blk_drewN ?_ _ | refine blk_drew ?_ | refine blk_alloc ?_ _)); exact BK148.out))⟩; have n2_ : Aside0 (w29.heap[gb154]? = some (.cells #[.int .u64 t149, .int .u64 t150, .bool t151, .int .i64 t152] 26 (0, 0))) := ⟨(by rw [hw]; exact (by (with_reducible repeat (first | refine blk_drewN ?_ _ | refine blk_drew ?_ | refine blk_alloc ?_ _)); refine blk_put (cs := #[.int .u64 t149, .int .u64 t150, .bool t151, .int .i64 0]) ?_ 3 _ rfl; (with_reducible repeat (first | refine blk_drewN ?_ _ | refine blk_drew ?_ | refine blk_alloc ?_ _)); refine blk_put (cs := #[.int .u64 t149, .int .u64 t150, .bool false, .int .i64 0]) ?_ 2 _ rfl; (with_reducible repeat (first | refine blk_drewN ?_ _ | refine blk_drew ?_ | refine blk_alloc ?_ _)); refine blk_put (cs := #[.int .u64 t149, .int .u64 0, .bool false, .int .i64 0]) ?_ 1 _ rfl; (with_reducible repeat (first | refine blk_drewN ?_ _ | refine blk_drew ?_ | refine blk_alloc ?_ _)); refine blk_put (cs := #[.int .u64 0, .int .u64 0, .bool false, .int .i64 0]) ?_ 0 _ rfl; (with_reducible repeat (first | refine blk_drewN ?_ _ | refine blk_drew ?_ | refine blk_alloc ?_ _)); exact BK154.out))⟩; have n3_ : Aside0 (Below w.heap.size w w29) := ⟨(by rw [hw]; exact (by repeat (first | (with_reducible first | exact HB.out | apply below_alloc | apply pw_below_drewN | apply below_drew1 | refine below_set ?_ GE147.out | refine below_set ?_ GE148.out | refine below_set ?_ GE154.out) | exact HB.out)))⟩; clear hw; clear BK147; clear BK148; clear BK154; clear HB; have BK147 := n0_; have BK148 := n1_; have BK154 := n2_; have HB := n3_; clear n0_ n1_ n2_ n3_; have hcz30_0 : w29.cell? ⟨gb147, 0, none⟩ = some (.int .u64 a0_0) := (blk_cell BK147.out 0).trans rfl; have hcz30_1 : w29.cell? ⟨gb147, 1, none⟩ = some (.int .u64 a0_1) := (blk_cell BK147.out 1).trans rfl; have hfz30_0 := blk_frozen BK147.out 0; have hfz30_1 := blk_frozen BK147.out 1) | (go_at_call 8; (with_reducible refine (beaconlaw12_awake.calls k1  t155 _ A21.out).mono ?_); rintro e w31 ⟨rfl, hb⟩; have n0_ := Aside0.mk (blk_below (g := gb147) (o := .cells #[.int .u64 a0_0, .int .u64 a0_1] 23 (0, 0)) (by (with_reducible repeat (first | refine blk_drewN ?_ _ | refine blk_drew ?_ | refine blk_alloc ?_ _)); exact BK147.out) hb); have n1_ := Aside0.mk (blk_below (g := gb148) (o := .cells #[.int .u64 x149000_1, .int .u64 x149001_1, .bool x149002_1, .int .i64 x149003_1, .int .u64 x149004_1, .int .u64 x149005_1, .bool x149006_1, .int .i64 x149007_1] 27 (0, 0)) (by (with_reducible repeat (first | refine blk_drewN ?_ _ | refine blk_drew ?_ | refine blk_alloc ?_ _)); exact BK148.out) hb); have n2_ := Aside0.mk (blk_below (g := gb154) (o := .cells #[.int .u64 t149, .int .u64 t150, .bool t151, .int .i64 t152] 26 (0, 0)) (by (with_reducible repeat (first | refine blk_drewN ?_ _ | refine blk_drew ?_ | refine blk_alloc ?_ _)); exact BK154.out) hb); have n3_ := Aside0.mk (below_step (by repeat (first | (with_reducible first | exact HB.out | apply below_alloc | apply pw_below_drewN | apply below_drew1 | refine below_set ?_ GE147.out | refine below_set ?_ GE148.out | refine below_set ?_ GE154.out) | exact HB.out)) hb); clear BK147; clear BK148; clear BK154; clear HB; have BK147 := n0_; have BK148 := n1_; have BK154 := n2_; have HB := n3_; clear n0_ n1_ n2_ n3_; (try clear hb); (try clear hb2); (try clear hk); (try clear hi)))
              go_ret
              exact ⟨by first | rfl | (simp [errW_none, errW_some] <;> rfl) | (simp [*, errW_none, errW_some] <;> rfl), by repeat (first | (with_reducible first | exact HB.out | apply below_alloc | apply pw_below_drewN | apply below_drew1 | refine below_set ?_ GE147.out | refine below_set ?_ GE148.out | refine below_set ?_ GE154.out) | exact HB.out)⟩
            · rw [if_neg c20] at H
              have c20b0 : (a0_0 == 0) = false := beq_eq_false_iff_ne.mpr c20
              have c20b1 : (a0_0 != 0) = true := bne_iff_ne.mpr c20
              obtain rfl := Option.some.inj H
              have hnb32 := NB147_148.out
              have hnc32 := NB148_147.out
              have hcz33_0 : wr.cell? ⟨gb147, 0, none⟩ = some (.int .u64 a0_0) := (blk_cell BK147.out 0).trans rfl
              have hcz33_1 : wr.cell? ⟨gb147, 1, none⟩ = some (.int .u64 a0_1) := (blk_cell BK147.out 1).trans rfl
              have hfz33_0 := blk_frozen BK147.out 0
              have hfz33_1 := blk_frozen BK147.out 1
              go_wp2_with (first | ((with_reducible refine gate_callee (f := 7) rfl ?_); refine goesL_ (some 25) rfl rfl Try.func7 (by kernel_rfl) rfl #[.int .u64 a0_0] rfl (by (try simp only [List.map_toArray, List.map_cons, List.map_nil]); first | done | rfl | (simp only [List.length_drop, List.length_take]; rfl)) ?_; (with_reducible refine (session_New.calls a0_0 t149 t150 t151 t152 t153 _ A7.out).mono ?_); rintro e w34 ⟨rfl, hb⟩; refine ⟨_, rfl, ?_⟩; have n0_ := Aside0.mk (blk_below (g := gb147) (o := .cells #[.int .u64 a0_0, .int .u64 a0_1] 23 (0, 0)) (by (with_reducible repeat (first | refine blk_drewN ?_ _ | refine blk_drew ?_ | refine blk_alloc ?_ _)); exact BK147.out) hb); have n1_ := Aside0.mk (blk_below (g := gb148) (o := .cells #[.int .u64 x149000_1, .int .u64 x149001_1, .bool x149002_1, .int .i64 x149003_1, .int .u64 x149004_1, .int .u64 x149005_1, .bool x149006_1, .int .i64 x149007_1] 27 (0, 0)) (by (with_reducible repeat (first | refine blk_drewN ?_ _ | refine blk_drew ?_ | refine blk_alloc ?_ _)); exact BK148.out) hb); have n2_ := Aside0.mk (below_step (by repeat (first | (with_reducible first | exact HB.out | apply below_alloc | apply pw_below_drewN | apply below_drew1 | refine below_set ?_ GE147.out | refine below_set ?_ GE148.out) | exact HB.out)) hb); clear BK147; clear BK148; clear HB; have BK147 := n0_; have BK148 := n1_; have HB := n2_; clear n0_ n1_ n2_; (try clear hb); (try clear hb2); (try clear hk); (try clear hi)) | ((with_reducible refine gate_dst (N := 7) rfl ?_); refine box_event ?hg (N := 7) ?hd (cs := #[.int .u64 0, .int .u64 0, .bool false, .int .i64 0]) (t := 26) ?hr ?_; (case hd => rfl); (case hg => rfl); (case hr => first | (go_simp; done) | (go_simp; rfl)); intro gb154 hg w35 hbox hb; have n0_ := Aside0.mk (blk_below (g := gb147) (o := .cells #[.int .u64 a0_0, .int .u64 a0_1] 23 (0, 0)) (by (with_reducible repeat (first | refine blk_drewN ?_ _ | refine blk_drew ?_ | refine blk_alloc ?_ _)); exact BK147.out) hb); have n1_ := Aside0.mk (blk_below (g := gb148) (o := .cells #[.int .u64 x149000_1, .int .u64 x149001_1, .bool x149002_1, .int .i64 x149003_1, .int .u64 x149004_1, .int .u64 x149005_1, .bool x149006_1, .int .i64 x149007_1] 27 (0, 0)) (by (with_reducible repeat (first | refine blk_drewN ?_ _ | refine blk_drew ?_ | refine blk_alloc ?_ _)); exact BK148.out) hb); have n2_ := Aside0.mk (below_step (by repeat (first | (with_reducible first | exact HB.out | apply below_alloc | apply pw_below_drewN | apply below_drew1 | refine below_set ?_ GE147.out | refine below_set ?_ GE148.out) | exact HB.out)) hb); have n3_ := Aside0.mk (hbox); have n4_ := Aside0.mk ((by rw [hg]; exact (below_size (by repeat (first | (with_reducible first | exact HB.out | apply below_alloc | apply pw_below_drewN | apply below_drew1 | refine below_set ?_ GE147.out | refine below_set ?_ GE148.out) | exact HB.out))) : w.heap.size ≤ gb154)); have n5_ := Aside0.mk ((by rw [hg]; exact (below_size (by repeat (first | (with_reducible first | exact HB.out | apply below_alloc | apply pw_below_drewN | apply below_drew1 | refine below_set ?_ GE147.out | refine below_set ?_ GE148.out) | exact HB.out))) : w.heap.size ≤ gb154)); have n6_ := Aside0.mk ((by rw [hg]; exact Nat.ne_of_lt (blk_lt (g := gb147) (o := .cells #[.int .u64 a0_0, .int .u64 a0_1] 23 (0, 0)) (by (with_reducible repeat (first | refine blk_drewN ?_ _ | refine blk_drew ?_ | refine blk_alloc ?_ _)); exact BK147.out)) : gb147 ≠ gb154)); have n7_ := Aside0.mk ((by rw [hg]; exact Nat.ne_of_gt (blk_lt (g := gb147) (o := .cells #[.int .u64 a0_0, .int .u64 a0_1] 23 (0, 0)) (by (with_reducible repeat (first | refine blk_drewN ?_ _ | refine blk_drew ?_ | refine blk_alloc ?_ _)); exact BK147.out)) : gb154 ≠ gb147)); have n8_ := Aside0.mk ((by rw [hg]; exact Nat.ne_of_lt (blk_lt (g := gb148) (o := .cells #[.int .u64 x149000_1, .int .u64 x149001_1, .bool x149002_1, .int .i64 x149003_1, .int .u64 x149004_1, .int .u64 x149005_1, .bool x149006_1, .int .i64 x149007_1] 27 (0, 0)) (by (with_reducible repeat (first | refine blk_drewN ?_ _ | refine blk_drew ?_ | refine blk_alloc ?_ _)); exact BK148.out)) : gb148 ≠ gb154)); have n9_ := Aside0.mk ((by rw [hg]; exact Nat.ne_of_gt (blk_lt (g := gb148) (o := .cells #[.int .u64 x149000_1, .int .u64 x149001_1, .bool x149002_1, .int .i64 x149003_1, .int .u64 x149004_1, .int .u64 x149005_1, .bool x149006_1, .int .i64 x149007_1] 27 (0, 0)) (by (with_reducible repeat (first | refine blk_drewN ?_ _ | refine blk_drew ?_ | refine blk_alloc ?_ _)); exact BK148.out)) : gb154 ≠ gb148)); clear BK147; clear BK148; clear HB; have BK147 := n0_; have BK148 := n1_; have HB := n2_; have BK154 := n3_; have GW154 := n4_; have GE154 := n5_; have NB147_154 := n6_; have NB154_147 := n7_; have NB148_154 := n8_; have NB154_148 := n9_; clear n0_ n1_ n2_ n3_ n4_ n5_ n6_ n7_ n8_ n9_; clear hb hbox hg; have hnb36 := NB154_147.out; have hnc36 := NB147_154.out; have hnb37 := NB154_148.out; have hnc37 := NB148_154.out; have hcz38_0 : w35.cell? ⟨gb154, 0, none⟩ = some (.int .u64 0) := (blk_cell BK154.out 0).trans rfl; have hcz38_1 : w35.cell? ⟨gb154, 1, none⟩ = some (.int .u64 0) := (blk_cell BK154.out 1).trans rfl; have hcz38_2 : w35.cell? ⟨gb154, 2, none⟩ = some (.bool false) := (blk_cell BK154.out 2).trans rfl; have hcz38_3 : w35.cell? ⟨gb154, 3, none⟩ = some (.int .i64 0) := (blk_cell BK154.out 3).trans rfl; have hfz38_0 := blk_frozen BK154.out 0; have hfz38_1 := blk_frozen BK154.out 1; have hfz38_2 := blk_frozen BK154.out 2; have hfz38_3 := blk_frozen BK154.out 3) | ((with_reducible refine gate_store (t := 26) (p := 7) rfl ?_); refine store_event (t := 26) (p := 7) (v := ?vo_w39) (w1 := ((((w35.setCell ⟨gb154, 0, none⟩ (.int .u64 t149)).setCell ⟨gb154, 1, none⟩ (.int .u64 t150)).setCell ⟨gb154, 2, none⟩ (.bool t151)).setCell ⟨gb154, 3, none⟩ (.int .i64 t152))) ?hg ?ho ?hn ?hr ?_; (case ho => rfl); (case hg => rfl); (case hn => rfl); (case hr => first | (go_simp; done) | (go_simp; rfl)); intro w39 hw; have n0_ : Aside0 (w39.heap[gb147]? = some (.cells #[.int .u64 a0_0, .int .u64 a0_1] 23 (0, 0))) := ⟨(by rw [hw]; exact (by (with_reducible repeat (first | refine blk_drewN ?_ _ | refine blk_drew ?_ | refine blk_alloc ?_ _)); refine blk_far ?_ NB147_154.out _; (with_reducible repeat (first | refine blk_drewN ?_ _ | refine blk_drew ?_ | refine blk_alloc ?_ _)); refine blk_far ?_ NB147_154.out _; (with_reducible repeat (first | refine blk_drewN ?_ _ | refine blk_drew ?_ | refine blk_alloc ?_ _)); refine blk_far ?_ NB147_154.out _; (with_reducible repeat (first | refine blk_drewN ?_ _ | refine blk_drew ?_ | refine blk_alloc ?_ _)); refine blk_far ?_ NB147_154.out _; (with_reducible repeat (first | refine blk_drewN ?_ _ | refine blk_drew ?_ | refine blk_alloc ?_ _)); exact BK147.out))⟩; have n1_ : Aside0 (w39.heap[gb148]? = some (.cells #[.int .u64 x149000_1, .int .u64 x149001_1, .bool x149002_1, .int .i64 x149003_1, .int .u64 x149004_1, .int .u64 x149005_1, .bool x149006_1, .int .i64 x149007_1] 27 (0, 0))) := ⟨(by rw [hw]; exact (by (with_reducible repeat (first | refine blk_drewN ?_ _ | refine blk_drew ?_ | refine blk_alloc ?_ _)); refine blk_far ?_ NB148_154.out _; (with_reducible repeat (first | refine blk_drewN ?_ _ | refine blk_drew ?_ | refine blk_alloc ?_ _)); refine blk_far ?_ NB148_154.out _; (with_reducible repeat (first | refine blk_drewN ?_ _ | refine blk_drew ?_ | refine blk_alloc ?_ _)); refine blk_far ?_ NB148_154.out _; (with_reducible repeat (first | refine blk_drewN ?_ _ | refine blk_drew ?_ | refine blk_alloc ?_ _)); refine blk_far ?_ NB148_154.out _; (with_reducible repeat (first | refine blk_drewN ?_ _ | refine blk_drew ?_ | refine blk_alloc ?_ _)); exact BK148.out))⟩; have n2_ : Aside0 (w39.heap[gb154]? = some (.cells #[.int .u64 t149, .int .u64 t150, .bool t151, .int .i64 t152] 26 (0, 0))) := ⟨(by rw [hw]; exact (by (with_reducible repeat (first | refine blk_drewN ?_ _ | refine blk_drew ?_ | refine blk_alloc ?_ _)); refine blk_put (cs := #[.int .u64 t149, .int .u64 t150, .bool t151, .int .i64 0]) ?_ 3 _ rfl; (with_reducible repeat (first | refine blk_drewN ?_ _ | refine blk_drew ?_ | refine blk_alloc ?_ _)); refine blk_put (cs := #[.int .u64 t149, .int .u64 t150, .bool false, .int .i64 0]) ?_ 2 _ rfl; (with_reducible repeat (first | refine blk_drewN ?_ _ | refine blk_drew ?_ | refine blk_alloc ?_ _)); refine blk_put (cs := #[.int .u64 t149, .int .u64 0, .bool false, .int .i64 0]) ?_ 1 _ rfl; (with_reducible repeat (first | refine blk_drewN ?_ _ | refine blk_drew ?_ | refine blk_alloc ?_ _)); refine blk_put (cs := #[.int .u64 0, .int .u64 0, .bool false, .int .i64 0]) ?_ 0 _ rfl; (with_reducible repeat (first | refine blk_drewN ?_ _ | refine blk_drew ?_ | refine blk_alloc ?_ _)); exact BK154.out))⟩; have n3_ : Aside0 (Below w.heap.size w w39) := ⟨(by rw [hw]; exact (by repeat (first | (with_reducible first | exact HB.out | apply below_alloc | apply pw_below_drewN | apply below_drew1 | refine below_set ?_ GE147.out | refine below_set ?_ GE148.out | refine below_set ?_ GE154.out) | exact HB.out)))⟩; clear hw; clear BK147; clear BK148; clear BK154; clear HB; have BK147 := n0_; have BK148 := n1_; have BK154 := n2_; have HB := n3_; clear n0_ n1_ n2_ n3_; have hcz40_0 : w39.cell? ⟨gb147, 0, none⟩ = some (.int .u64 a0_0) := (blk_cell BK147.out 0).trans rfl; have hcz40_1 : w39.cell? ⟨gb147, 1, none⟩ = some (.int .u64 a0_1) := (blk_cell BK147.out 1).trans rfl; have hfz40_0 := blk_frozen BK147.out 0; have hfz40_1 := blk_frozen BK147.out 1))
              go_ret
              exact ⟨by first | rfl | (simp [errW_none, errW_some] <;> rfl) | (simp [*, errW_none, errW_some] <;> rfl), by repeat (first | (with_reducible first | exact HB.out | apply below_alloc | apply pw_below_drewN | apply below_drew1 | refine below_set ?_ GE147.out | refine below_set ?_ GE148.out | refine below_set ?_ GE154.out) | exact HB.out)⟩
        · rw [if_neg c6] at H
          have c6b0 : (x6_1 == 0) = false := beq_eq_false_iff_ne.mpr c6
          have c6b1 : (x6_1 != 0) = true := bne_iff_ne.mpr c6
          by_cases c41 : x6_1 = 1
          · rw [if_pos c41] at H
            have c41b0 : (x6_1 == 1) = true := beq_iff_eq.mpr c41
            have c41b1 : (x6_1 != 1) = false := bne_eq_false_iff_eq.mpr c41
            replace H := Option.bind_eq_some_iff.mp H
            obtain ⟨⟨t156, t157, t158, t159, t160⟩, A420, H⟩ := H
            replace H : (if t160 = 0 then (beaconlaw12_SessionMeets.l0 k1 l1 2 a0_0 a0_1 x149000_1 x149001_1 x149002_1 x149003_1 t156 t157 t158 t159) else (if a0_1 = 0 then ((beaconlaw12_awake.f k1).bind fun t162 => (some t162)) else (some false))) = some r := H
            have A42 := Aside0.mk A420
            clear A420
            by_cases c43 : t160 = 0
            · rw [if_pos c43] at H
              have c43b0 : (t160 == 0) = true := beq_iff_eq.mpr c43
              have c43b1 : (t160 != 0) = false := bne_eq_false_iff_eq.mpr c43
              clear c43
              have H' := Aside0.mk H
              clear H
              have hnb44 := NB147_148.out
              have hnc44 := NB148_147.out
              have hcz45_0 : wr.cell? ⟨gb147, 0, none⟩ = some (.int .u64 a0_0) := (blk_cell BK147.out 0).trans rfl
              have hcz45_1 : wr.cell? ⟨gb147, 1, none⟩ = some (.int .u64 a0_1) := (blk_cell BK147.out 1).trans rfl
              have hfz45_0 := blk_frozen BK147.out 0
              have hfz45_1 := blk_frozen BK147.out 1
              go_wp2_with (first | ((with_reducible refine gate_callee (f := 7) rfl ?_); refine goesL_ (some 25) rfl rfl Try.func7 (by kernel_rfl) rfl #[.int .u64 a0_1] rfl (by (try simp only [List.map_toArray, List.map_cons, List.map_nil]); first | done | rfl | (simp only [List.length_drop, List.length_take]; rfl)) ?_; (with_reducible refine (session_New.calls a0_1 t156 t157 t158 t159 t160 _ A42.out).mono ?_); rintro e w46 ⟨rfl, hb⟩; refine ⟨_, rfl, ?_⟩; have n0_ := Aside0.mk (blk_below (g := gb147) (o := .cells #[.int .u64 a0_0, .int .u64 a0_1] 23 (0, 0)) (by (with_reducible repeat (first | refine blk_drewN ?_ _ | refine blk_drew ?_ | refine blk_alloc ?_ _)); exact BK147.out) hb); have n1_ := Aside0.mk (blk_below (g := gb148) (o := .cells #[.int .u64 x149000_1, .int .u64 x149001_1, .bool x149002_1, .int .i64 x149003_1, .int .u64 x149004_1, .int .u64 x149005_1, .bool x149006_1, .int .i64 x149007_1] 27 (0, 0)) (by (with_reducible repeat (first | refine blk_drewN ?_ _ | refine blk_drew ?_ | refine blk_alloc ?_ _)); exact BK148.out) hb); have n2_ := Aside0.mk (below_step (by repeat (first | (with_reducible first | exact HB.out | apply below_alloc | apply pw_below_drewN | apply below_drew1 | refine below_set ?_ GE147.out | refine below_set ?_ GE148.out) | exact HB.out)) hb); clear BK147; clear BK148; clear HB; have BK147 := n0_; have BK148 := n1_; have HB := n2_; clear n0_ n1_ n2_; (try clear hb); (try clear hb2); (try clear hk); (try clear hi)) | ((with_reducible refine gate_dst (N := 7) rfl ?_); refine box_event ?hg (N := 7) ?hd (cs := #[.int .u64 0, .int .u64 0, .bool false, .int .i64 0]) (t := 26) ?hr ?_; (case hd => rfl); (case hg => rfl); (case hr => first | (go_simp; done) | (go_simp; rfl)); intro gb161 hg w47 hbox hb; have n0_ := Aside0.mk (blk_below (g := gb147) (o := .cells #[.int .u64 a0_0, .int .u64 a0_1] 23 (0, 0)) (by (with_reducible repeat (first | refine blk_drewN ?_ _ | refine blk_drew ?_ | refine blk_alloc ?_ _)); exact BK147.out) hb); have n1_ := Aside0.mk (blk_below (g := gb148) (o := .cells #[.int .u64 x149000_1, .int .u64 x149001_1, .bool x149002_1, .int .i64 x149003_1, .int .u64 x149004_1, .int .u64 x149005_1, .bool x149006_1, .int .i64 x149007_1] 27 (0, 0)) (by (with_reducible repeat (first | refine blk_drewN ?_ _ | refine blk_drew ?_ | refine blk_alloc ?_ _)); exact BK148.out) hb); have n2_ := Aside0.mk (below_step (by repeat (first | (with_reducible first | exact HB.out | apply below_alloc | apply pw_below_drewN | apply below_drew1 | refine below_set ?_ GE147.out | refine below_set ?_ GE148.out) | exact HB.out)) hb); have n3_ := Aside0.mk (hbox); have n4_ := Aside0.mk ((by rw [hg]; exact (below_size (by repeat (first | (with_reducible first | exact HB.out | apply below_alloc | apply pw_below_drewN | apply below_drew1 | refine below_set ?_ GE147.out | refine below_set ?_ GE148.out) | exact HB.out))) : w.heap.size ≤ gb161)); have n5_ := Aside0.mk ((by rw [hg]; exact (below_size (by repeat (first | (with_reducible first | exact HB.out | apply below_alloc | apply pw_below_drewN | apply below_drew1 | refine below_set ?_ GE147.out | refine below_set ?_ GE148.out) | exact HB.out))) : w.heap.size ≤ gb161)); have n6_ := Aside0.mk ((by rw [hg]; exact Nat.ne_of_lt (blk_lt (g := gb147) (o := .cells #[.int .u64 a0_0, .int .u64 a0_1] 23 (0, 0)) (by (with_reducible repeat (first | refine blk_drewN ?_ _ | refine blk_drew ?_ | refine blk_alloc ?_ _)); exact BK147.out)) : gb147 ≠ gb161)); have n7_ := Aside0.mk ((by rw [hg]; exact Nat.ne_of_gt (blk_lt (g := gb147) (o := .cells #[.int .u64 a0_0, .int .u64 a0_1] 23 (0, 0)) (by (with_reducible repeat (first | refine blk_drewN ?_ _ | refine blk_drew ?_ | refine blk_alloc ?_ _)); exact BK147.out)) : gb161 ≠ gb147)); have n8_ := Aside0.mk ((by rw [hg]; exact Nat.ne_of_lt (blk_lt (g := gb148) (o := .cells #[.int .u64 x149000_1, .int .u64 x149001_1, .bool x149002_1, .int .i64 x149003_1, .int .u64 x149004_1, .int .u64 x149005_1, .bool x149006_1, .int .i64 x149007_1] 27 (0, 0)) (by (with_reducible repeat (first | refine blk_drewN ?_ _ | refine blk_drew ?_ | refine blk_alloc ?_ _)); exact BK148.out)) : gb148 ≠ gb161)); have n9_ := Aside0.mk ((by rw [hg]; exact Nat.ne_of_gt (blk_lt (g := gb148) (o := .cells #[.int .u64 x149000_1, .int .u64 x149001_1, .bool x149002_1, .int .i64 x149003_1, .int .u64 x149004_1, .int .u64 x149005_1, .bool x149006_1, .int .i64 x149007_1] 27 (0, 0)) (by (with_reducible repeat (first | refine blk_drewN ?_ _ | refine blk_drew ?_ | refine blk_alloc ?_ _)); exact BK148.out)) : gb161 ≠ gb148)); clear BK147; clear BK148; clear HB; have BK147 := n0_; have BK148 := n1_; have HB := n2_; have BK161 := n3_; have GW161 := n4_; have GE161 := n5_; have NB147_161 := n6_; have NB161_147 := n7_; have NB148_161 := n8_; have NB161_148 := n9_; clear n0_ n1_ n2_ n3_ n4_ n5_ n6_ n7_ n8_ n9_; clear hb hbox hg; have hnb48 := NB161_147.out; have hnc48 := NB147_161.out; have hnb49 := NB161_148.out; have hnc49 := NB148_161.out; have hcz50_0 : w47.cell? ⟨gb161, 0, none⟩ = some (.int .u64 0) := (blk_cell BK161.out 0).trans rfl; have hcz50_1 : w47.cell? ⟨gb161, 1, none⟩ = some (.int .u64 0) := (blk_cell BK161.out 1).trans rfl; have hcz50_2 : w47.cell? ⟨gb161, 2, none⟩ = some (.bool false) := (blk_cell BK161.out 2).trans rfl; have hcz50_3 : w47.cell? ⟨gb161, 3, none⟩ = some (.int .i64 0) := (blk_cell BK161.out 3).trans rfl; have hfz50_0 := blk_frozen BK161.out 0; have hfz50_1 := blk_frozen BK161.out 1; have hfz50_2 := blk_frozen BK161.out 2; have hfz50_3 := blk_frozen BK161.out 3) | ((with_reducible refine gate_store (t := 26) (p := 7) rfl ?_); refine store_event (t := 26) (p := 7) (v := ?vo_w51) (w1 := ((((w47.setCell ⟨gb161, 0, none⟩ (.int .u64 t156)).setCell ⟨gb161, 1, none⟩ (.int .u64 t157)).setCell ⟨gb161, 2, none⟩ (.bool t158)).setCell ⟨gb161, 3, none⟩ (.int .i64 t159))) ?hg ?ho ?hn ?hr ?_; (case ho => rfl); (case hg => rfl); (case hn => rfl); (case hr => first | (go_simp; done) | (go_simp; rfl)); intro w51 hw; have n0_ : Aside0 (w51.heap[gb147]? = some (.cells #[.int .u64 a0_0, .int .u64 a0_1] 23 (0, 0))) := ⟨(by rw [hw]; exact (by (with_reducible repeat (first | refine blk_drewN ?_ _ | refine blk_drew ?_ | refine blk_alloc ?_ _)); refine blk_far ?_ NB147_161.out _; (with_reducible repeat (first | refine blk_drewN ?_ _ | refine blk_drew ?_ | refine blk_alloc ?_ _)); refine blk_far ?_ NB147_161.out _; (with_reducible repeat (first | refine blk_drewN ?_ _ | refine blk_drew ?_ | refine blk_alloc ?_ _)); refine blk_far ?_ NB147_161.out _; (with_reducible repeat (first | refine blk_drewN ?_ _ | refine blk_drew ?_ | refine blk_alloc ?_ _)); refine blk_far ?_ NB147_161.out _; (with_reducible repeat (first | refine blk_drewN ?_ _ | refine blk_drew ?_ | refine blk_alloc ?_ _)); exact BK147.out))⟩; have n1_ : Aside0 (w51.heap[gb148]? = some (.cells #[.int .u64 x149000_1, .int .u64 x149001_1, .bool x149002_1, .int .i64 x149003_1, .int .u64 x149004_1, .int .u64 x149005_1, .bool x149006_1, .int .i64 x149007_1] 27 (0, 0))) := ⟨(by rw [hw]; exact (by (with_reducible repeat (first | refine blk_drewN ?_ _ | refine blk_drew ?_ | refine blk_alloc ?_ _)); refine blk_far ?_ NB148_161.out _; (with_reducible repeat (first | refine blk_drewN ?_ _ | refine blk_drew ?_ | refine blk_alloc ?_ _)); refine blk_far ?_ NB148_161.out _; (with_reducible repeat (first | refine blk_drewN ?_ _ | refine blk_drew ?_ | refine blk_alloc ?_ _)); refine blk_far ?_ NB148_161.out _; (with_reducible repeat (first | refine blk_drewN ?_ _ | refine blk_drew ?_ | refine blk_alloc ?_ _)); refine blk_far ?_ NB148_161.out _; (with_reducible repeat (first | refine blk_drewN ?_ _ | refine blk_drew ?_ | refine blk_alloc ?_ _)); exact BK148.out))⟩; have n2_ : Aside0 (w51.heap[gb161]? = some (.cells #[.int .u64 t156, .int .u64 t157, .bool t158, .int .i64 t159] 26 (0, 0))) := ⟨(by rw [hw]; exact (by (with_reducible repeat (first | refine blk_drewN ?_ _ | refine blk_drew ?_ | refine blk_alloc ?_ _)); refine blk_put (cs := #[.int .u64 t156, .int .u64 t157, .bool t158, .int .i64 0]) ?_ 3 _ rfl; (with_reducible repeat (first | refine blk_drewN ?_ _ | refine blk_drew ?_ | refine blk_alloc ?_ _)); refine blk_put (cs := #[.int .u64 t156, .int .u64 t157, .bool false, .int .i64 0]) ?_ 2 _ rfl; (with_reducible repeat (first | refine blk_drewN ?_ _ | refine blk_drew ?_ | refine blk_alloc ?_ _)); refine blk_put (cs := #[.int .u64 t156, .int .u64 0, .bool false, .int .i64 0]) ?_ 1 _ rfl; (with_reducible repeat (first | refine blk_drewN ?_ _ | refine blk_drew ?_ | refine blk_alloc ?_ _)); refine blk_put (cs := #[.int .u64 0, .int .u64 0, .bool false, .int .i64 0]) ?_ 0 _ rfl; (with_reducible repeat (first | refine blk_drewN ?_ _ | refine blk_drew ?_ | refine blk_alloc ?_ _)); exact BK161.out))⟩; have n3_ : Aside0 (Below w.heap.size w w51) := ⟨(by rw [hw]; exact (by repeat (first | (with_reducible first | exact HB.out | apply below_alloc | apply pw_below_drewN | apply below_drew1 | refine below_set ?_ GE147.out | refine below_set ?_ GE148.out | refine below_set ?_ GE161.out) | exact HB.out)))⟩; clear hw; clear BK147; clear BK148; clear BK161; clear HB; have BK147 := n0_; have BK148 := n1_; have BK161 := n2_; have HB := n3_; clear n0_ n1_ n2_ n3_; have hcz52_0 : w51.cell? ⟨gb161, 0, none⟩ = some (.int .u64 t156) := (blk_cell BK161.out 0).trans rfl; have hcz52_1 : w51.cell? ⟨gb161, 1, none⟩ = some (.int .u64 t157) := (blk_cell BK161.out 1).trans rfl; have hcz52_2 : w51.cell? ⟨gb161, 2, none⟩ = some (.bool t158) := (blk_cell BK161.out 2).trans rfl; have hcz52_3 : w51.cell? ⟨gb161, 3, none⟩ = some (.int .i64 t159) := (blk_cell BK161.out 3).trans rfl; have hfz52_0 := blk_frozen BK161.out 0; have hfz52_1 := blk_frozen BK161.out 1; have hfz52_2 := blk_frozen BK161.out 2; have hfz52_3 := blk_frozen BK161.out 3; have hcz53_0 : w51.cell? ⟨gb148, 0, none⟩ = some (.int .u64 x149000_1) := (blk_cell BK148.out 0).trans rfl; have hcz53_1 : w51.cell? ⟨gb148, 1, none⟩ = some (.int .u64 x149001_1) := (blk_cell BK148.out 1).trans rfl; have hcz53_2 : w51.cell? ⟨gb148, 2, none⟩ = some (.bool x149002_1) := (blk_cell BK148.out 2).trans rfl; have hcz53_3 : w51.cell? ⟨gb148, 3, none⟩ = some (.int .i64 x149003_1) := (blk_cell BK148.out 3).trans rfl; have hcz53_4 : w51.cell? ⟨gb148, 4, none⟩ = some (.int .u64 x149004_1) := (blk_cell BK148.out 4).trans rfl; have hcz53_5 : w51.cell? ⟨gb148, 5, none⟩ = some (.int .u64 x149005_1) := (blk_cell BK148.out 5).trans rfl; have hcz53_6 : w51.cell? ⟨gb148, 6, none⟩ = some (.bool x149006_1) := (blk_cell BK148.out 6).trans rfl; have hcz53_7 : w51.cell? ⟨gb148, 7, none⟩ = some (.int .i64 x149007_1) := (blk_cell BK148.out 7).trans rfl; have hfz53_0 := blk_frozen BK148.out 0; have hfz53_1 := blk_frozen BK148.out 1; have hfz53_2 := blk_frozen BK148.out 2; have hfz53_3 := blk_frozen BK148.out 3; have hfz53_4 := blk_frozen BK148.out 4; have hfz53_5 := blk_frozen BK148.out 5; have hfz53_6 := blk_frozen BK148.out 6; have hfz53_7 := blk_frozen BK148.out 7) | ((with_reducible refine gate_store (t := 26) (p := 39) rfl ?_); refine store_event (t := 26) (p := 39) (v := ?vo_w54) (w1 := ((((w51.setCell ⟨gb148, 4, none⟩ (.int .u64 t156)).setCell ⟨gb148, 5, none⟩ (.int .u64 t157)).setCell ⟨gb148, 6, none⟩ (.bool t158)).setCell ⟨gb148, 7, none⟩ (.int .i64 t159))) ?hg ?ho ?hn ?hr ?_; (case ho => rfl); (case hg => rfl); (case hn => rfl); (case hr => first | (go_simp; done) | (go_simp; rfl)); intro w54 hw; have n0_ : Aside0 (w54.heap[gb147]? = some (.cells #[.int .u64 a0_0, .int .u64 a0_1] 23 (0, 0))) := ⟨(by rw [hw]; exact (by (with_reducible repeat (first | refine blk_drewN ?_ _ | refine blk_drew ?_ | refine blk_alloc ?_ _)); refine blk_far ?_ NB147_148.out _; (with_reducible repeat (first | refine blk_drewN ?_ _ | refine blk_drew ?_ | refine blk_alloc ?_ _)); refine blk_far ?_ NB147_148.out _; (with_reducible repeat (first | refine blk_drewN ?_ _ | refine blk_drew ?_ | refine blk_alloc ?_ _)); refine blk_far ?_ NB147_148.out _; (with_reducible repeat (first | refine blk_drewN ?_ _ | refine blk_drew ?_ | refine blk_alloc ?_ _)); refine blk_far ?_ NB147_148.out _; (with_reducible repeat (first | refine blk_drewN ?_ _ | refine blk_drew ?_ | refine blk_alloc ?_ _)); exact BK147.out))⟩; have n1_ : Aside0 (w54.heap[gb148]? = some (.cells #[.int .u64 x149000_1, .int .u64 x149001_1, .bool x149002_1, .int .i64 x149003_1, .int .u64 t156, .int .u64 t157, .bool t158, .int .i64 t159] 27 (0, 0))) := ⟨(by rw [hw]; exact (by (with_reducible repeat (first | refine blk_drewN ?_ _ | refine blk_drew ?_ | refine blk_alloc ?_ _)); refine blk_put (cs := #[.int .u64 x149000_1, .int .u64 x149001_1, .bool x149002_1, .int .i64 x149003_1, .int .u64 t156, .int .u64 t157, .bool t158, .int .i64 x149007_1]) ?_ 7 _ rfl; (with_reducible repeat (first | refine blk_drewN ?_ _ | refine blk_drew ?_ | refine blk_alloc ?_ _)); refine blk_put (cs := #[.int .u64 x149000_1, .int .u64 x149001_1, .bool x149002_1, .int .i64 x149003_1, .int .u64 t156, .int .u64 t157, .bool x149006_1, .int .i64 x149007_1]) ?_ 6 _ rfl; (with_reducible repeat (first | refine blk_drewN ?_ _ | refine blk_drew ?_ | refine blk_alloc ?_ _)); refine blk_put (cs := #[.int .u64 x149000_1, .int .u64 x149001_1, .bool x149002_1, .int .i64 x149003_1, .int .u64 t156, .int .u64 x149005_1, .bool x149006_1, .int .i64 x149007_1]) ?_ 5 _ rfl; (with_reducible repeat (first | refine blk_drewN ?_ _ | refine blk_drew ?_ | refine blk_alloc ?_ _)); refine blk_put (cs := #[.int .u64 x149000_1, .int .u64 x149001_1, .bool x149002_1, .int .i64 x149003_1, .int .u64 x149004_1, .int .u64 x149005_1, .bool x149006_1, .int .i64 x149007_1]) ?_ 4 _ rfl; (with_reducible repeat (first | refine blk_drewN ?_ _ | refine blk_drew ?_ | refine blk_alloc ?_ _)); exact BK148.out))⟩; have n2_ : Aside0 (w54.heap[gb161]? = some (.cells #[.int .u64 t156, .int .u64 t157, .bool t158, .int .i64 t159] 26 (0, 0))) := ⟨(by rw [hw]; exact (by (with_reducible repeat (first | refine blk_drewN ?_ _ | refine blk_drew ?_ | refine blk_alloc ?_ _)); refine blk_far ?_ NB161_148.out _; (with_reducible repeat (first | refine blk_drewN ?_ _ | refine blk_drew ?_ | refine blk_alloc ?_ _)); refine blk_far ?_ NB161_148.out _; (with_reducible repeat (first | refine blk_drewN ?_ _ | refine blk_drew ?_ | refine blk_alloc ?_ _)); refine blk_far ?_ NB161_148.out _; (with_reducible repeat (first | refine blk_drewN ?_ _ | refine blk_drew ?_ | refine blk_alloc ?_ _)); refine blk_far ?_ NB161_148.out _; (with_reducible repeat (first | refine blk_drewN ?_ _ | refine blk_drew ?_ | refine blk_alloc ?_ _)); exact BK161.out))⟩; have n3_ : Aside0 (Below w.heap.size w w54) := ⟨(by rw [hw]; exact (by repeat (first | (with_reducible first | exact HB.out | apply below_alloc | apply pw_below_drewN | apply below_drew1 | refine below_set ?_ GE147.out | refine below_set ?_ GE148.out | refine below_set ?_ GE161.out) | exact HB.out)))⟩; clear hw; clear BK147; clear BK148; clear BK161; clear HB; have BK147 := n0_; have BK148 := n1_; have BK161 := n2_; have HB := n3_; clear n0_ n1_ n2_ n3_))
              go_roundg k1
              case measure => have := HK1.out; omega
              case rel => exact ⟨(2), (x149000_1), (x149001_1), (x149002_1), (x149003_1), (t156), (t157), (t158), (t159), (by first | rfl | (simp; done) | (simp [*]; done)), H', ⟨by have := HK1.out; omega⟩, ⟨by (with_reducible repeat (first | refine blk_drewN ?_ _ | refine blk_drew ?_ | refine blk_alloc ?_ _)); exact BK147.out⟩, ⟨by (with_reducible repeat (first | refine blk_drewN ?_ _ | refine blk_drew ?_ | refine blk_alloc ?_ _)); exact BK148.out⟩, ⟨by repeat (first | (with_reducible first | exact HB.out | apply below_alloc | apply pw_below_drewN | apply below_drew1 | refine below_set ?_ GE147.out | refine below_set ?_ GE148.out | refine below_set ?_ GE161.out) | exact HB.out)⟩⟩
            · rw [if_neg c43] at H
              have c43b0 : (t160 == 0) = false := beq_eq_false_iff_ne.mpr c43
              have c43b1 : (t160 != 0) = true := bne_iff_ne.mpr c43
              by_cases c55 : a0_1 = 0
              · rw [if_pos c55] at H
                have c55b0 : (a0_1 == 0) = true := beq_iff_eq.mpr c55
                have c55b1 : (a0_1 != 0) = false := bne_eq_false_iff_eq.mpr c55
                clear c55
                replace H := Option.bind_eq_some_iff.mp H
                obtain ⟨t162, A560, H⟩ := H
                replace H : (some t162) = some r := H
                have A56 := Aside0.mk A560
                clear A560
                obtain rfl := Option.some.inj H
                have hnb57 := NB147_148.out
                have hnc57 := NB148_147.out
                have hcz58_0 : wr.cell? ⟨gb147, 0, none⟩ = some (.int .u64 a0_0) := (blk_cell BK147.out 0).trans rfl
                have hcz58_1 : wr.cell? ⟨gb147, 1, none⟩ = some (.int .u64 a0_1) := (blk_cell BK147.out 1).trans rfl
                have hfz58_0 := blk_frozen BK147.out 0
                have hfz58_1 := blk_frozen BK147.out 1
                go_wp2_with (first | ((with_reducible refine gate_callee (f := 7) rfl ?_); refine goesL_ (some 25) rfl rfl Try.func7 (by kernel_rfl) rfl #[.int .u64 a0_1] rfl (by (try simp only [List.map_toArray, List.map_cons, List.map_nil]); first | done | rfl | (simp only [List.length_drop, List.length_take]; rfl)) ?_; (with_reducible refine (session_New.calls a0_1 t156 t157 t158 t159 t160 _ A42.out).mono ?_); rintro e w59 ⟨rfl, hb⟩; refine ⟨_, rfl, ?_⟩; have n0_ := Aside0.mk (blk_below (g := gb147) (o := .cells #[.int .u64 a0_0, .int .u64 a0_1] 23 (0, 0)) (by (with_reducible repeat (first | refine blk_drewN ?_ _ | refine blk_drew ?_ | refine blk_alloc ?_ _)); exact BK147.out) hb); have n1_ := Aside0.mk (blk_below (g := gb148) (o := .cells #[.int .u64 x149000_1, .int .u64 x149001_1, .bool x149002_1, .int .i64 x149003_1, .int .u64 x149004_1, .int .u64 x149005_1, .bool x149006_1, .int .i64 x149007_1] 27 (0, 0)) (by (with_reducible repeat (first | refine blk_drewN ?_ _ | refine blk_drew ?_ | refine blk_alloc ?_ _)); exact BK148.out) hb); have n2_ := Aside0.mk (below_step (by repeat (first | (with_reducible first | exact HB.out | apply below_alloc | apply pw_below_drewN | apply below_drew1 | refine below_set ?_ GE147.out | refine below_set ?_ GE148.out) | exact HB.out)) hb); clear BK147; clear BK148; clear HB; have BK147 := n0_; have BK148 := n1_; have HB := n2_; clear n0_ n1_ n2_; (try clear hb); (try clear hb2); (try clear hk); (try clear hi)) | ((with_reducible refine gate_dst (N := 7) rfl ?_); refine box_event ?hg (N := 7) ?hd (cs := #[.int .u64 0, .int .u64 0, .bool false, .int .i64 0]) (t := 26) ?hr ?_; (case hd => rfl); (case hg => rfl); (case hr => first | (go_simp; done) | (go_simp; rfl)); intro gb161 hg w60 hbox hb; have n0_ := Aside0.mk (blk_below (g := gb147) (o := .cells #[.int .u64 a0_0, .int .u64 a0_1] 23 (0, 0)) (by (with_reducible repeat (first | refine blk_drewN ?_ _ | refine blk_drew ?_ | refine blk_alloc ?_ _)); exact BK147.out) hb); have n1_ := Aside0.mk (blk_below (g := gb148) (o := .cells #[.int .u64 x149000_1, .int .u64 x149001_1, .bool x149002_1, .int .i64 x149003_1, .int .u64 x149004_1, .int .u64 x149005_1, .bool x149006_1, .int .i64 x149007_1] 27 (0, 0)) (by (with_reducible repeat (first | refine blk_drewN ?_ _ | refine blk_drew ?_ | refine blk_alloc ?_ _)); exact BK148.out) hb); have n2_ := Aside0.mk (below_step (by repeat (first | (with_reducible first | exact HB.out | apply below_alloc | apply pw_below_drewN | apply below_drew1 | refine below_set ?_ GE147.out | refine below_set ?_ GE148.out) | exact HB.out)) hb); have n3_ := Aside0.mk (hbox); have n4_ := Aside0.mk ((by rw [hg]; exact (below_size (by repeat (first | (with_reducible first | exact HB.out | apply below_alloc | apply pw_below_drewN | apply below_drew1 | refine below_set ?_ GE147.out | refine below_set ?_ GE148.out) | exact HB.out))) : w.heap.size ≤ gb161)); have n5_ := Aside0.mk ((by rw [hg]; exact (below_size (by repeat (first | (with_reducible first | exact HB.out | apply below_alloc | apply pw_below_drewN | apply below_drew1 | refine below_set ?_ GE147.out | refine below_set ?_ GE148.out) | exact HB.out))) : w.heap.size ≤ gb161)); have n6_ := Aside0.mk ((by rw [hg]; exact Nat.ne_of_lt (blk_lt (g := gb147) (o := .cells #[.int .u64 a0_0, .int .u64 a0_1] 23 (0, 0)) (by (with_reducible repeat (first | refine blk_drewN ?_ _ | refine blk_drew ?_ | refine blk_alloc ?_ _)); exact BK147.out)) : gb147 ≠ gb161)); have n7_ := Aside0.mk ((by rw [hg]; exact Nat.ne_of_gt (blk_lt (g := gb147) (o := .cells #[.int .u64 a0_0, .int .u64 a0_1] 23 (0, 0)) (by (with_reducible repeat (first | refine blk_drewN ?_ _ | refine blk_drew ?_ | refine blk_alloc ?_ _)); exact BK147.out)) : gb161 ≠ gb147)); have n8_ := Aside0.mk ((by rw [hg]; exact Nat.ne_of_lt (blk_lt (g := gb148) (o := .cells #[.int .u64 x149000_1, .int .u64 x149001_1, .bool x149002_1, .int .i64 x149003_1, .int .u64 x149004_1, .int .u64 x149005_1, .bool x149006_1, .int .i64 x149007_1] 27 (0, 0)) (by (with_reducible repeat (first | refine blk_drewN ?_ _ | refine blk_drew ?_ | refine blk_alloc ?_ _)); exact BK148.out)) : gb148 ≠ gb161)); have n9_ := Aside0.mk ((by rw [hg]; exact Nat.ne_of_gt (blk_lt (g := gb148) (o := .cells #[.int .u64 x149000_1, .int .u64 x149001_1, .bool x149002_1, .int .i64 x149003_1, .int .u64 x149004_1, .int .u64 x149005_1, .bool x149006_1, .int .i64 x149007_1] 27 (0, 0)) (by (with_reducible repeat (first | refine blk_drewN ?_ _ | refine blk_drew ?_ | refine blk_alloc ?_ _)); exact BK148.out)) : gb161 ≠ gb148)); clear BK147; clear BK148; clear HB; have BK147 := n0_; have BK148 := n1_; have HB := n2_; have BK161 := n3_; have GW161 := n4_; have GE161 := n5_; have NB147_161 := n6_; have NB161_147 := n7_; have NB148_161 := n8_; have NB161_148 := n9_; clear n0_ n1_ n2_ n3_ n4_ n5_ n6_ n7_ n8_ n9_; clear hb hbox hg; have hnb61 := NB161_147.out; have hnc61 := NB147_161.out; have hnb62 := NB161_148.out; have hnc62 := NB148_161.out; have hcz63_0 : w60.cell? ⟨gb161, 0, none⟩ = some (.int .u64 0) := (blk_cell BK161.out 0).trans rfl; have hcz63_1 : w60.cell? ⟨gb161, 1, none⟩ = some (.int .u64 0) := (blk_cell BK161.out 1).trans rfl; have hcz63_2 : w60.cell? ⟨gb161, 2, none⟩ = some (.bool false) := (blk_cell BK161.out 2).trans rfl; have hcz63_3 : w60.cell? ⟨gb161, 3, none⟩ = some (.int .i64 0) := (blk_cell BK161.out 3).trans rfl; have hfz63_0 := blk_frozen BK161.out 0; have hfz63_1 := blk_frozen BK161.out 1; have hfz63_2 := blk_frozen BK161.out 2; have hfz63_3 := blk_frozen BK161.out 3) | ((with_reducible refine gate_store (t := 26) (p := 7) rfl ?_); refine store_event (t := 26) (p := 7) (v := ?vo_w64) (w1 := ((((w60.setCell ⟨gb161, 0, none⟩ (.int .u64 t156)).setCell ⟨gb161, 1, none⟩ (.int .u64 t157)).setCell ⟨gb161, 2, none⟩ (.bool t158)).setCell ⟨gb161, 3, none⟩ (.int .i64 t159))) ?hg ?ho ?hn ?hr ?_; (case ho => rfl); (case hg => rfl); (case hn => rfl); (case hr => first | (go_simp; done) | (go_simp; rfl)); intro w64 hw; have n0_ : Aside0 (w64.heap[gb147]? = some (.cells #[.int .u64 a0_0, .int .u64 a0_1] 23 (0, 0))) := ⟨(by rw [hw]; exact (by (with_reducible repeat (first | refine blk_drewN ?_ _ | refine blk_drew ?_ | refine blk_alloc ?_ _)); refine blk_far ?_ NB147_161.out _; (with_reducible repeat (first | refine blk_drewN ?_ _ | refine blk_drew ?_ | refine blk_alloc ?_ _)); refine blk_far ?_ NB147_161.out _; (with_reducible repeat (first | refine blk_drewN ?_ _ | refine blk_drew ?_ | refine blk_alloc ?_ _)); refine blk_far ?_ NB147_161.out _; (with_reducible repeat (first | refine blk_drewN ?_ _ | refine blk_drew ?_ | refine blk_alloc ?_ _)); refine blk_far ?_ NB147_161.out _; (with_reducible repeat (first | refine blk_drewN ?_ _ | refine blk_drew ?_ | refine blk_alloc ?_ _)); exact BK147.out))⟩; have n1_ : Aside0 (w64.heap[gb148]? = some (.cells #[.int .u64 x149000_1, .int .u64 x149001_1, .bool x149002_1, .int .i64 x149003_1, .int .u64 x149004_1, .int .u64 x149005_1, .bool x149006_1, .int .i64 x149007_1] 27 (0, 0))) := ⟨(by rw [hw]; exact (by (with_reducible repeat (first | refine blk_drewN ?_ _ | refine blk_drew ?_ | refine blk_alloc ?_ _)); refine blk_far ?_ NB148_161.out _; (with_reducible repeat (first | refine blk_drewN ?_ _ | refine blk_drew ?_ | refine blk_alloc ?_ _)); refine blk_far ?_ NB148_161.out _; (with_reducible repeat (first | refine blk_drewN ?_ _ | refine blk_drew ?_ | refine blk_alloc ?_ _)); refine blk_far ?_ NB148_161.out _; (with_reducible repeat (first | refine blk_drewN ?_ _ | refine blk_drew ?_ | refine blk_alloc ?_ _)); refine blk_far ?_ NB148_161.out _; (with_reducible repeat (first | refine blk_drewN ?_ _ | refine blk_drew ?_ | refine blk_alloc ?_ _)); exact BK148.out))⟩; have n2_ : Aside0 (w64.heap[gb161]? = some (.cells #[.int .u64 t156, .int .u64 t157, .bool t158, .int .i64 t159] 26 (0, 0))) := ⟨(by rw [hw]; exact (by (with_reducible repeat (first | refine blk_drewN ?_ _ | refine blk_drew ?_ | refine blk_alloc ?_ _)); refine blk_put (cs := #[.int .u64 t156, .int .u64 t157, .bool t158, .int .i64 0]) ?_ 3 _ rfl; (with_reducible repeat (first | refine blk_drewN ?_ _ | refine blk_drew ?_ | refine blk_alloc ?_ _)); refine blk_put (cs := #[.int .u64 t156, .int .u64 t157, .bool false, .int .i64 0]) ?_ 2 _ rfl; (with_reducible repeat (first | refine blk_drewN ?_ _ | refine blk_drew ?_ | refine blk_alloc ?_ _)); refine blk_put (cs := #[.int .u64 t156, .int .u64 0, .bool false, .int .i64 0]) ?_ 1 _ rfl; (with_reducible repeat (first | refine blk_drewN ?_ _ | refine blk_drew ?_ | refine blk_alloc ?_ _)); refine blk_put (cs := #[.int .u64 0, .int .u64 0, .bool false, .int .i64 0]) ?_ 0 _ rfl; (with_reducible repeat (first | refine blk_drewN ?_ _ | refine blk_drew ?_ | refine blk_alloc ?_ _)); exact BK161.out))⟩; have n3_ : Aside0 (Below w.heap.size w w64) := ⟨(by rw [hw]; exact (by repeat (first | (with_reducible first | exact HB.out | apply below_alloc | apply pw_below_drewN | apply below_drew1 | refine below_set ?_ GE147.out | refine below_set ?_ GE148.out | refine below_set ?_ GE161.out) | exact HB.out)))⟩; clear hw; clear BK147; clear BK148; clear BK161; clear HB; have BK147 := n0_; have BK148 := n1_; have BK161 := n2_; have HB := n3_; clear n0_ n1_ n2_ n3_; have hcz65_0 : w64.cell? ⟨gb147, 0, none⟩ = some (.int .u64 a0_0) := (blk_cell BK147.out 0).trans rfl; have hcz65_1 : w64.cell? ⟨gb147, 1, none⟩ = some (.int .u64 a0_1) := (blk_cell BK147.out 1).trans rfl; have hfz65_0 := blk_frozen BK147.out 0; have hfz65_1 := blk_frozen BK147.out 1) | (go_at_call 8; (with_reducible refine (beaconlaw12_awake.calls k1  t162 _ A56.out).mono ?_); rintro e w66 ⟨rfl, hb⟩; have n0_ := Aside0.mk (blk_below (g := gb147) (o := .cells #[.int .u64 a0_0, .int .u64 a0_1] 23 (0, 0)) (by (with_reducible repeat (first | refine blk_drewN ?_ _ | refine blk_drew ?_ | refine blk_alloc ?_ _)); exact BK147.out) hb); have n1_ := Aside0.mk (blk_below (g := gb148) (o := .cells #[.int .u64 x149000_1, .int .u64 x149001_1, .bool x149002_1, .int .i64 x149003_1, .int .u64 x149004_1, .int .u64 x149005_1, .bool x149006_1, .int .i64 x149007_1] 27 (0, 0)) (by (with_reducible repeat (first | refine blk_drewN ?_ _ | refine blk_drew ?_ | refine blk_alloc ?_ _)); exact BK148.out) hb); have n2_ := Aside0.mk (blk_below (g := gb161) (o := .cells #[.int .u64 t156, .int .u64 t157, .bool t158, .int .i64 t159] 26 (0, 0)) (by (with_reducible repeat (first | refine blk_drewN ?_ _ | refine blk_drew ?_ | refine blk_alloc ?_ _)); exact BK161.out) hb); have n3_ := Aside0.mk (below_step (by repeat (first | (with_reducible first | exact HB.out | apply below_alloc | apply pw_below_drewN | apply below_drew1 | refine below_set ?_ GE147.out | refine below_set ?_ GE148.out | refine below_set ?_ GE161.out) | exact HB.out)) hb); clear BK147; clear BK148; clear BK161; clear HB; have BK147 := n0_; have BK148 := n1_; have BK161 := n2_; have HB := n3_; clear n0_ n1_ n2_ n3_; (try clear hb); (try clear hb2); (try clear hk); (try clear hi)))
                go_ret
                exact ⟨by first | rfl | (simp [errW_none, errW_some] <;> rfl) | (simp [*, errW_none, errW_some] <;> rfl), by repeat (first | (with_reducible first | exact HB.out | apply below_alloc | apply pw_below_drewN | apply below_drew1 | refine below_set ?_ GE147.out | refine below_set ?_ GE148.out | refine below_set ?_ GE161.out) | exact HB.out)⟩
              · rw [if_neg c55] at H
                have c55b0 : (a0_1 == 0) = false := beq_eq_false_iff_ne.mpr c55
                have c55b1 : (a0_1 != 0) = true := bne_iff_ne.mpr c55
                obtain rfl := Option.some.inj H
                have hnb67 := NB147_148.out
                have hnc67 := NB148_147.out
                have hcz68_0 : wr.cell? ⟨gb147, 0, none⟩ = some (.int .u64 a0_0) := (blk_cell BK147.out 0).trans rfl
                have hcz68_1 : wr.cell? ⟨gb147, 1, none⟩ = some (.int .u64 a0_1) := (blk_cell BK147.out 1).trans rfl
                have hfz68_0 := blk_frozen BK147.out 0
                have hfz68_1 := blk_frozen BK147.out 1
                go_wp2_with (first | ((with_reducible refine gate_callee (f := 7) rfl ?_); refine goesL_ (some 25) rfl rfl Try.func7 (by kernel_rfl) rfl #[.int .u64 a0_1] rfl (by (try simp only [List.map_toArray, List.map_cons, List.map_nil]); first | done | rfl | (simp only [List.length_drop, List.length_take]; rfl)) ?_; (with_reducible refine (session_New.calls a0_1 t156 t157 t158 t159 t160 _ A42.out).mono ?_); rintro e w69 ⟨rfl, hb⟩; refine ⟨_, rfl, ?_⟩; have n0_ := Aside0.mk (blk_below (g := gb147) (o := .cells #[.int .u64 a0_0, .int .u64 a0_1] 23 (0, 0)) (by (with_reducible repeat (first | refine blk_drewN ?_ _ | refine blk_drew ?_ | refine blk_alloc ?_ _)); exact BK147.out) hb); have n1_ := Aside0.mk (blk_below (g := gb148) (o := .cells #[.int .u64 x149000_1, .int .u64 x149001_1, .bool x149002_1, .int .i64 x149003_1, .int .u64 x149004_1, .int .u64 x149005_1, .bool x149006_1, .int .i64 x149007_1] 27 (0, 0)) (by (with_reducible repeat (first | refine blk_drewN ?_ _ | refine blk_drew ?_ | refine blk_alloc ?_ _)); exact BK148.out) hb); have n2_ := Aside0.mk (below_step (by repeat (first | (with_reducible first | exact HB.out | apply below_alloc | apply pw_below_drewN | apply below_drew1 | refine below_set ?_ GE147.out | refine below_set ?_ GE148.out) | exact HB.out)) hb); clear BK147; clear BK148; clear HB; have BK147 := n0_; have BK148 := n1_; have HB := n2_; clear n0_ n1_ n2_; (try clear hb); (try clear hb2); (try clear hk); (try clear hi)) | ((with_reducible refine gate_dst (N := 7) rfl ?_); refine box_event ?hg (N := 7) ?hd (cs := #[.int .u64 0, .int .u64 0, .bool false, .int .i64 0]) (t := 26) ?hr ?_; (case hd => rfl); (case hg => rfl); (case hr => first | (go_simp; done) | (go_simp; rfl)); intro gb161 hg w70 hbox hb; have n0_ := Aside0.mk (blk_below (g := gb147) (o := .cells #[.int .u64 a0_0, .int .u64 a0_1] 23 (0, 0)) (by (with_reducible repeat (first | refine blk_drewN ?_ _ | refine blk_drew ?_ | refine blk_alloc ?_ _)); exact BK147.out) hb); have n1_ := Aside0.mk (blk_below (g := gb148) (o := .cells #[.int .u64 x149000_1, .int .u64 x149001_1, .bool x149002_1, .int .i64 x149003_1, .int .u64 x149004_1, .int .u64 x149005_1, .bool x149006_1, .int .i64 x149007_1] 27 (0, 0)) (by (with_reducible repeat (first | refine blk_drewN ?_ _ | refine blk_drew ?_ | refine blk_alloc ?_ _)); exact BK148.out) hb); have n2_ := Aside0.mk (below_step (by repeat (first | (with_reducible first | exact HB.out | apply below_alloc | apply pw_below_drewN | apply below_drew1 | refine below_set ?_ GE147.out | refine below_set ?_ GE148.out) | exact HB.out)) hb); have n3_ := Aside0.mk (hbox); have n4_ := Aside0.mk ((by rw [hg]; exact (below_size (by repeat (first | (with_reducible first | exact HB.out | apply below_alloc | apply pw_below_drewN | apply below_drew1 | refine below_set ?_ GE147.out | refine below_set ?_ GE148.out) | exact HB.out))) : w.heap.size ≤ gb161)); have n5_ := Aside0.mk ((by rw [hg]; exact (below_size (by repeat (first | (with_reducible first | exact HB.out | apply below_alloc | apply pw_below_drewN | apply below_drew1 | refine below_set ?_ GE147.out | refine below_set ?_ GE148.out) | exact HB.out))) : w.heap.size ≤ gb161)); have n6_ := Aside0.mk ((by rw [hg]; exact Nat.ne_of_lt (blk_lt (g := gb147) (o := .cells #[.int .u64 a0_0, .int .u64 a0_1] 23 (0, 0)) (by (with_reducible repeat (first | refine blk_drewN ?_ _ | refine blk_drew ?_ | refine blk_alloc ?_ _)); exact BK147.out)) : gb147 ≠ gb161)); have n7_ := Aside0.mk ((by rw [hg]; exact Nat.ne_of_gt (blk_lt (g := gb147) (o := .cells #[.int .u64 a0_0, .int .u64 a0_1] 23 (0, 0)) (by (with_reducible repeat (first | refine blk_drewN ?_ _ | refine blk_drew ?_ | refine blk_alloc ?_ _)); exact BK147.out)) : gb161 ≠ gb147)); have n8_ := Aside0.mk ((by rw [hg]; exact Nat.ne_of_lt (blk_lt (g := gb148) (o := .cells #[.int .u64 x149000_1, .int .u64 x149001_1, .bool x149002_1, .int .i64 x149003_1, .int .u64 x149004_1, .int .u64 x149005_1, .bool x149006_1, .int .i64 x149007_1] 27 (0, 0)) (by (with_reducible repeat (first | refine blk_drewN ?_ _ | refine blk_drew ?_ | refine blk_alloc ?_ _)); exact BK148.out)) : gb148 ≠ gb161)); have n9_ := Aside0.mk ((by rw [hg]; exact Nat.ne_of_gt (blk_lt (g := gb148) (o := .cells #[.int .u64 x149000_1, .int .u64 x149001_1, .bool x149002_1, .int .i64 x149003_1, .int .u64 x149004_1, .int .u64 x149005_1, .bool x149006_1, .int .i64 x149007_1] 27 (0, 0)) (by (with_reducible repeat (first | refine blk_drewN ?_ _ | refine blk_drew ?_ | refine blk_alloc ?_ _)); exact BK148.out)) : gb161 ≠ gb148)); clear BK147; clear BK148; clear HB; have BK147 := n0_; have BK148 := n1_; have HB := n2_; have BK161 := n3_; have GW161 := n4_; have GE161 := n5_; have NB147_161 := n6_; have NB161_147 := n7_; have NB148_161 := n8_; have NB161_148 := n9_; clear n0_ n1_ n2_ n3_ n4_ n5_ n6_ n7_ n8_ n9_; clear hb hbox hg; have hnb71 := NB161_147.out; have hnc71 := NB147_161.out; have hnb72 := NB161_148.out; have hnc72 := NB148_161.out; have hcz73_0 : w70.cell? ⟨gb161, 0, none⟩ = some (.int .u64 0) := (blk_cell BK161.out 0).trans rfl; have hcz73_1 : w70.cell? ⟨gb161, 1, none⟩ = some (.int .u64 0) := (blk_cell BK161.out 1).trans rfl; have hcz73_2 : w70.cell? ⟨gb161, 2, none⟩ = some (.bool false) := (blk_cell BK161.out 2).trans rfl; have hcz73_3 : w70.cell? ⟨gb161, 3, none⟩ = some (.int .i64 0) := (blk_cell BK161.out 3).trans rfl; have hfz73_0 := blk_frozen BK161.out 0; have hfz73_1 := blk_frozen BK161.out 1; have hfz73_2 := blk_frozen BK161.out 2; have hfz73_3 := blk_frozen BK161.out 3) | ((with_reducible refine gate_store (t := 26) (p := 7) rfl ?_); refine store_event (t := 26) (p := 7) (v := ?vo_w74) (w1 := ((((w70.setCell ⟨gb161, 0, none⟩ (.int .u64 t156)).setCell ⟨gb161, 1, none⟩ (.int .u64 t157)).setCell ⟨gb161, 2, none⟩ (.bool t158)).setCell ⟨gb161, 3, none⟩ (.int .i64 t159))) ?hg ?ho ?hn ?hr ?_; (case ho => rfl); (case hg => rfl); (case hn => rfl); (case hr => first | (go_simp; done) | (go_simp; rfl)); intro w74 hw; have n0_ : Aside0 (w74.heap[gb147]? = some (.cells #[.int .u64 a0_0, .int .u64 a0_1] 23 (0, 0))) := ⟨(by rw [hw]; exact (by (with_reducible repeat (first | refine blk_drewN ?_ _ | refine blk_drew ?_ | refine blk_alloc ?_ _)); refine blk_far ?_ NB147_161.out _; (with_reducible repeat (first | refine blk_drewN ?_ _ | refine blk_drew ?_ | refine blk_alloc ?_ _)); refine blk_far ?_ NB147_161.out _; (with_reducible repeat (first | refine blk_drewN ?_ _ | refine blk_drew ?_ | refine blk_alloc ?_ _)); refine blk_far ?_ NB147_161.out _; (with_reducible repeat (first | refine blk_drewN ?_ _ | refine blk_drew ?_ | refine blk_alloc ?_ _)); refine blk_far ?_ NB147_161.out _; (with_reducible repeat (first | refine blk_drewN ?_ _ | refine blk_drew ?_ | refine blk_alloc ?_ _)); exact BK147.out))⟩; have n1_ : Aside0 (w74.heap[gb148]? = some (.cells #[.int .u64 x149000_1, .int .u64 x149001_1, .bool x149002_1, .int .i64 x149003_1, .int .u64 x149004_1, .int .u64 x149005_1, .bool x149006_1, .int .i64 x149007_1] 27 (0, 0))) := ⟨(by rw [hw]; exact (by (with_reducible repeat (first | refine blk_drewN ?_ _ | refine blk_drew ?_ | refine blk_alloc ?_ _)); refine blk_far ?_ NB148_161.out _; (with_reducible repeat (first | refine blk_drewN ?_ _ | refine blk_drew ?_ | refine blk_alloc ?_ _)); refine blk_far ?_ NB148_161.out _; (with_reducible repeat (first | refine blk_drewN ?_ _ | refine blk_drew ?_ | refine blk_alloc ?_ _)); refine blk_far ?_ NB148_161.out _; (with_reducible repeat (first | refine blk_drewN ?_ _ | refine blk_drew ?_ | refine blk_alloc ?_ _)); refine blk_far ?_ NB148_161.out _; (with_reducible repeat (first | refine blk_drewN ?_ _ | refine blk_drew ?_ | refine blk_alloc ?_ _)); exact BK148.out))⟩; have n2_ : Aside0 (w74.heap[gb161]? = some (.cells #[.int .u64 t156, .int .u64 t157, .bool t158, .int .i64 t159] 26 (0, 0))) := ⟨(by rw [hw]; exact (by (with_reducible repeat (first | refine blk_drewN ?_ _ | refine blk_drew ?_ | refine blk_alloc ?_ _)); refine blk_put (cs := #[.int .u64 t156, .int .u64 t157, .bool t158, .int .i64 0]) ?_ 3 _ rfl; (with_reducible repeat (first | refine blk_drewN ?_ _ | refine blk_drew ?_ | refine blk_alloc ?_ _)); refine blk_put (cs := #[.int .u64 t156, .int .u64 t157, .bool false, .int .i64 0]) ?_ 2 _ rfl; (with_reducible repeat (first | refine blk_drewN ?_ _ | refine blk_drew ?_ | refine blk_alloc ?_ _)); refine blk_put (cs := #[.int .u64 t156, .int .u64 0, .bool false, .int .i64 0]) ?_ 1 _ rfl; (with_reducible repeat (first | refine blk_drewN ?_ _ | refine blk_drew ?_ | refine blk_alloc ?_ _)); refine blk_put (cs := #[.int .u64 0, .int .u64 0, .bool false, .int .i64 0]) ?_ 0 _ rfl; (with_reducible repeat (first | refine blk_drewN ?_ _ | refine blk_drew ?_ | refine blk_alloc ?_ _)); exact BK161.out))⟩; have n3_ : Aside0 (Below w.heap.size w w74) := ⟨(by rw [hw]; exact (by repeat (first | (with_reducible first | exact HB.out | apply below_alloc | apply pw_below_drewN | apply below_drew1 | refine below_set ?_ GE147.out | refine below_set ?_ GE148.out | refine below_set ?_ GE161.out) | exact HB.out)))⟩; clear hw; clear BK147; clear BK148; clear BK161; clear HB; have BK147 := n0_; have BK148 := n1_; have BK161 := n2_; have HB := n3_; clear n0_ n1_ n2_ n3_; have hcz75_0 : w74.cell? ⟨gb147, 0, none⟩ = some (.int .u64 a0_0) := (blk_cell BK147.out 0).trans rfl; have hcz75_1 : w74.cell? ⟨gb147, 1, none⟩ = some (.int .u64 a0_1) := (blk_cell BK147.out 1).trans rfl; have hfz75_0 := blk_frozen BK147.out 0; have hfz75_1 := blk_frozen BK147.out 1))
                go_ret
                exact ⟨by first | rfl | (simp [errW_none, errW_some] <;> rfl) | (simp [*, errW_none, errW_some] <;> rfl), by repeat (first | (with_reducible first | exact HB.out | apply below_alloc | apply pw_below_drewN | apply below_drew1 | refine below_set ?_ GE147.out | refine below_set ?_ GE148.out | refine below_set ?_ GE161.out) | exact HB.out)⟩
          · rw [if_neg c41] at H
            exact absurd H (by simp)
      · rw [if_neg c5] at H
        have c5b0 : decide (x6_1 < 2) = false := decide_eq_false c5
        clear c5
        have H' := Aside0.mk H
        clear H
        go_wp2
        go_loopg [9] k1 (fun kq v9 w' => ∃ (x9_2 : Int) (x149000_2 : Int) (x149001_2 : Int) (x149002_2 : Bool) (x149003_2 : Int) (x149004_2 : Int) (x149005_2 : Int) (x149006_2 : Bool) (x149007_2 : Int), v9 = .int .i64 x9_2 ∧ Aside0 (beaconlaw12_SessionMeets.l1 kq l1 x9_2 x149000_2 x149001_2 x149002_2 x149003_2 x149004_2 x149005_2 x149006_2 x149007_2 = some r) ∧ Aside0 (kq ≤ k1) ∧ Aside0 (w'.heap[gb147]? = some (.cells #[.int .u64 a0_0, .int .u64 a0_1] 23 (0, 0))) ∧ Aside0 (w'.heap[gb148]? = some (.cells #[.int .u64 x149000_2, .int .u64 x149001_2, .bool x149002_2, .int .i64 x149003_2, .int .u64 x149004_2, .int .u64 x149005_2, .bool x149006_2, .int .i64 x149007_2] 27 (0, 0))) ∧ Aside0 (Below w.heap.size w w'))
        case atStart => exact ⟨(0), (x149000_1), (x149001_1), (x149002_1), (x149003_1), (x149004_1), (x149005_1), (x149006_1), (x149007_1), (by first | rfl | (simp; done) | (simp [*]; done)), H', ⟨Nat.le_refl _⟩, ⟨by (with_reducible repeat (first | refine blk_drewN ?_ _ | refine blk_drew ?_ | refine blk_alloc ?_ _)); exact BK147.out⟩, ⟨by (with_reducible repeat (first | refine blk_drewN ?_ _ | refine blk_drew ?_ | refine blk_alloc ?_ _)); exact BK148.out⟩, ⟨by repeat (first | (with_reducible first | exact HB.out | apply below_alloc | apply pw_below_drewN | apply below_drew1 | refine below_set ?_ GE147.out | refine below_set ?_ GE148.out) | exact HB.out)⟩⟩
        case round =>
          clear H'
          try clear c1
          try clear c2
          try clear p2
          try clear c3
          try clear c4
          try clear c5
          try clear c5b0
          try clear c6
          try clear c6b0
          try clear c6b1
          try clear c7
          try clear c8
          try clear c8b0
          try clear c8b1
          try clear c9
          try clear c13
          try clear c14
          try clear c20
          try clear c20b0
          try clear c20b1
          try clear c22
          try clear c26
          try clear c27
          try clear c32
          try clear c36
          try clear c37
          try clear c41
          try clear c41b0
          try clear c41b1
          try clear c43
          try clear c43b0
          try clear c43b1
          try clear c44
          try clear c48
          try clear c49
          try clear c55
          try clear c55b0
          try clear c55b1
          try clear c57
          try clear c61
          try clear c62
          try clear c67
          try clear c71
          try clear c72
          try clear hcz10_0
          try clear hcz10_1
          try clear hcz15_0
          try clear hcz15_1
          try clear hcz15_2
          try clear hcz15_3
          try clear hcz17_0
          try clear hcz17_1
          try clear hcz17_2
          try clear hcz17_3
          try clear hcz18_0
          try clear hcz18_1
          try clear hcz18_2
          try clear hcz18_3
          try clear hcz18_4
          try clear hcz18_5
          try clear hcz18_6
          try clear hcz18_7
          try clear hcz23_0
          try clear hcz23_1
          try clear hcz28_0
          try clear hcz28_1
          try clear hcz28_2
          try clear hcz28_3
          try clear hcz30_0
          try clear hcz30_1
          try clear hcz33_0
          try clear hcz33_1
          try clear hcz38_0
          try clear hcz38_1
          try clear hcz38_2
          try clear hcz38_3
          try clear hcz40_0
          try clear hcz40_1
          try clear hcz45_0
          try clear hcz45_1
          try clear hcz50_0
          try clear hcz50_1
          try clear hcz50_2
          try clear hcz50_3
          try clear hcz52_0
          try clear hcz52_1
          try clear hcz52_2
          try clear hcz52_3
          try clear hcz53_0
          try clear hcz53_1
          try clear hcz53_2
          try clear hcz53_3
          try clear hcz53_4
          try clear hcz53_5
          try clear hcz53_6
          try clear hcz53_7
          try clear hcz58_0
          try clear hcz58_1
          try clear hcz63_0
          try clear hcz63_1
          try clear hcz63_2
          try clear hcz63_3
          try clear hcz65_0
          try clear hcz65_1
          try clear hcz68_0
          try clear hcz68_1
          try clear hcz73_0
          try clear hcz73_1
          try clear hcz73_2
          try clear hcz73_3
          try clear hcz75_0
          try clear hcz75_1
          try clear hfz10_0
          try clear hfz10_1
          try clear hfz15_0
          try clear hfz15_1
          try clear hfz15_2
          try clear hfz15_3
          try clear hfz17_0
          try clear hfz17_1
          try clear hfz17_2
          try clear hfz17_3
          try clear hfz18_0
          try clear hfz18_1
          try clear hfz18_2
          try clear hfz18_3
          try clear hfz18_4
          try clear hfz18_5
          try clear hfz18_6
          try clear hfz18_7
          try clear hfz23_0
          try clear hfz23_1
          try clear hfz28_0
          try clear hfz28_1
          try clear hfz28_2
          try clear hfz28_3
          try clear hfz30_0
          try clear hfz30_1
          try clear hfz33_0
          try clear hfz33_1
          try clear hfz38_0
          try clear hfz38_1
          try clear hfz38_2
          try clear hfz38_3
          try clear hfz40_0
          try clear hfz40_1
          try clear hfz45_0
          try clear hfz45_1
          try clear hfz50_0
          try clear hfz50_1
          try clear hfz50_2
          try clear hfz50_3
          try clear hfz52_0
          try clear hfz52_1
          try clear hfz52_2
          try clear hfz52_3
          try clear hfz53_0
          try clear hfz53_1
          try clear hfz53_2
          try clear hfz53_3
          try clear hfz53_4
          try clear hfz53_5
          try clear hfz53_6
          try clear hfz53_7
          try clear hfz58_0
          try clear hfz58_1
          try clear hfz63_0
          try clear hfz63_1
          try clear hfz63_2
          try clear hfz63_3
          try clear hfz65_0
          try clear hfz65_1
          try clear hfz68_0
          try clear hfz68_1
          try clear hfz73_0
          try clear hfz73_1
          try clear hfz73_2
          try clear hfz73_3
          try clear hfz75_0
          try clear hfz75_1
          try clear p2
          obtain ⟨x9_2, x149000_2, x149001_2, x149002_2, x149003_2, x149004_2, x149005_2, x149006_2, x149007_2, rfl, HA, HK2, BK147, BK148, HB⟩ := hrel
          cases gk with
          | zero => exact absurd HA.out (by simp [beaconlaw12_SessionMeets.l1])
          | succ k2 =>
            have H := HA.out
            clear HA
            simp only [beaconlaw12_SessionMeets.l1] at H
            by_cases c76 : x9_2 < (l1.length : Int)
            · rw [if_pos c76] at H
              have c76b0 : decide (x9_2 < (l1.length : Int)) = true := decide_eq_true c76
              clear c76
              by_cases c77 : 0 ≤ x9_2
              · rw [if_pos c77] at H
                have c77b0 : decide (0 ≤ x9_2) = true := decide_eq_true c77
                clear c77
                have HC78 := Aside0.mk H
                clear H
                have p163 : 0 ≤ (x9_2 : Int) := of_decide_eq_true (by first | (with_reducible assumption) | assumption)
                have q163 : x9_2 < (l1.length : Int) := of_decide_eq_true (by first | (with_reducible assumption) | assumption)
                obtain ⟨ad163, e163, hx163_0, hx163_1, hx163_2, hx163_3⟩ := at_T33 HR1.out x9_2 p163 q163
                cases e163
                replace hx163_0 := (HB.out.cell (World.block_lt_of_cell? w _ hx163_0)).trans hx163_0
                replace hx163_1 := (HB.out.cell (World.block_lt_of_cell? w _ hx163_1)).trans hx163_1
                replace hx163_2 := (HB.out.cell (World.block_lt_of_cell? w _ hx163_2)).trans hx163_2
                replace hx163_3 := (HB.out.cell (World.block_lt_of_cell? w _ hx163_3)).trans hx163_3
                replace p163 := eq_true p163
                replace q163 := eq_true q163
                have p164 : 0 ≤ (x9_2 : Int) := of_decide_eq_true (by first | (with_reducible assumption) | assumption)
                have q164 : x9_2 < (l1.length : Int) := of_decide_eq_true (by first | (with_reducible assumption) | assumption)
                obtain ⟨ad164, e164, hx164_0, hx164_1, hx164_2, hx164_3⟩ := at_T33 HR1.out x9_2 p164 q164
                obtain rfl : ad163 = ad164 := (by injection e164)
                replace hx164_0 := (HB.out.cell (World.block_lt_of_cell? w _ hx164_0)).trans hx164_0
                replace hx164_1 := (HB.out.cell (World.block_lt_of_cell? w _ hx164_1)).trans hx164_1
                replace hx164_2 := (HB.out.cell (World.block_lt_of_cell? w _ hx164_2)).trans hx164_2
                replace hx164_3 := (HB.out.cell (World.block_lt_of_cell? w _ hx164_3)).trans hx164_3
                replace p164 := eq_true p164
                replace q164 := eq_true q164
                go_upto_if 57 with (fail)
                go_cut [57] (fun v57 wc => ∃ (kq : Nat) (x57_77 : Bool), v57 = .bool x57_77 ∧ Aside0 (beaconlaw12_SessionMeets.j2 kq l1 x9_2 (Go.bits .and .i64 ((rd_T33 l1 x9_2).f0) 1) ((rd_T33 l1 x9_2).f1) x57_77 x149000_2 x149001_2 x149002_2 x149003_2 x149004_2 x149005_2 x149006_2 x149007_2 = some r) ∧ Aside0 (kq ≤ k2) ∧ Aside0 (wc.heap[gb147]? = some (.cells #[.int .u64 a0_0, .int .u64 a0_1] 23 (0, 0))) ∧ Aside0 (wc.heap[gb148]? = some (.cells #[.int .u64 x149000_2, .int .u64 x149001_2, .bool x149002_2, .int .i64 x149003_2, .int .u64 x149004_2, .int .u64 x149005_2, .bool x149006_2, .int .i64 x149007_2] 27 (0, 0))) ∧ Aside0 (Below w.heap.size w wc))
                case first =>
                  have H := HC78.out
                  clear HC78
                  by_cases c79 : ((rd_T33 l1 x9_2).f1) = 0
                  · rw [if_pos c79] at H
                    have c79b0 : (((rd_T33 l1 x9_2).f1) == 0) = true := beq_iff_eq.mpr c79
                    have c79b1 : (((rd_T33 l1 x9_2).f1) != 0) = false := bne_eq_false_iff_eq.mpr c79
                    clear c79
                    (first | rw [c79b0] | (simp only [i64_w, i32_w]; rw [c79b0]) | skip)
                    have H' := Aside0.mk H
                    clear H
                    go_wp2
                    go_meet
                    case rel => exact ⟨_, ((((rd_T33 l1 x9_2).f1) == 0)), (by first | rfl | (simp; done) | (simp [*]; done)), H', ⟨by have := HK1.out; have := HK2.out; first | omega | exact Nat.le_refl _⟩, ⟨by (with_reducible repeat (first | refine blk_drewN ?_ _ | refine blk_drew ?_ | refine blk_alloc ?_ _)); exact BK147.out⟩, ⟨by (with_reducible repeat (first | refine blk_drewN ?_ _ | refine blk_drew ?_ | refine blk_alloc ?_ _)); exact BK148.out⟩, ⟨by repeat (first | (with_reducible first | exact HB.out | apply below_alloc | apply pw_below_drewN | apply below_drew1 | refine below_set ?_ GE147.out | refine below_set ?_ GE148.out) | exact HB.out)⟩⟩
                  · rw [if_neg c79] at H
                    have c79b0 : (((rd_T33 l1 x9_2).f1) == 0) = false := beq_eq_false_iff_ne.mpr c79
                    have c79b1 : (((rd_T33 l1 x9_2).f1) != 0) = true := bne_iff_ne.mpr c79
                    (first | rw [c79b0] | (simp only [i64_w, i32_w]; rw [c79b0]) | skip)
                    by_cases c80 : ((rd_T33 l1 x9_2).f1) = 1
                    · rw [if_pos c80] at H
                      have c80b0 : (((rd_T33 l1 x9_2).f1) == 1) = true := beq_iff_eq.mpr c80
                      have c80b1 : (((rd_T33 l1 x9_2).f1) != 1) = false := bne_eq_false_iff_eq.mpr c80
                      clear c80
                      have H' := Aside0.mk H
                      clear H
                      go_wp2
                      go_meet
                      case rel => exact ⟨_, ((((rd_T33 l1 x9_2).f1) == 1)), (by first | rfl | (simp; done) | (simp [*]; done)), H', ⟨by have := HK1.out; have := HK2.out; first | omega | exact Nat.le_refl _⟩, ⟨by (with_reducible repeat (first | refine blk_drewN ?_ _ | refine blk_drew ?_ | refine blk_alloc ?_ _)); exact BK147.out⟩, ⟨by (with_reducible repeat (first | refine blk_drewN ?_ _ | refine blk_drew ?_ | refine blk_alloc ?_ _)); exact BK148.out⟩, ⟨by repeat (first | (with_reducible first | exact HB.out | apply below_alloc | apply pw_below_drewN | apply below_drew1 | refine below_set ?_ GE147.out | refine below_set ?_ GE148.out) | exact HB.out)⟩⟩
                    · rw [if_neg c80] at H
                      have c80b0 : (((rd_T33 l1 x9_2).f1) == 1) = false := beq_eq_false_iff_ne.mpr c80
                      have c80b1 : (((rd_T33 l1 x9_2).f1) != 1) = true := bne_iff_ne.mpr c80
                      have H' := Aside0.mk H
                      clear H
                      go_wp2
                      go_meet
                      case rel => exact ⟨_, ((((rd_T33 l1 x9_2).f1) == 2)), (by first | rfl | (simp; done) | (simp [*]; done)), H', ⟨by have := HK1.out; have := HK2.out; first | omega | exact Nat.le_refl _⟩, ⟨by (with_reducible repeat (first | refine blk_drewN ?_ _ | refine blk_drew ?_ | refine blk_alloc ?_ _)); exact BK147.out⟩, ⟨by (with_reducible repeat (first | refine blk_drewN ?_ _ | refine blk_drew ?_ | refine blk_alloc ?_ _)); exact BK148.out⟩, ⟨by repeat (first | (with_reducible first | exact HB.out | apply below_alloc | apply pw_below_drewN | apply below_drew1 | refine below_set ?_ GE147.out | refine below_set ?_ GE148.out) | exact HB.out)⟩⟩
                case rest =>
                  clear HC78
                  try clear c1
                  try clear p1
                  try clear q1
                  try clear hx1
                  try clear c2
                  try clear p2
                  try clear c3
                  try clear c4
                  try clear c5
                  try clear c5b0
                  try clear c6
                  try clear c6b0
                  try clear c6b1
                  try clear c7
                  try clear c8
                  try clear c8b0
                  try clear c8b1
                  try clear c9
                  try clear c13
                  try clear c14
                  try clear p16
                  try clear q16
                  try clear hx16
                  try clear c20
                  try clear c20b0
                  try clear c20b1
                  try clear c22
                  try clear c26
                  try clear c27
                  try clear c32
                  try clear c36
                  try clear c37
                  try clear c41
                  try clear c41b0
                  try clear c41b1
                  try clear c43
                  try clear c43b0
                  try clear c43b1
                  try clear c44
                  try clear c48
                  try clear c49
                  try clear c55
                  try clear c55b0
                  try clear c55b1
                  try clear c57
                  try clear c61
                  try clear c62
                  try clear c67
                  try clear c71
                  try clear c72
                  try clear c76
                  try clear c76b0
                  try clear c77
                  try clear c77b0
                  try clear c79
                  try clear c79b0
                  try clear c79b1
                  try clear c80
                  try clear c80b0
                  try clear c80b1
                  try clear hcz10_0
                  try clear hcz10_1
                  try clear hcz15_0
                  try clear hcz15_1
                  try clear hcz15_2
                  try clear hcz15_3
                  try clear hcz17_0
                  try clear hcz17_1
                  try clear hcz17_2
                  try clear hcz17_3
                  try clear hcz18_0
                  try clear hcz18_1
                  try clear hcz18_2
                  try clear hcz18_3
                  try clear hcz18_4
                  try clear hcz18_5
                  try clear hcz18_6
                  try clear hcz18_7
                  try clear hcz23_0
                  try clear hcz23_1
                  try clear hcz28_0
                  try clear hcz28_1
                  try clear hcz28_2
                  try clear hcz28_3
                  try clear hcz30_0
                  try clear hcz30_1
                  try clear hcz33_0
                  try clear hcz33_1
                  try clear hcz38_0
                  try clear hcz38_1
                  try clear hcz38_2
                  try clear hcz38_3
                  try clear hcz40_0
                  try clear hcz40_1
                  try clear hcz45_0
                  try clear hcz45_1
                  try clear hcz50_0
                  try clear hcz50_1
                  try clear hcz50_2
                  try clear hcz50_3
                  try clear hcz52_0
                  try clear hcz52_1
                  try clear hcz52_2
                  try clear hcz52_3
                  try clear hcz53_0
                  try clear hcz53_1
                  try clear hcz53_2
                  try clear hcz53_3
                  try clear hcz53_4
                  try clear hcz53_5
                  try clear hcz53_6
                  try clear hcz53_7
                  try clear hcz58_0
                  try clear hcz58_1
                  try clear hcz63_0
                  try clear hcz63_1
                  try clear hcz63_2
                  try clear hcz63_3
                  try clear hcz65_0
                  try clear hcz65_1
                  try clear hcz68_0
                  try clear hcz68_1
                  try clear hcz73_0
                  try clear hcz73_1
                  try clear hcz73_2
                  try clear hcz73_3
                  try clear hcz75_0
                  try clear hcz75_1
                  try clear hfz10_0
                  try clear hfz10_1
                  try clear hfz15_0
                  try clear hfz15_1
                  try clear hfz15_2
                  try clear hfz15_3
                  try clear hfz17_0
                  try clear hfz17_1
                  try clear hfz17_2
                  try clear hfz17_3
                  try clear hfz18_0
                  try clear hfz18_1
                  try clear hfz18_2
                  try clear hfz18_3
                  try clear hfz18_4
                  try clear hfz18_5
                  try clear hfz18_6
                  try clear hfz18_7
                  try clear hfz23_0
                  try clear hfz23_1
                  try clear hfz28_0
                  try clear hfz28_1
                  try clear hfz28_2
                  try clear hfz28_3
                  try clear hfz30_0
                  try clear hfz30_1
                  try clear hfz33_0
                  try clear hfz33_1
                  try clear hfz38_0
                  try clear hfz38_1
                  try clear hfz38_2
                  try clear hfz38_3
                  try clear hfz40_0
                  try clear hfz40_1
                  try clear hfz45_0
                  try clear hfz45_1
                  try clear hfz50_0
                  try clear hfz50_1
                  try clear hfz50_2
                  try clear hfz50_3
                  try clear hfz52_0
                  try clear hfz52_1
                  try clear hfz52_2
                  try clear hfz52_3
                  try clear hfz53_0
                  try clear hfz53_1
                  try clear hfz53_2
                  try clear hfz53_3
                  try clear hfz53_4
                  try clear hfz53_5
                  try clear hfz53_6
                  try clear hfz53_7
                  try clear hfz58_0
                  try clear hfz58_1
                  try clear hfz63_0
                  try clear hfz63_1
                  try clear hfz63_2
                  try clear hfz63_3
                  try clear hfz65_0
                  try clear hfz65_1
                  try clear hfz68_0
                  try clear hfz68_1
                  try clear hfz73_0
                  try clear hfz73_1
                  try clear hfz73_2
                  try clear hfz73_3
                  try clear hfz75_0
                  try clear hfz75_1
                  try clear hx163_0
                  try clear hx163_1
                  try clear hx163_2
                  try clear hx163_3
                  try clear hx164_0
                  try clear hx164_1
                  try clear hx164_2
                  try clear hx164_3
                  try clear p163
                  try clear p164
                  try clear p2
                  try clear q163
                  try clear q164
                  obtain ⟨kq, x57_77, rfl, HA, HJ77, BK147, BK148, HB⟩ := hcut
                  cases kq with
                  | zero => exact absurd HA.out (by simp [beaconlaw12_SessionMeets.j2])
                  | succ kj77 =>
                    have H := HA.out
                    clear HA
                    simp only [beaconlaw12_SessionMeets.j2] at H
                    by_cases c81 : x57_77 = true
                    · subst c81
                      have H1 : (if (Go.bits .and .i64 ((rd_T33 l1 x9_2).f0) 1) = 0 then ((session_Hello.f x149004_2 x149005_2 x149006_2 x149007_2).bind fun bt165 => ((session_Hear.f kj77 x149000_2 x149001_2 x149002_2 x149003_2 bt165.1 bt165.2).bind fun bt167 => (beaconlaw12_SessionMeets.l1 kj77 l1 (wrap64 (x9_2 + 1)) bt167.1 bt167.2.1 bt167.2.2.1 bt167.2.2.2.1 x149004_2 x149005_2 x149006_2 x149007_2))) else (if (Go.bits .and .i64 ((rd_T33 l1 x9_2).f0) 1) = 1 then ((session_Hello.f x149000_2 x149001_2 x149002_2 x149003_2).bind fun bt173 => ((session_Hear.f kj77 x149004_2 x149005_2 x149006_2 x149007_2 bt173.1 bt173.2).bind fun bt175 => (beaconlaw12_SessionMeets.l1 kj77 l1 (wrap64 (x9_2 + 1)) x149000_2 x149001_2 x149002_2 x149003_2 bt175.1 bt175.2.1 bt175.2.2.1 bt175.2.2.2.1))) else (none))) = some r := by rw [if_pos rfl] at H; exact H
                      clear H
                      have H := H1
                      clear H1
                      by_cases c82 : (Go.bits .and .i64 ((rd_T33 l1 x9_2).f0) 1) = 0
                      · rw [if_pos c82] at H
                        have c82b0 : ((Go.bits .and .i64 ((rd_T33 l1 x9_2).f0) 1) == 0) = true := beq_iff_eq.mpr c82
                        have c82b1 : ((Go.bits .and .i64 ((rd_T33 l1 x9_2).f0) 1) != 0) = false := bne_eq_false_iff_eq.mpr c82
                        replace H := Option.bind_eq_some_iff.mp H
                        obtain ⟨⟨t165, t166⟩, A830, H⟩ := H
                        replace H : ((session_Hear.f kj77 x149000_2 x149001_2 x149002_2 x149003_2 t165 t166).bind fun bt167 => (beaconlaw12_SessionMeets.l1 kj77 l1 (wrap64 (x9_2 + 1)) bt167.1 bt167.2.1 bt167.2.2.1 bt167.2.2.2.1 x149004_2 x149005_2 x149006_2 x149007_2)) = some r := H
                        have A83 := Aside0.mk A830
                        clear A830
                        replace H := Option.bind_eq_some_iff.mp H
                        obtain ⟨⟨t167, t168, t169, t170, t171, t172⟩, A840, H⟩ := H
                        replace H : (beaconlaw12_SessionMeets.l1 kj77 l1 (wrap64 (x9_2 + 1)) t167 t168 t169 t170 x149004_2 x149005_2 x149006_2 x149007_2) = some r := H
                        have A84 := Aside0.mk A840
                        clear A840
                        have H' := Aside0.mk H
                        clear H
                        have hnb85 := NB148_147.out
                        have hnc85 := NB147_148.out
                        have hcz86_0 : wc.cell? ⟨gb148, 0, none⟩ = some (.int .u64 x149000_2) := (blk_cell BK148.out 0).trans rfl
                        have hcz86_1 : wc.cell? ⟨gb148, 1, none⟩ = some (.int .u64 x149001_2) := (blk_cell BK148.out 1).trans rfl
                        have hcz86_2 : wc.cell? ⟨gb148, 2, none⟩ = some (.bool x149002_2) := (blk_cell BK148.out 2).trans rfl
                        have hcz86_3 : wc.cell? ⟨gb148, 3, none⟩ = some (.int .i64 x149003_2) := (blk_cell BK148.out 3).trans rfl
                        have hcz86_4 : wc.cell? ⟨gb148, 4, none⟩ = some (.int .u64 x149004_2) := (blk_cell BK148.out 4).trans rfl
                        have hcz86_5 : wc.cell? ⟨gb148, 5, none⟩ = some (.int .u64 x149005_2) := (blk_cell BK148.out 5).trans rfl
                        have hcz86_6 : wc.cell? ⟨gb148, 6, none⟩ = some (.bool x149006_2) := (blk_cell BK148.out 6).trans rfl
                        have hcz86_7 : wc.cell? ⟨gb148, 7, none⟩ = some (.int .i64 x149007_2) := (blk_cell BK148.out 7).trans rfl
                        have hfz86_0 := blk_frozen BK148.out 0
                        have hfz86_1 := blk_frozen BK148.out 1
                        have hfz86_2 := blk_frozen BK148.out 2
                        have hfz86_3 := blk_frozen BK148.out 3
                        have hfz86_4 := blk_frozen BK148.out 4
                        have hfz86_5 := blk_frozen BK148.out 5
                        have hfz86_6 := blk_frozen BK148.out 6
                        have hfz86_7 := blk_frozen BK148.out 7
                        go_wp2_with (first | ((with_reducible refine gate_callee (f := 9) rfl ?_); refine goesL_ (some 66) rfl rfl Try.func9 (by kernel_rfl) rfl #[.agg #[.int .u64 x149004_2, .int .u64 x149005_2, .bool x149006_2, .int .i64 x149007_2]] rfl (by (try simp only [List.map_toArray, List.map_cons, List.map_nil]); first | done | rfl | (simp only [List.length_drop, List.length_take]; rfl)) ?_; (with_reducible refine (session_Hello.calls x149004_2 x149005_2 x149006_2 x149007_2 t165 t166 _ A83.out).mono ?_); rintro e w87 ⟨rfl, hb⟩; refine ⟨_, rfl, ?_⟩; have n0_ := Aside0.mk (blk_below (g := gb147) (o := .cells #[.int .u64 a0_0, .int .u64 a0_1] 23 (0, 0)) (by (with_reducible repeat (first | refine blk_drewN ?_ _ | refine blk_drew ?_ | refine blk_alloc ?_ _)); exact BK147.out) hb); have n1_ := Aside0.mk (blk_below (g := gb148) (o := .cells #[.int .u64 x149000_2, .int .u64 x149001_2, .bool x149002_2, .int .i64 x149003_2, .int .u64 x149004_2, .int .u64 x149005_2, .bool x149006_2, .int .i64 x149007_2] 27 (0, 0)) (by (with_reducible repeat (first | refine blk_drewN ?_ _ | refine blk_drew ?_ | refine blk_alloc ?_ _)); exact BK148.out) hb); have n2_ := Aside0.mk (below_step (by repeat (first | (with_reducible first | exact HB.out | apply below_alloc | apply pw_below_drewN | apply below_drew1 | refine below_set ?_ GE147.out | refine below_set ?_ GE148.out) | exact HB.out)) hb); clear BK147; clear BK148; clear HB; have BK147 := n0_; have BK148 := n1_; have HB := n2_; clear n0_ n1_ n2_; (try clear hb); (try clear hb2); (try clear hk); (try clear hi); have hcz88_0 : w87.cell? ⟨gb148, 0, none⟩ = some (.int .u64 x149000_2) := (blk_cell BK148.out 0).trans rfl; have hcz88_1 : w87.cell? ⟨gb148, 1, none⟩ = some (.int .u64 x149001_2) := (blk_cell BK148.out 1).trans rfl; have hcz88_2 : w87.cell? ⟨gb148, 2, none⟩ = some (.bool x149002_2) := (blk_cell BK148.out 2).trans rfl; have hcz88_3 : w87.cell? ⟨gb148, 3, none⟩ = some (.int .i64 x149003_2) := (blk_cell BK148.out 3).trans rfl; have hcz88_4 : w87.cell? ⟨gb148, 4, none⟩ = some (.int .u64 x149004_2) := (blk_cell BK148.out 4).trans rfl; have hcz88_5 : w87.cell? ⟨gb148, 5, none⟩ = some (.int .u64 x149005_2) := (blk_cell BK148.out 5).trans rfl; have hcz88_6 : w87.cell? ⟨gb148, 6, none⟩ = some (.bool x149006_2) := (blk_cell BK148.out 6).trans rfl; have hcz88_7 : w87.cell? ⟨gb148, 7, none⟩ = some (.int .i64 x149007_2) := (blk_cell BK148.out 7).trans rfl; have hfz88_0 := blk_frozen BK148.out 0; have hfz88_1 := blk_frozen BK148.out 1; have hfz88_2 := blk_frozen BK148.out 2; have hfz88_3 := blk_frozen BK148.out 3; have hfz88_4 := blk_frozen BK148.out 4; have hfz88_5 := blk_frozen BK148.out 5; have hfz88_6 := blk_frozen BK148.out 6; have hfz88_7 := blk_frozen BK148.out 7) | ((with_reducible refine gate_callee (f := 10) rfl ?_); refine goesL_ (some 76) rfl rfl Try.func10 (by kernel_rfl) rfl #[.agg #[.int .u64 x149000_2, .int .u64 x149001_2, .bool x149002_2, .int .i64 x149003_2], .int .u64 t165, .int .u64 t166] rfl (by (try simp only [List.map_toArray, List.map_cons, List.map_nil]); first | done | rfl | (simp only [List.length_drop, List.length_take]; rfl)) ?_; (with_reducible refine (session_Hear.calls kj77 x149000_2 x149001_2 x149002_2 x149003_2 t165 t166 t167 t168 t169 t170 t171 t172 _ A84.out).mono ?_); rintro e w89 ⟨rfl, hb⟩; refine ⟨_, rfl, ?_⟩; have n0_ := Aside0.mk (blk_below (g := gb147) (o := .cells #[.int .u64 a0_0, .int .u64 a0_1] 23 (0, 0)) (by (with_reducible repeat (first | refine blk_drewN ?_ _ | refine blk_drew ?_ | refine blk_alloc ?_ _)); exact BK147.out) hb); have n1_ := Aside0.mk (blk_below (g := gb148) (o := .cells #[.int .u64 x149000_2, .int .u64 x149001_2, .bool x149002_2, .int .i64 x149003_2, .int .u64 x149004_2, .int .u64 x149005_2, .bool x149006_2, .int .i64 x149007_2] 27 (0, 0)) (by (with_reducible repeat (first | refine blk_drewN ?_ _ | refine blk_drew ?_ | refine blk_alloc ?_ _)); exact BK148.out) hb); have n2_ := Aside0.mk (below_step (by repeat (first | (with_reducible first | exact HB.out | apply below_alloc | apply pw_below_drewN | apply below_drew1 | refine below_set ?_ GE147.out | refine below_set ?_ GE148.out) | exact HB.out)) hb); clear BK147; clear BK148; clear HB; have BK147 := n0_; have BK148 := n1_; have HB := n2_; clear n0_ n1_ n2_; (try clear hb); (try clear hb2); (try clear hk); (try clear hi); have hcz90_0 : w89.cell? ⟨gb148, 0, none⟩ = some (.int .u64 x149000_2) := (blk_cell BK148.out 0).trans rfl; have hcz90_1 : w89.cell? ⟨gb148, 1, none⟩ = some (.int .u64 x149001_2) := (blk_cell BK148.out 1).trans rfl; have hcz90_2 : w89.cell? ⟨gb148, 2, none⟩ = some (.bool x149002_2) := (blk_cell BK148.out 2).trans rfl; have hcz90_3 : w89.cell? ⟨gb148, 3, none⟩ = some (.int .i64 x149003_2) := (blk_cell BK148.out 3).trans rfl; have hcz90_4 : w89.cell? ⟨gb148, 4, none⟩ = some (.int .u64 x149004_2) := (blk_cell BK148.out 4).trans rfl; have hcz90_5 : w89.cell? ⟨gb148, 5, none⟩ = some (.int .u64 x149005_2) := (blk_cell BK148.out 5).trans rfl; have hcz90_6 : w89.cell? ⟨gb148, 6, none⟩ = some (.bool x149006_2) := (blk_cell BK148.out 6).trans rfl; have hcz90_7 : w89.cell? ⟨gb148, 7, none⟩ = some (.int .i64 x149007_2) := (blk_cell BK148.out 7).trans rfl; have hfz90_0 := blk_frozen BK148.out 0; have hfz90_1 := blk_frozen BK148.out 1; have hfz90_2 := blk_frozen BK148.out 2; have hfz90_3 := blk_frozen BK148.out 3; have hfz90_4 := blk_frozen BK148.out 4; have hfz90_5 := blk_frozen BK148.out 5; have hfz90_6 := blk_frozen BK148.out 6; have hfz90_7 := blk_frozen BK148.out 7) | ((with_reducible refine gate_store (t := 26) (p := 80) rfl ?_); refine store_event (t := 26) (p := 80) (v := ?vo_w91) (w1 := ((((w89.setCell ⟨gb148, 0, none⟩ (.int .u64 t167)).setCell ⟨gb148, 1, none⟩ (.int .u64 t168)).setCell ⟨gb148, 2, none⟩ (.bool t169)).setCell ⟨gb148, 3, none⟩ (.int .i64 t170))) ?hg ?ho ?hn ?hr ?_; (case ho => rfl); (case hg => rfl); (case hn => rfl); (case hr => first | (go_simp; done) | (go_simp; rfl)); intro w91 hw; have n0_ : Aside0 (w91.heap[gb147]? = some (.cells #[.int .u64 a0_0, .int .u64 a0_1] 23 (0, 0))) := ⟨(by rw [hw]; exact (by (with_reducible repeat (first | refine blk_drewN ?_ _ | refine blk_drew ?_ | refine blk_alloc ?_ _)); refine blk_far ?_ NB147_148.out _; (with_reducible repeat (first | refine blk_drewN ?_ _ | refine blk_drew ?_ | refine blk_alloc ?_ _)); refine blk_far ?_ NB147_148.out _; (with_reducible repeat (first | refine blk_drewN ?_ _ | refine blk_drew ?_ | refine blk_alloc ?_ _)); refine blk_far ?_ NB147_148.out _; (with_reducible repeat (first | refine blk_drewN ?_ _ | refine blk_drew ?_ | refine blk_alloc ?_ _)); refine blk_far ?_ NB147_148.out _; (with_reducible repeat (first | refine blk_drewN ?_ _ | refine blk_drew ?_ | refine blk_alloc ?_ _)); exact BK147.out))⟩; have n1_ : Aside0 (w91.heap[gb148]? = some (.cells #[.int .u64 t167, .int .u64 t168, .bool t169, .int .i64 t170, .int .u64 x149004_2, .int .u64 x149005_2, .bool x149006_2, .int .i64 x149007_2] 27 (0, 0))) := ⟨(by rw [hw]; exact (by (with_reducible repeat (first | refine blk_drewN ?_ _ | refine blk_drew ?_ | refine blk_alloc ?_ _)); refine blk_put (cs := #[.int .u64 t167, .int .u64 t168, .bool t169, .int .i64 x149003_2, .int .u64 x149004_2, .int .u64 x149005_2, .bool x149006_2, .int .i64 x149007_2]) ?_ 3 _ rfl; (with_reducible repeat (first | refine blk_drewN ?_ _ | refine blk_drew ?_ | refine blk_alloc ?_ _)); refine blk_put (cs := #[.int .u64 t167, .int .u64 t168, .bool x149002_2, .int .i64 x149003_2, .int .u64 x149004_2, .int .u64 x149005_2, .bool x149006_2, .int .i64 x149007_2]) ?_ 2 _ rfl; (with_reducible repeat (first | refine blk_drewN ?_ _ | refine blk_drew ?_ | refine blk_alloc ?_ _)); refine blk_put (cs := #[.int .u64 t167, .int .u64 x149001_2, .bool x149002_2, .int .i64 x149003_2, .int .u64 x149004_2, .int .u64 x149005_2, .bool x149006_2, .int .i64 x149007_2]) ?_ 1 _ rfl; (with_reducible repeat (first | refine blk_drewN ?_ _ | refine blk_drew ?_ | refine blk_alloc ?_ _)); refine blk_put (cs := #[.int .u64 x149000_2, .int .u64 x149001_2, .bool x149002_2, .int .i64 x149003_2, .int .u64 x149004_2, .int .u64 x149005_2, .bool x149006_2, .int .i64 x149007_2]) ?_ 0 _ rfl; (with_reducible repeat (first | refine blk_drewN ?_ _ | refine blk_drew ?_ | refine blk_alloc ?_ _)); exact BK148.out))⟩; have n2_ : Aside0 (Below w.heap.size w w91) := ⟨(by rw [hw]; exact (by repeat (first | (with_reducible first | exact HB.out | apply below_alloc | apply pw_below_drewN | apply below_drew1 | refine below_set ?_ GE147.out | refine below_set ?_ GE148.out) | exact HB.out)))⟩; clear hw; clear BK147; clear BK148; clear HB; have BK147 := n0_; have BK148 := n1_; have HB := n2_; clear n0_ n1_ n2_))
                        go_roundg kj77
                        case measure => have := HK1.out; have := HK2.out; have := HJ77.out; omega
                        case rel => exact ⟨(wrap64 (x9_2 + 1)), (t167), (t168), (t169), (t170), (x149004_2), (x149005_2), (x149006_2), (x149007_2), (by first | rfl | (simp; done) | (simp [*]; done)), H', ⟨by have := HK1.out; have := HK2.out; have := HJ77.out; omega⟩, ⟨by (with_reducible repeat (first | refine blk_drewN ?_ _ | refine blk_drew ?_ | refine blk_alloc ?_ _)); exact BK147.out⟩, ⟨by (with_reducible repeat (first | refine blk_drewN ?_ _ | refine blk_drew ?_ | refine blk_alloc ?_ _)); exact BK148.out⟩, ⟨by repeat (first | (with_reducible first | exact HB.out | apply below_alloc | apply pw_below_drewN | apply below_drew1 | refine below_set ?_ GE147.out | refine below_set ?_ GE148.out) | exact HB.out)⟩⟩
                      · rw [if_neg c82] at H
                        have c82b0 : ((Go.bits .and .i64 ((rd_T33 l1 x9_2).f0) 1) == 0) = false := beq_eq_false_iff_ne.mpr c82
                        have c82b1 : ((Go.bits .and .i64 ((rd_T33 l1 x9_2).f0) 1) != 0) = true := bne_iff_ne.mpr c82
                        by_cases c92 : (Go.bits .and .i64 ((rd_T33 l1 x9_2).f0) 1) = 1
                        · rw [if_pos c92] at H
                          have c92b0 : ((Go.bits .and .i64 ((rd_T33 l1 x9_2).f0) 1) == 1) = true := beq_iff_eq.mpr c92
                          have c92b1 : ((Go.bits .and .i64 ((rd_T33 l1 x9_2).f0) 1) != 1) = false := bne_eq_false_iff_eq.mpr c92
                          replace H := Option.bind_eq_some_iff.mp H
                          obtain ⟨⟨t173, t174⟩, A930, H⟩ := H
                          replace H : ((session_Hear.f kj77 x149004_2 x149005_2 x149006_2 x149007_2 t173 t174).bind fun bt175 => (beaconlaw12_SessionMeets.l1 kj77 l1 (wrap64 (x9_2 + 1)) x149000_2 x149001_2 x149002_2 x149003_2 bt175.1 bt175.2.1 bt175.2.2.1 bt175.2.2.2.1)) = some r := H
                          have A93 := Aside0.mk A930
                          clear A930
                          replace H := Option.bind_eq_some_iff.mp H
                          obtain ⟨⟨t175, t176, t177, t178, t179, t180⟩, A940, H⟩ := H
                          replace H : (beaconlaw12_SessionMeets.l1 kj77 l1 (wrap64 (x9_2 + 1)) x149000_2 x149001_2 x149002_2 x149003_2 t175 t176 t177 t178) = some r := H
                          have A94 := Aside0.mk A940
                          clear A940
                          have H' := Aside0.mk H
                          clear H
                          have hnb95 := NB148_147.out
                          have hnc95 := NB147_148.out
                          have hcz96_0 : wc.cell? ⟨gb148, 0, none⟩ = some (.int .u64 x149000_2) := (blk_cell BK148.out 0).trans rfl
                          have hcz96_1 : wc.cell? ⟨gb148, 1, none⟩ = some (.int .u64 x149001_2) := (blk_cell BK148.out 1).trans rfl
                          have hcz96_2 : wc.cell? ⟨gb148, 2, none⟩ = some (.bool x149002_2) := (blk_cell BK148.out 2).trans rfl
                          have hcz96_3 : wc.cell? ⟨gb148, 3, none⟩ = some (.int .i64 x149003_2) := (blk_cell BK148.out 3).trans rfl
                          have hcz96_4 : wc.cell? ⟨gb148, 4, none⟩ = some (.int .u64 x149004_2) := (blk_cell BK148.out 4).trans rfl
                          have hcz96_5 : wc.cell? ⟨gb148, 5, none⟩ = some (.int .u64 x149005_2) := (blk_cell BK148.out 5).trans rfl
                          have hcz96_6 : wc.cell? ⟨gb148, 6, none⟩ = some (.bool x149006_2) := (blk_cell BK148.out 6).trans rfl
                          have hcz96_7 : wc.cell? ⟨gb148, 7, none⟩ = some (.int .i64 x149007_2) := (blk_cell BK148.out 7).trans rfl
                          have hfz96_0 := blk_frozen BK148.out 0
                          have hfz96_1 := blk_frozen BK148.out 1
                          have hfz96_2 := blk_frozen BK148.out 2
                          have hfz96_3 := blk_frozen BK148.out 3
                          have hfz96_4 := blk_frozen BK148.out 4
                          have hfz96_5 := blk_frozen BK148.out 5
                          have hfz96_6 := blk_frozen BK148.out 6
                          have hfz96_7 := blk_frozen BK148.out 7
                          go_wp2_with (first | ((with_reducible refine gate_callee (f := 9) rfl ?_); refine goesL_ (some 66) rfl rfl Try.func9 (by kernel_rfl) rfl #[.agg #[.int .u64 x149000_2, .int .u64 x149001_2, .bool x149002_2, .int .i64 x149003_2]] rfl (by (try simp only [List.map_toArray, List.map_cons, List.map_nil]); first | done | rfl | (simp only [List.length_drop, List.length_take]; rfl)) ?_; (with_reducible refine (session_Hello.calls x149000_2 x149001_2 x149002_2 x149003_2 t173 t174 _ A93.out).mono ?_); rintro e w97 ⟨rfl, hb⟩; refine ⟨_, rfl, ?_⟩; have n0_ := Aside0.mk (blk_below (g := gb147) (o := .cells #[.int .u64 a0_0, .int .u64 a0_1] 23 (0, 0)) (by (with_reducible repeat (first | refine blk_drewN ?_ _ | refine blk_drew ?_ | refine blk_alloc ?_ _)); exact BK147.out) hb); have n1_ := Aside0.mk (blk_below (g := gb148) (o := .cells #[.int .u64 x149000_2, .int .u64 x149001_2, .bool x149002_2, .int .i64 x149003_2, .int .u64 x149004_2, .int .u64 x149005_2, .bool x149006_2, .int .i64 x149007_2] 27 (0, 0)) (by (with_reducible repeat (first | refine blk_drewN ?_ _ | refine blk_drew ?_ | refine blk_alloc ?_ _)); exact BK148.out) hb); have n2_ := Aside0.mk (below_step (by repeat (first | (with_reducible first | exact HB.out | apply below_alloc | apply pw_below_drewN | apply below_drew1 | refine below_set ?_ GE147.out | refine below_set ?_ GE148.out) | exact HB.out)) hb); clear BK147; clear BK148; clear HB; have BK147 := n0_; have BK148 := n1_; have HB := n2_; clear n0_ n1_ n2_; (try clear hb); (try clear hb2); (try clear hk); (try clear hi); have hcz98_0 : w97.cell? ⟨gb148, 0, none⟩ = some (.int .u64 x149000_2) := (blk_cell BK148.out 0).trans rfl; have hcz98_1 : w97.cell? ⟨gb148, 1, none⟩ = some (.int .u64 x149001_2) := (blk_cell BK148.out 1).trans rfl; have hcz98_2 : w97.cell? ⟨gb148, 2, none⟩ = some (.bool x149002_2) := (blk_cell BK148.out 2).trans rfl; have hcz98_3 : w97.cell? ⟨gb148, 3, none⟩ = some (.int .i64 x149003_2) := (blk_cell BK148.out 3).trans rfl; have hcz98_4 : w97.cell? ⟨gb148, 4, none⟩ = some (.int .u64 x149004_2) := (blk_cell BK148.out 4).trans rfl; have hcz98_5 : w97.cell? ⟨gb148, 5, none⟩ = some (.int .u64 x149005_2) := (blk_cell BK148.out 5).trans rfl; have hcz98_6 : w97.cell? ⟨gb148, 6, none⟩ = some (.bool x149006_2) := (blk_cell BK148.out 6).trans rfl; have hcz98_7 : w97.cell? ⟨gb148, 7, none⟩ = some (.int .i64 x149007_2) := (blk_cell BK148.out 7).trans rfl; have hfz98_0 := blk_frozen BK148.out 0; have hfz98_1 := blk_frozen BK148.out 1; have hfz98_2 := blk_frozen BK148.out 2; have hfz98_3 := blk_frozen BK148.out 3; have hfz98_4 := blk_frozen BK148.out 4; have hfz98_5 := blk_frozen BK148.out 5; have hfz98_6 := blk_frozen BK148.out 6; have hfz98_7 := blk_frozen BK148.out 7) | ((with_reducible refine gate_callee (f := 10) rfl ?_); refine goesL_ (some 76) rfl rfl Try.func10 (by kernel_rfl) rfl #[.agg #[.int .u64 x149004_2, .int .u64 x149005_2, .bool x149006_2, .int .i64 x149007_2], .int .u64 t173, .int .u64 t174] rfl (by (try simp only [List.map_toArray, List.map_cons, List.map_nil]); first | done | rfl | (simp only [List.length_drop, List.length_take]; rfl)) ?_; (with_reducible refine (session_Hear.calls kj77 x149004_2 x149005_2 x149006_2 x149007_2 t173 t174 t175 t176 t177 t178 t179 t180 _ A94.out).mono ?_); rintro e w99 ⟨rfl, hb⟩; refine ⟨_, rfl, ?_⟩; have n0_ := Aside0.mk (blk_below (g := gb147) (o := .cells #[.int .u64 a0_0, .int .u64 a0_1] 23 (0, 0)) (by (with_reducible repeat (first | refine blk_drewN ?_ _ | refine blk_drew ?_ | refine blk_alloc ?_ _)); exact BK147.out) hb); have n1_ := Aside0.mk (blk_below (g := gb148) (o := .cells #[.int .u64 x149000_2, .int .u64 x149001_2, .bool x149002_2, .int .i64 x149003_2, .int .u64 x149004_2, .int .u64 x149005_2, .bool x149006_2, .int .i64 x149007_2] 27 (0, 0)) (by (with_reducible repeat (first | refine blk_drewN ?_ _ | refine blk_drew ?_ | refine blk_alloc ?_ _)); exact BK148.out) hb); have n2_ := Aside0.mk (below_step (by repeat (first | (with_reducible first | exact HB.out | apply below_alloc | apply pw_below_drewN | apply below_drew1 | refine below_set ?_ GE147.out | refine below_set ?_ GE148.out) | exact HB.out)) hb); clear BK147; clear BK148; clear HB; have BK147 := n0_; have BK148 := n1_; have HB := n2_; clear n0_ n1_ n2_; (try clear hb); (try clear hb2); (try clear hk); (try clear hi); have hcz100_0 : w99.cell? ⟨gb148, 0, none⟩ = some (.int .u64 x149000_2) := (blk_cell BK148.out 0).trans rfl; have hcz100_1 : w99.cell? ⟨gb148, 1, none⟩ = some (.int .u64 x149001_2) := (blk_cell BK148.out 1).trans rfl; have hcz100_2 : w99.cell? ⟨gb148, 2, none⟩ = some (.bool x149002_2) := (blk_cell BK148.out 2).trans rfl; have hcz100_3 : w99.cell? ⟨gb148, 3, none⟩ = some (.int .i64 x149003_2) := (blk_cell BK148.out 3).trans rfl; have hcz100_4 : w99.cell? ⟨gb148, 4, none⟩ = some (.int .u64 x149004_2) := (blk_cell BK148.out 4).trans rfl; have hcz100_5 : w99.cell? ⟨gb148, 5, none⟩ = some (.int .u64 x149005_2) := (blk_cell BK148.out 5).trans rfl; have hcz100_6 : w99.cell? ⟨gb148, 6, none⟩ = some (.bool x149006_2) := (blk_cell BK148.out 6).trans rfl; have hcz100_7 : w99.cell? ⟨gb148, 7, none⟩ = some (.int .i64 x149007_2) := (blk_cell BK148.out 7).trans rfl; have hfz100_0 := blk_frozen BK148.out 0; have hfz100_1 := blk_frozen BK148.out 1; have hfz100_2 := blk_frozen BK148.out 2; have hfz100_3 := blk_frozen BK148.out 3; have hfz100_4 := blk_frozen BK148.out 4; have hfz100_5 := blk_frozen BK148.out 5; have hfz100_6 := blk_frozen BK148.out 6; have hfz100_7 := blk_frozen BK148.out 7) | ((with_reducible refine gate_store (t := 26) (p := 80) rfl ?_); refine store_event (t := 26) (p := 80) (v := ?vo_w101) (w1 := ((((w99.setCell ⟨gb148, 4, none⟩ (.int .u64 t175)).setCell ⟨gb148, 5, none⟩ (.int .u64 t176)).setCell ⟨gb148, 6, none⟩ (.bool t177)).setCell ⟨gb148, 7, none⟩ (.int .i64 t178))) ?hg ?ho ?hn ?hr ?_; (case ho => rfl); (case hg => rfl); (case hn => rfl); (case hr => first | (go_simp; done) | (go_simp; rfl)); intro w101 hw; have n0_ : Aside0 (w101.heap[gb147]? = some (.cells #[.int .u64 a0_0, .int .u64 a0_1] 23 (0, 0))) := ⟨(by rw [hw]; exact (by (with_reducible repeat (first | refine blk_drewN ?_ _ | refine blk_drew ?_ | refine blk_alloc ?_ _)); refine blk_far ?_ NB147_148.out _; (with_reducible repeat (first | refine blk_drewN ?_ _ | refine blk_drew ?_ | refine blk_alloc ?_ _)); refine blk_far ?_ NB147_148.out _; (with_reducible repeat (first | refine blk_drewN ?_ _ | refine blk_drew ?_ | refine blk_alloc ?_ _)); refine blk_far ?_ NB147_148.out _; (with_reducible repeat (first | refine blk_drewN ?_ _ | refine blk_drew ?_ | refine blk_alloc ?_ _)); refine blk_far ?_ NB147_148.out _; (with_reducible repeat (first | refine blk_drewN ?_ _ | refine blk_drew ?_ | refine blk_alloc ?_ _)); exact BK147.out))⟩; have n1_ : Aside0 (w101.heap[gb148]? = some (.cells #[.int .u64 x149000_2, .int .u64 x149001_2, .bool x149002_2, .int .i64 x149003_2, .int .u64 t175, .int .u64 t176, .bool t177, .int .i64 t178] 27 (0, 0))) := ⟨(by rw [hw]; exact (by (with_reducible repeat (first | refine blk_drewN ?_ _ | refine blk_drew ?_ | refine blk_alloc ?_ _)); refine blk_put (cs := #[.int .u64 x149000_2, .int .u64 x149001_2, .bool x149002_2, .int .i64 x149003_2, .int .u64 t175, .int .u64 t176, .bool t177, .int .i64 x149007_2]) ?_ 7 _ rfl; (with_reducible repeat (first | refine blk_drewN ?_ _ | refine blk_drew ?_ | refine blk_alloc ?_ _)); refine blk_put (cs := #[.int .u64 x149000_2, .int .u64 x149001_2, .bool x149002_2, .int .i64 x149003_2, .int .u64 t175, .int .u64 t176, .bool x149006_2, .int .i64 x149007_2]) ?_ 6 _ rfl; (with_reducible repeat (first | refine blk_drewN ?_ _ | refine blk_drew ?_ | refine blk_alloc ?_ _)); refine blk_put (cs := #[.int .u64 x149000_2, .int .u64 x149001_2, .bool x149002_2, .int .i64 x149003_2, .int .u64 t175, .int .u64 x149005_2, .bool x149006_2, .int .i64 x149007_2]) ?_ 5 _ rfl; (with_reducible repeat (first | refine blk_drewN ?_ _ | refine blk_drew ?_ | refine blk_alloc ?_ _)); refine blk_put (cs := #[.int .u64 x149000_2, .int .u64 x149001_2, .bool x149002_2, .int .i64 x149003_2, .int .u64 x149004_2, .int .u64 x149005_2, .bool x149006_2, .int .i64 x149007_2]) ?_ 4 _ rfl; (with_reducible repeat (first | refine blk_drewN ?_ _ | refine blk_drew ?_ | refine blk_alloc ?_ _)); exact BK148.out))⟩; have n2_ : Aside0 (Below w.heap.size w w101) := ⟨(by rw [hw]; exact (by repeat (first | (with_reducible first | exact HB.out | apply below_alloc | apply pw_below_drewN | apply below_drew1 | refine below_set ?_ GE147.out | refine below_set ?_ GE148.out) | exact HB.out)))⟩; clear hw; clear BK147; clear BK148; clear HB; have BK147 := n0_; have BK148 := n1_; have HB := n2_; clear n0_ n1_ n2_))
                          go_roundg kj77
                          case measure => have := HK1.out; have := HK2.out; have := HJ77.out; omega
                          case rel => exact ⟨(wrap64 (x9_2 + 1)), (x149000_2), (x149001_2), (x149002_2), (x149003_2), (t175), (t176), (t177), (t178), (by first | rfl | (simp; done) | (simp [*]; done)), H', ⟨by have := HK1.out; have := HK2.out; have := HJ77.out; omega⟩, ⟨by (with_reducible repeat (first | refine blk_drewN ?_ _ | refine blk_drew ?_ | refine blk_alloc ?_ _)); exact BK147.out⟩, ⟨by (with_reducible repeat (first | refine blk_drewN ?_ _ | refine blk_drew ?_ | refine blk_alloc ?_ _)); exact BK148.out⟩, ⟨by repeat (first | (with_reducible first | exact HB.out | apply below_alloc | apply pw_below_drewN | apply below_drew1 | refine below_set ?_ GE147.out | refine below_set ?_ GE148.out) | exact HB.out)⟩⟩
                        · rw [if_neg c92] at H
                          exact absurd H (by simp)
                    · replace c81 := Bool.eq_false_iff.mpr c81
                      subst c81
                      have H1 : (if ((rd_T33 l1 x9_2).f1) = 3 then (if (Go.bits .and .i64 ((rd_T33 l1 x9_2).f0) 1) = 0 then (if 0 ≤ x9_2 then (if x9_2 < (l1.length : Int) then ((session_Tick.f x149000_2 x149001_2 x149002_2 x149003_2 ((rd_T33 l1 x9_2).f3)).bind fun bt182 => (beaconlaw12_SessionMeets.l1 kj77 l1 (wrap64 (x9_2 + 1)) bt182.1 bt182.2.1 bt182.2.2.1 bt182.2.2.2.1 x149004_2 x149005_2 x149006_2 x149007_2)) else (none)) else (none)) else (if (Go.bits .and .i64 ((rd_T33 l1 x9_2).f0) 1) = 1 then (if 0 ≤ x9_2 then (if x9_2 < (l1.length : Int) then ((session_Tick.f x149004_2 x149005_2 x149006_2 x149007_2 ((rd_T33 l1 x9_2).f3)).bind fun bt188 => (beaconlaw12_SessionMeets.l1 kj77 l1 (wrap64 (x9_2 + 1)) x149000_2 x149001_2 x149002_2 x149003_2 bt188.1 bt188.2.1 bt188.2.2.1 bt188.2.2.2.1)) else (none)) else (none)) else (none))) else (if ((rd_T33 l1 x9_2).f1) = 4 then (if (Go.bits .and .i64 ((rd_T33 l1 x9_2).f0) 1) = 0 then ((session_Down.f x149000_2 x149001_2 x149002_2 x149003_2).bind fun bt193 => (beaconlaw12_SessionMeets.l1 kj77 l1 (wrap64 (x9_2 + 1)) bt193.1 bt193.2.1 bt193.2.2.1 bt193.2.2.2 x149004_2 x149005_2 x149006_2 x149007_2)) else (if (Go.bits .and .i64 ((rd_T33 l1 x9_2).f0) 1) = 1 then ((session_Down.f x149004_2 x149005_2 x149006_2 x149007_2).bind fun bt197 => (beaconlaw12_SessionMeets.l1 kj77 l1 (wrap64 (x9_2 + 1)) x149000_2 x149001_2 x149002_2 x149003_2 bt197.1 bt197.2.1 bt197.2.2.1 bt197.2.2.2)) else (none))) else (beaconlaw12_SessionMeets.l1 kj77 l1 (wrap64 (x9_2 + 1)) x149000_2 x149001_2 x149002_2 x149003_2 x149004_2 x149005_2 x149006_2 x149007_2))) = some r := by rw [if_neg (show ¬ (false = true) by decide)] at H; exact H
                      clear H
                      have H := H1
                      clear H1
                      by_cases c102 : ((rd_T33 l1 x9_2).f1) = 3
                      · rw [if_pos c102] at H
                        have c102b0 : (((rd_T33 l1 x9_2).f1) == 3) = true := beq_iff_eq.mpr c102
                        have c102b1 : (((rd_T33 l1 x9_2).f1) != 3) = false := bne_eq_false_iff_eq.mpr c102
                        clear c102
                        by_cases c103 : (Go.bits .and .i64 ((rd_T33 l1 x9_2).f0) 1) = 0
                        · rw [if_pos c103] at H
                          have c103b0 : ((Go.bits .and .i64 ((rd_T33 l1 x9_2).f0) 1) == 0) = true := beq_iff_eq.mpr c103
                          have c103b1 : ((Go.bits .and .i64 ((rd_T33 l1 x9_2).f0) 1) != 0) = false := bne_eq_false_iff_eq.mpr c103
                          by_cases c104 : 0 ≤ x9_2
                          · rw [if_pos c104] at H
                            have c104b0 : decide (0 ≤ x9_2) = true := decide_eq_true c104
                            clear c104
                            by_cases c105 : x9_2 < (l1.length : Int)
                            · rw [if_pos c105] at H
                              have c105b0 : decide (x9_2 < (l1.length : Int)) = true := decide_eq_true c105
                              clear c105
                              replace H := Option.bind_eq_some_iff.mp H
                              obtain ⟨⟨t182, t183, t184, t185, t186⟩, A1060, H⟩ := H
                              replace H : (beaconlaw12_SessionMeets.l1 kj77 l1 (wrap64 (x9_2 + 1)) t182 t183 t184 t185 x149004_2 x149005_2 x149006_2 x149007_2) = some r := H
                              have A106 := Aside0.mk A1060
                              clear A1060
                              have H' := Aside0.mk H
                              clear H
                              try go_wp2
                              have n0_ := Aside0.mk (blk_drew BK147.out)
                              have n1_ := Aside0.mk (blk_drew BK148.out)
                              have n2_ := Aside0.mk (below_drew1 HB.out)
                              clear BK147
                              clear BK148
                              clear HB
                              have BK147 := n0_
                              have BK148 := n1_
                              have HB := n2_
                              clear n0_ n1_ n2_
                              have p181 : 0 ≤ (x9_2 : Int) := of_decide_eq_true (by first | (with_reducible assumption) | assumption)
                              have q181 : x9_2 < (l1.length : Int) := of_decide_eq_true (by first | (with_reducible assumption) | assumption)
                              obtain ⟨ad181, e181, hx181_0, hx181_1, hx181_2, hx181_3⟩ := at_T33 HR1.out x9_2 p181 q181
                              have hw181_3 := hx181_3
                              have hw181_2 := hx181_2
                              have hw181_1 := hx181_1
                              have hw181_0 := hx181_0
                              obtain rfl : ad163 = ad181 := (by injection e181)
                              replace hx181_0 := (HB.out.cell (World.block_lt_of_cell? w _ hx181_0)).trans hx181_0
                              replace hx181_1 := (HB.out.cell (World.block_lt_of_cell? w _ hx181_1)).trans hx181_1
                              replace hx181_2 := (HB.out.cell (World.block_lt_of_cell? w _ hx181_2)).trans hx181_2
                              replace hx181_3 := (HB.out.cell (World.block_lt_of_cell? w _ hx181_3)).trans hx181_3
                              replace p181 := eq_true p181
                              replace q181 := eq_true q181
                              refine start_ (n := 15) (S := fun w' => w'.cell? ⟨gb148, 0, none⟩ = some (.int .u64 x149000_2) ∧ w'.cell? ⟨gb148, 1, none⟩ = some (.int .u64 x149001_2) ∧ w'.cell? ⟨gb148, 2, none⟩ = some (.bool x149002_2) ∧ w'.cell? ⟨gb148, 3, none⟩ = some (.int .i64 x149003_2) ∧ w'.cell? ⟨gb148, 4, none⟩ = some (.int .u64 x149004_2) ∧ w'.cell? ⟨gb148, 5, none⟩ = some (.int .u64 x149005_2) ∧ w'.cell? ⟨gb148, 6, none⟩ = some (.bool x149006_2) ∧ w'.cell? ⟨gb148, 7, none⟩ = some (.int .i64 x149007_2) ∧ w'.cell? (ad163.add ((x9_2).toNat * 4)) = some (.int .i64 ((rd_T33 l1 x9_2).f0)) ∧ w'.cell? ⟨(ad163.add ((x9_2).toNat * 4)).block, (ad163.add ((x9_2).toNat * 4)).off + 1, none⟩ = some (.int .i64 ((rd_T33 l1 x9_2).f1)) ∧ w'.cell? ⟨(ad163.add ((x9_2).toNat * 4)).block, (ad163.add ((x9_2).toNat * 4)).off + 2, none⟩ = some (.int .i64 ((rd_T33 l1 x9_2).f2)) ∧ w'.cell? ⟨(ad163.add ((x9_2).toNat * 4)).block, (ad163.add ((x9_2).toNat * 4)).off + 3, none⟩ = some (.int .i64 ((rd_T33 l1 x9_2).f3))) (ds := [14]) #[false, false, false, false, false, false, false, false, false, false, false, false, false, false, false] (by kernel_rfl) rfl rfl ⟨(blk_cell BK148.out 0).trans rfl, (blk_cell BK148.out 1).trans rfl, (blk_cell BK148.out 2).trans rfl, (blk_cell BK148.out 3).trans rfl, (blk_cell BK148.out 4).trans rfl, (blk_cell BK148.out 5).trans rfl, (blk_cell BK148.out 6).trans rfl, (blk_cell BK148.out 7).trans rfl, ((HB.out.cell (World.block_lt_of_cell? w _ hw181_0)).trans hw181_0), ((HB.out.cell (World.block_lt_of_cell? w _ hw181_1)).trans hw181_1), ((HB.out.cell (World.block_lt_of_cell? w _ hw181_2)).trans hw181_2), ((HB.out.cell (World.block_lt_of_cell? w _ hw181_3)).trans hw181_3)⟩ (fun hHeld => ?_); refine with_tabW beaconlaw12_SessionMeets.tab20 beaconlaw12_SessionMeets.bits20 (fun HT_ HW_ => ?_)
                              generalize wc.drew = w107 at BK147 BK148 HB hx181_0 hx181_1 hx181_2 hx181_3 hHeld ⊢
                              refine pure_ (i := 0) (N := some 84) (v := ?_) (a' := ?_) #[true, false, false, false, false, false, false, false, false, false, false, false, false, false, false] rfl rfl (any_of HT_.out (by kernel_rfl)) (fun _ _ _ h => h) (Or.inl ⟨by rfl, ?_⟩) ?_ ?_
                              rotate_left
                              · intro w'
                                go_simp
                                with_reducible rfl
                              rotate_left
                              · simp only [Act.put, List.setIfInBounds_toArray, List.set_cons_zero, List.set_cons_succ, i64_w, i32_w]
                                rfl
                              refine pure_ (i := 1) (N := some 85) (v := ?_) (a' := ?_) #[true, true, false, false, false, false, false, false, false, false, false, false, false, false, false] rfl rfl (any_of HT_.out (by kernel_rfl)) (fun _ _ _ h => h) (Or.inl ⟨by rfl, ?_⟩) ?_ ?_
                              rotate_left
                              · intro w'
                                go_simp
                                with_reducible rfl
                              rotate_left
                              · simp only [Act.put, List.setIfInBounds_toArray, List.set_cons_zero, List.set_cons_succ, i64_w, i32_w]
                                rfl
                              refine pure_ (i := 2) (N := some 86) (v := ?_) (a' := ?_) #[true, true, true, false, false, false, false, false, false, false, false, false, false, false, false] rfl rfl (any_of HT_.out (by kernel_rfl)) (fun _ _ _ h => h) (Or.inl ⟨by rfl, ?_⟩) ?_ ?_
                              rotate_left
                              · intro w'
                                go_simp
                                with_reducible rfl
                              rotate_left
                              · simp only [Act.put, List.setIfInBounds_toArray, List.set_cons_zero, List.set_cons_succ, i64_w, i32_w]
                                rfl
                              refine pure_ (i := 4) (N := some 88) (v := ?_) (a' := ?_) #[true, true, true, false, true, false, false, false, false, false, false, false, false, false, false] rfl rfl (any_of HT_.out (by kernel_rfl)) (fun _ _ _ h => h) (Or.inl ⟨by rfl, ?_⟩) ?_ ?_
                              rotate_left
                              · intro w'
                                go_simp
                                with_reducible rfl
                              rotate_left
                              · simp only [Act.put, List.setIfInBounds_toArray, List.set_cons_zero, List.set_cons_succ, i64_w, i32_w]
                                rfl
                              refine pure_ (i := 5) (N := some 89) (v := ?_) (a' := ?_) #[true, true, true, false, true, true, false, false, false, false, false, false, false, false, false] rfl rfl (any_of HT_.out (by kernel_rfl)) (fun _ _ _ h => h) (Or.inl ⟨by rfl, ?_⟩) ?_ ?_
                              rotate_left
                              · intro w'
                                go_simp
                                with_reducible rfl
                              rotate_left
                              · simp only [Act.put, List.setIfInBounds_toArray, List.set_cons_zero, List.set_cons_succ, i64_w, i32_w]
                                rfl
                              refine pure_ (i := 6) (N := some 90) (v := ?_) (a' := ?_) #[true, true, true, false, true, true, true, false, false, false, false, false, false, false, false] rfl rfl (any_of HT_.out (by kernel_rfl)) (fun _ _ _ h => h) (Or.inl ⟨by rfl, ?_⟩) ?_ ?_
                              rotate_left
                              · intro w'
                                go_simp
                                with_reducible rfl
                              rotate_left
                              · simp only [Act.put, List.setIfInBounds_toArray, List.set_cons_zero, List.set_cons_succ, i64_w, i32_w]
                                rfl
                              refine pure_ (i := 7) (N := some 91) (v := ?_) (a' := ?_) #[true, true, true, false, true, true, true, true, false, false, false, false, false, false, false] rfl rfl (any_of HT_.out (by kernel_rfl)) (fun _ _ _ h => h) (Or.inl ⟨by rfl, ?_⟩) ?_ ?_
                              rotate_left
                              · intro w'
                                go_simp
                                with_reducible rfl
                              rotate_left
                              · simp only [Act.put, List.setIfInBounds_toArray, List.set_cons_zero, List.set_cons_succ, i64_w, i32_w]
                                rfl
                              refine take_ (i := 3) (N := some 87) (v := ?_) (a' := ?_) #[true, true, true, true, true, true, true, true, false, false, false, false, false, false, false] rfl rfl (take_ofW HT_.out HW_.out (by kernel_rfl)) (fun _ _ _ h => h) (Or.inl ⟨by rfl, ?_⟩) hHeld ?_ ?_
                              rotate_left
                              · rintro w' ⟨s0, s1, s2, s3, s4, s5, s6, s7, s8, s9, s10, s11⟩
                                go_simp
                                with_reducible rfl
                              rotate_left
                              · simp only [Act.put, List.setIfInBounds_toArray, List.set_cons_zero, List.set_cons_succ, i64_w, i32_w]
                                rfl
                              refine take_ (i := 8) (N := some 92) (v := ?_) (a' := ?_) #[true, true, true, true, true, true, true, true, true, false, false, false, false, false, false] rfl rfl (take_ofW HT_.out HW_.out (by kernel_rfl)) (fun _ _ _ h => h) (Or.inl ⟨by rfl, ?_⟩) hHeld ?_ ?_
                              rotate_left
                              · rintro w' ⟨s0, s1, s2, s3, s4, s5, s6, s7, s8, s9, s10, s11⟩
                                go_simp
                                with_reducible rfl
                              rotate_left
                              · simp only [Act.put, List.setIfInBounds_toArray, List.set_cons_zero, List.set_cons_succ, i64_w, i32_w]
                                rfl
                              refine one_ (i := 9) (N := some 93) #[true, true, true, true, true, true, true, true, true, true, false, false, false, false, false] rfl rfl (one_of HT_.out (by kernel_rfl)) (by decide) (fun K hK => ?_)
                              refine goes_ Try.func11 (by kernel_rfl) rfl #[.agg #[.int .u64 x149000_2, .int .u64 x149001_2, .bool x149002_2, .int .i64 x149003_2], .int .i64 ((rd_T33 l1 x9_2).f3)] (by rfl) rfl rfl (by (try simp only [List.map_toArray, List.map_cons, List.map_nil]); first | done | rfl | (simp only [List.length_drop, List.length_take]; rfl)) ?_
                              with_reducible refine (session_Tick.calls x149000_2 x149001_2 x149002_2 x149003_2 ((rd_T33 l1 x9_2).f3) t182 t183 t184 t185 t186 _ A106.out).mono ?_
                              rintro e w108 ⟨rfl, hb⟩
                              refine ⟨_, rfl, ?_⟩
                              have n0_ := Aside0.mk (blk_below (g := gb147) (o := .cells #[.int .u64 a0_0, .int .u64 a0_1] 23 (0, 0)) (by (with_reducible repeat (first | refine blk_drewN ?_ _ | refine blk_drew ?_ | refine blk_alloc ?_ _)); exact BK147.out) hb)
                              have n1_ := Aside0.mk (blk_below (g := gb148) (o := .cells #[.int .u64 x149000_2, .int .u64 x149001_2, .bool x149002_2, .int .i64 x149003_2, .int .u64 x149004_2, .int .u64 x149005_2, .bool x149006_2, .int .i64 x149007_2] 27 (0, 0)) (by (with_reducible repeat (first | refine blk_drewN ?_ _ | refine blk_drew ?_ | refine blk_alloc ?_ _)); exact BK148.out) hb)
                              have n2_ := Aside0.mk (below_step (by repeat (first | (with_reducible first | exact HB.out | apply below_alloc | apply pw_below_drewN | apply below_drew1 | refine below_set ?_ GE147.out | refine below_set ?_ GE148.out) | exact HB.out)) hb)
                              clear BK147
                              clear BK148
                              clear HB
                              have BK147 := n0_
                              have BK148 := n1_
                              have HB := n2_
                              clear n0_ n1_ n2_
                              (try clear hb)
                              (try clear hb2)
                              (try clear hk)
                              (try clear hi)
                              refine hK.out _ _ ⟨(blk_cell BK148.out 0).trans rfl, (blk_cell BK148.out 1).trans rfl, (blk_cell BK148.out 2).trans rfl, (blk_cell BK148.out 3).trans rfl, (blk_cell BK148.out 4).trans rfl, (blk_cell BK148.out 5).trans rfl, (blk_cell BK148.out 6).trans rfl, (blk_cell BK148.out 7).trans rfl, ((HB.out.cell (World.block_lt_of_cell? w _ hw181_0)).trans hw181_0), ((HB.out.cell (World.block_lt_of_cell? w _ hw181_1)).trans hw181_1), ((HB.out.cell (World.block_lt_of_cell? w _ hw181_2)).trans hw181_2), ((HB.out.cell (World.block_lt_of_cell? w _ hw181_3)).trans hw181_3)⟩ (fun hHeld => ?_)
                              clear hK K
                              refine norm_ (a' := ?_) ?_ ?_
                              rotate_left
                              · show Act.put _ (some 93) _ = _
                                simp only [Act.put, List.setIfInBounds_toArray, List.set_cons_zero, List.set_cons_succ, i64_w, i32_w]
                                rfl
                              refine pure_ (i := 10) (N := some 83) (v := ?_) (a' := ?_) #[true, true, true, true, true, true, true, true, true, true, true, false, false, false, false] rfl rfl (any_of HT_.out (by kernel_rfl)) (fun _ _ _ h => h) (Or.inl ⟨by rfl, ?_⟩) ?_ ?_
                              rotate_left
                              · intro w'
                                go_simp
                                with_reducible rfl
                              rotate_left
                              · simp only [Act.put, List.setIfInBounds_toArray, List.set_cons_zero, List.set_cons_succ, i64_w, i32_w]
                                rfl
                              refine pure_ (i := 11) (N := some 94) (v := ?_) (a' := ?_) #[true, true, true, true, true, true, true, true, true, true, true, true, false, false, false] rfl rfl (any_of HT_.out (by kernel_rfl)) (fun _ _ _ h => h) (Or.inl ⟨by rfl, ?_⟩) ?_ ?_
                              rotate_left
                              · intro w'
                                go_simp
                                with_reducible rfl
                              rotate_left
                              · simp only [Act.put, List.setIfInBounds_toArray, List.set_cons_zero, List.set_cons_succ, i64_w, i32_w]
                                rfl
                              refine pure_ (i := 12) (N := some 95) (v := ?_) (a' := ?_) #[true, true, true, true, true, true, true, true, true, true, true, true, true, false, false] rfl rfl (any_of HT_.out (by kernel_rfl)) (fun _ _ _ h => h) (Or.inl ⟨by rfl, ?_⟩) ?_ ?_
                              rotate_left
                              · intro w'
                                go_simp
                                with_reducible rfl
                              rotate_left
                              · simp only [Act.put, List.setIfInBounds_toArray, List.set_cons_zero, List.set_cons_succ, i64_w, i32_w]
                                rfl
                              refine pure_ (i := 13) (N := some 96) (v := ?_) (a' := ?_) #[true, true, true, true, true, true, true, true, true, true, true, true, true, true, false] rfl rfl (any_of HT_.out (by kernel_rfl)) (fun _ _ _ h => h) (Or.inl ⟨by rfl, ?_⟩) ?_ ?_
                              rotate_left
                              · intro w'
                                go_simp
                                with_reducible rfl
                              rotate_left
                              · simp only [Act.put, List.setIfInBounds_toArray, List.set_cons_zero, List.set_cons_succ, i64_w, i32_w]
                                rfl
                              refine last_ (i := 14) (N := none) #[true, true, true, true, true, true, true, true, true, true, true, true, true, true, true] rfl rfl (one_of HT_.out (by kernel_rfl)) (by decide) (fun K hK => ?_)
                              have hs109 : w108.cell? ⟨gb148, 0, none⟩ = some (.int .u64 x149000_2) := (blk_cell BK148.out 0).trans rfl
                              have hfs109 := blk_frozen BK148.out 0
                              have hns109_0 := NB147_148.out
                              have hms109_0 := NB148_147.out
                              have hs110 : w108.cell? ⟨gb148, 1, none⟩ = some (.int .u64 x149001_2) := (blk_cell BK148.out 1).trans rfl
                              have hfs110 := blk_frozen BK148.out 1
                              have hns110_0 := NB147_148.out
                              have hms110_0 := NB148_147.out
                              have hs111 : w108.cell? ⟨gb148, 2, none⟩ = some (.bool x149002_2) := (blk_cell BK148.out 2).trans rfl
                              have hfs111 := blk_frozen BK148.out 2
                              have hns111_0 := NB147_148.out
                              have hms111_0 := NB148_147.out
                              have hs112 : w108.cell? ⟨gb148, 3, none⟩ = some (.int .i64 x149003_2) := (blk_cell BK148.out 3).trans rfl
                              have hfs112 := blk_frozen BK148.out 3
                              have hns112_0 := NB147_148.out
                              have hms112_0 := NB148_147.out
                              refine skip_ (w1 := ?_) (by rfl) rfl ?_ ?_
                              rotate_left
                              · go_simp
                                rfl
                              refine hK.out _ _ ?_
                              clear hK K
                              refine done_ (done_of HT_.out (by kernel_rfl)) ?_
                              try go_wp2
                              go_roundg kj77
                              case measure => have := HK1.out; have := HK2.out; have := HJ77.out; omega
                              case rel => exact ⟨(wrap64 (x9_2 + 1)), (t182), (t183), (t184), (t185), (x149004_2), (x149005_2), (x149006_2), (x149007_2), (by first | rfl | (simp; done) | (simp [*]; done)), H', ⟨by have := HK1.out; have := HK2.out; have := HJ77.out; omega⟩, ⟨by (with_reducible repeat (first | refine blk_drewN ?_ _ | refine blk_drew ?_ | refine blk_alloc ?_ _)); refine blk_far ?_ NB147_148.out _; (with_reducible repeat (first | refine blk_drewN ?_ _ | refine blk_drew ?_ | refine blk_alloc ?_ _)); refine blk_far ?_ NB147_148.out _; (with_reducible repeat (first | refine blk_drewN ?_ _ | refine blk_drew ?_ | refine blk_alloc ?_ _)); refine blk_far ?_ NB147_148.out _; (with_reducible repeat (first | refine blk_drewN ?_ _ | refine blk_drew ?_ | refine blk_alloc ?_ _)); refine blk_far ?_ NB147_148.out _; (with_reducible repeat (first | refine blk_drewN ?_ _ | refine blk_drew ?_ | refine blk_alloc ?_ _)); exact BK147.out⟩, ⟨by (with_reducible repeat (first | refine blk_drewN ?_ _ | refine blk_drew ?_ | refine blk_alloc ?_ _)); refine blk_put (cs := #[.int .u64 t182, .int .u64 t183, .bool t184, .int .i64 x149003_2, .int .u64 x149004_2, .int .u64 x149005_2, .bool x149006_2, .int .i64 x149007_2]) ?_ 3 _ rfl; (with_reducible repeat (first | refine blk_drewN ?_ _ | refine blk_drew ?_ | refine blk_alloc ?_ _)); refine blk_put (cs := #[.int .u64 t182, .int .u64 t183, .bool x149002_2, .int .i64 x149003_2, .int .u64 x149004_2, .int .u64 x149005_2, .bool x149006_2, .int .i64 x149007_2]) ?_ 2 _ rfl; (with_reducible repeat (first | refine blk_drewN ?_ _ | refine blk_drew ?_ | refine blk_alloc ?_ _)); refine blk_put (cs := #[.int .u64 t182, .int .u64 x149001_2, .bool x149002_2, .int .i64 x149003_2, .int .u64 x149004_2, .int .u64 x149005_2, .bool x149006_2, .int .i64 x149007_2]) ?_ 1 _ rfl; (with_reducible repeat (first | refine blk_drewN ?_ _ | refine blk_drew ?_ | refine blk_alloc ?_ _)); refine blk_put (cs := #[.int .u64 x149000_2, .int .u64 x149001_2, .bool x149002_2, .int .i64 x149003_2, .int .u64 x149004_2, .int .u64 x149005_2, .bool x149006_2, .int .i64 x149007_2]) ?_ 0 _ rfl; (with_reducible repeat (first | refine blk_drewN ?_ _ | refine blk_drew ?_ | refine blk_alloc ?_ _)); exact BK148.out⟩, ⟨by repeat (first | (with_reducible first | exact HB.out | apply below_alloc | apply pw_below_drewN | apply below_drew1 | refine below_set ?_ GE147.out | refine below_set ?_ GE148.out) | exact HB.out)⟩⟩
                            · rw [if_neg c105] at H
                              exact absurd H (by simp)
                          · rw [if_neg c104] at H
                            exact absurd H (by simp)
                        · rw [if_neg c103] at H
                          have c103b0 : ((Go.bits .and .i64 ((rd_T33 l1 x9_2).f0) 1) == 0) = false := beq_eq_false_iff_ne.mpr c103
                          have c103b1 : ((Go.bits .and .i64 ((rd_T33 l1 x9_2).f0) 1) != 0) = true := bne_iff_ne.mpr c103
                          by_cases c113 : (Go.bits .and .i64 ((rd_T33 l1 x9_2).f0) 1) = 1
                          · rw [if_pos c113] at H
                            have c113b0 : ((Go.bits .and .i64 ((rd_T33 l1 x9_2).f0) 1) == 1) = true := beq_iff_eq.mpr c113
                            have c113b1 : ((Go.bits .and .i64 ((rd_T33 l1 x9_2).f0) 1) != 1) = false := bne_eq_false_iff_eq.mpr c113
                            by_cases c114 : 0 ≤ x9_2
                            · rw [if_pos c114] at H
                              have c114b0 : decide (0 ≤ x9_2) = true := decide_eq_true c114
                              clear c114
                              by_cases c115 : x9_2 < (l1.length : Int)
                              · rw [if_pos c115] at H
                                have c115b0 : decide (x9_2 < (l1.length : Int)) = true := decide_eq_true c115
                                clear c115
                                replace H := Option.bind_eq_some_iff.mp H
                                obtain ⟨⟨t188, t189, t190, t191, t192⟩, A1160, H⟩ := H
                                replace H : (beaconlaw12_SessionMeets.l1 kj77 l1 (wrap64 (x9_2 + 1)) x149000_2 x149001_2 x149002_2 x149003_2 t188 t189 t190 t191) = some r := H
                                have A116 := Aside0.mk A1160
                                clear A1160
                                have H' := Aside0.mk H
                                clear H
                                try go_wp2
                                have n0_ := Aside0.mk (blk_drew BK147.out)
                                have n1_ := Aside0.mk (blk_drew BK148.out)
                                have n2_ := Aside0.mk (below_drew1 HB.out)
                                clear BK147
                                clear BK148
                                clear HB
                                have BK147 := n0_
                                have BK148 := n1_
                                have HB := n2_
                                clear n0_ n1_ n2_
                                have p187 : 0 ≤ (x9_2 : Int) := of_decide_eq_true (by first | (with_reducible assumption) | assumption)
                                have q187 : x9_2 < (l1.length : Int) := of_decide_eq_true (by first | (with_reducible assumption) | assumption)
                                obtain ⟨ad187, e187, hx187_0, hx187_1, hx187_2, hx187_3⟩ := at_T33 HR1.out x9_2 p187 q187
                                have hw187_3 := hx187_3
                                have hw187_2 := hx187_2
                                have hw187_1 := hx187_1
                                have hw187_0 := hx187_0
                                obtain rfl : ad163 = ad187 := (by injection e187)
                                replace hx187_0 := (HB.out.cell (World.block_lt_of_cell? w _ hx187_0)).trans hx187_0
                                replace hx187_1 := (HB.out.cell (World.block_lt_of_cell? w _ hx187_1)).trans hx187_1
                                replace hx187_2 := (HB.out.cell (World.block_lt_of_cell? w _ hx187_2)).trans hx187_2
                                replace hx187_3 := (HB.out.cell (World.block_lt_of_cell? w _ hx187_3)).trans hx187_3
                                replace p187 := eq_true p187
                                replace q187 := eq_true q187
                                refine start_ (n := 15) (S := fun w' => w'.cell? ⟨gb148, 0, none⟩ = some (.int .u64 x149000_2) ∧ w'.cell? ⟨gb148, 1, none⟩ = some (.int .u64 x149001_2) ∧ w'.cell? ⟨gb148, 2, none⟩ = some (.bool x149002_2) ∧ w'.cell? ⟨gb148, 3, none⟩ = some (.int .i64 x149003_2) ∧ w'.cell? ⟨gb148, 4, none⟩ = some (.int .u64 x149004_2) ∧ w'.cell? ⟨gb148, 5, none⟩ = some (.int .u64 x149005_2) ∧ w'.cell? ⟨gb148, 6, none⟩ = some (.bool x149006_2) ∧ w'.cell? ⟨gb148, 7, none⟩ = some (.int .i64 x149007_2) ∧ w'.cell? (ad163.add ((x9_2).toNat * 4)) = some (.int .i64 ((rd_T33 l1 x9_2).f0)) ∧ w'.cell? ⟨(ad163.add ((x9_2).toNat * 4)).block, (ad163.add ((x9_2).toNat * 4)).off + 1, none⟩ = some (.int .i64 ((rd_T33 l1 x9_2).f1)) ∧ w'.cell? ⟨(ad163.add ((x9_2).toNat * 4)).block, (ad163.add ((x9_2).toNat * 4)).off + 2, none⟩ = some (.int .i64 ((rd_T33 l1 x9_2).f2)) ∧ w'.cell? ⟨(ad163.add ((x9_2).toNat * 4)).block, (ad163.add ((x9_2).toNat * 4)).off + 3, none⟩ = some (.int .i64 ((rd_T33 l1 x9_2).f3))) (ds := [14]) #[false, false, false, false, false, false, false, false, false, false, false, false, false, false, false] (by kernel_rfl) rfl rfl ⟨(blk_cell BK148.out 0).trans rfl, (blk_cell BK148.out 1).trans rfl, (blk_cell BK148.out 2).trans rfl, (blk_cell BK148.out 3).trans rfl, (blk_cell BK148.out 4).trans rfl, (blk_cell BK148.out 5).trans rfl, (blk_cell BK148.out 6).trans rfl, (blk_cell BK148.out 7).trans rfl, ((HB.out.cell (World.block_lt_of_cell? w _ hw187_0)).trans hw187_0), ((HB.out.cell (World.block_lt_of_cell? w _ hw187_1)).trans hw187_1), ((HB.out.cell (World.block_lt_of_cell? w _ hw187_2)).trans hw187_2), ((HB.out.cell (World.block_lt_of_cell? w _ hw187_3)).trans hw187_3)⟩ (fun hHeld => ?_); refine with_tabW beaconlaw12_SessionMeets.tab20 beaconlaw12_SessionMeets.bits20 (fun HT_ HW_ => ?_)
                                generalize wc.drew = w117 at BK147 BK148 HB hx187_0 hx187_1 hx187_2 hx187_3 hHeld ⊢
                                refine pure_ (i := 0) (N := some 84) (v := ?_) (a' := ?_) #[true, false, false, false, false, false, false, false, false, false, false, false, false, false, false] rfl rfl (any_of HT_.out (by kernel_rfl)) (fun _ _ _ h => h) (Or.inl ⟨by rfl, ?_⟩) ?_ ?_
                                rotate_left
                                · intro w'
                                  go_simp
                                  with_reducible rfl
                                rotate_left
                                · simp only [Act.put, List.setIfInBounds_toArray, List.set_cons_zero, List.set_cons_succ, i64_w, i32_w]
                                  rfl
                                refine pure_ (i := 1) (N := some 85) (v := ?_) (a' := ?_) #[true, true, false, false, false, false, false, false, false, false, false, false, false, false, false] rfl rfl (any_of HT_.out (by kernel_rfl)) (fun _ _ _ h => h) (Or.inl ⟨by rfl, ?_⟩) ?_ ?_
                                rotate_left
                                · intro w'
                                  go_simp
                                  with_reducible rfl
                                rotate_left
                                · simp only [Act.put, List.setIfInBounds_toArray, List.set_cons_zero, List.set_cons_succ, i64_w, i32_w]
                                  rfl
                                refine pure_ (i := 2) (N := some 86) (v := ?_) (a' := ?_) #[true, true, true, false, false, false, false, false, false, false, false, false, false, false, false] rfl rfl (any_of HT_.out (by kernel_rfl)) (fun _ _ _ h => h) (Or.inl ⟨by rfl, ?_⟩) ?_ ?_
                                rotate_left
                                · intro w'
                                  go_simp
                                  with_reducible rfl
                                rotate_left
                                · simp only [Act.put, List.setIfInBounds_toArray, List.set_cons_zero, List.set_cons_succ, i64_w, i32_w]
                                  rfl
                                refine pure_ (i := 4) (N := some 88) (v := ?_) (a' := ?_) #[true, true, true, false, true, false, false, false, false, false, false, false, false, false, false] rfl rfl (any_of HT_.out (by kernel_rfl)) (fun _ _ _ h => h) (Or.inl ⟨by rfl, ?_⟩) ?_ ?_
                                rotate_left
                                · intro w'
                                  go_simp
                                  with_reducible rfl
                                rotate_left
                                · simp only [Act.put, List.setIfInBounds_toArray, List.set_cons_zero, List.set_cons_succ, i64_w, i32_w]
                                  rfl
                                refine pure_ (i := 5) (N := some 89) (v := ?_) (a' := ?_) #[true, true, true, false, true, true, false, false, false, false, false, false, false, false, false] rfl rfl (any_of HT_.out (by kernel_rfl)) (fun _ _ _ h => h) (Or.inl ⟨by rfl, ?_⟩) ?_ ?_
                                rotate_left
                                · intro w'
                                  go_simp
                                  with_reducible rfl
                                rotate_left
                                · simp only [Act.put, List.setIfInBounds_toArray, List.set_cons_zero, List.set_cons_succ, i64_w, i32_w]
                                  rfl
                                refine pure_ (i := 6) (N := some 90) (v := ?_) (a' := ?_) #[true, true, true, false, true, true, true, false, false, false, false, false, false, false, false] rfl rfl (any_of HT_.out (by kernel_rfl)) (fun _ _ _ h => h) (Or.inl ⟨by rfl, ?_⟩) ?_ ?_
                                rotate_left
                                · intro w'
                                  go_simp
                                  with_reducible rfl
                                rotate_left
                                · simp only [Act.put, List.setIfInBounds_toArray, List.set_cons_zero, List.set_cons_succ, i64_w, i32_w]
                                  rfl
                                refine pure_ (i := 7) (N := some 91) (v := ?_) (a' := ?_) #[true, true, true, false, true, true, true, true, false, false, false, false, false, false, false] rfl rfl (any_of HT_.out (by kernel_rfl)) (fun _ _ _ h => h) (Or.inl ⟨by rfl, ?_⟩) ?_ ?_
                                rotate_left
                                · intro w'
                                  go_simp
                                  with_reducible rfl
                                rotate_left
                                · simp only [Act.put, List.setIfInBounds_toArray, List.set_cons_zero, List.set_cons_succ, i64_w, i32_w]
                                  rfl
                                refine take_ (i := 3) (N := some 87) (v := ?_) (a' := ?_) #[true, true, true, true, true, true, true, true, false, false, false, false, false, false, false] rfl rfl (take_ofW HT_.out HW_.out (by kernel_rfl)) (fun _ _ _ h => h) (Or.inl ⟨by rfl, ?_⟩) hHeld ?_ ?_
                                rotate_left
                                · rintro w' ⟨s0, s1, s2, s3, s4, s5, s6, s7, s8, s9, s10, s11⟩
                                  go_simp
                                  with_reducible rfl
                                rotate_left
                                · simp only [Act.put, List.setIfInBounds_toArray, List.set_cons_zero, List.set_cons_succ, i64_w, i32_w]
                                  rfl
                                refine take_ (i := 8) (N := some 92) (v := ?_) (a' := ?_) #[true, true, true, true, true, true, true, true, true, false, false, false, false, false, false] rfl rfl (take_ofW HT_.out HW_.out (by kernel_rfl)) (fun _ _ _ h => h) (Or.inl ⟨by rfl, ?_⟩) hHeld ?_ ?_
                                rotate_left
                                · rintro w' ⟨s0, s1, s2, s3, s4, s5, s6, s7, s8, s9, s10, s11⟩
                                  go_simp
                                  with_reducible rfl
                                rotate_left
                                · simp only [Act.put, List.setIfInBounds_toArray, List.set_cons_zero, List.set_cons_succ, i64_w, i32_w]
                                  rfl
                                refine one_ (i := 9) (N := some 93) #[true, true, true, true, true, true, true, true, true, true, false, false, false, false, false] rfl rfl (one_of HT_.out (by kernel_rfl)) (by decide) (fun K hK => ?_)
                                refine goes_ Try.func11 (by kernel_rfl) rfl #[.agg #[.int .u64 x149004_2, .int .u64 x149005_2, .bool x149006_2, .int .i64 x149007_2], .int .i64 ((rd_T33 l1 x9_2).f3)] (by rfl) rfl rfl (by (try simp only [List.map_toArray, List.map_cons, List.map_nil]); first | done | rfl | (simp only [List.length_drop, List.length_take]; rfl)) ?_
                                with_reducible refine (session_Tick.calls x149004_2 x149005_2 x149006_2 x149007_2 ((rd_T33 l1 x9_2).f3) t188 t189 t190 t191 t192 _ A116.out).mono ?_
                                rintro e w118 ⟨rfl, hb⟩
                                refine ⟨_, rfl, ?_⟩
                                have n0_ := Aside0.mk (blk_below (g := gb147) (o := .cells #[.int .u64 a0_0, .int .u64 a0_1] 23 (0, 0)) (by (with_reducible repeat (first | refine blk_drewN ?_ _ | refine blk_drew ?_ | refine blk_alloc ?_ _)); exact BK147.out) hb)
                                have n1_ := Aside0.mk (blk_below (g := gb148) (o := .cells #[.int .u64 x149000_2, .int .u64 x149001_2, .bool x149002_2, .int .i64 x149003_2, .int .u64 x149004_2, .int .u64 x149005_2, .bool x149006_2, .int .i64 x149007_2] 27 (0, 0)) (by (with_reducible repeat (first | refine blk_drewN ?_ _ | refine blk_drew ?_ | refine blk_alloc ?_ _)); exact BK148.out) hb)
                                have n2_ := Aside0.mk (below_step (by repeat (first | (with_reducible first | exact HB.out | apply below_alloc | apply pw_below_drewN | apply below_drew1 | refine below_set ?_ GE147.out | refine below_set ?_ GE148.out) | exact HB.out)) hb)
                                clear BK147
                                clear BK148
                                clear HB
                                have BK147 := n0_
                                have BK148 := n1_
                                have HB := n2_
                                clear n0_ n1_ n2_
                                (try clear hb)
                                (try clear hb2)
                                (try clear hk)
                                (try clear hi)
                                refine hK.out _ _ ⟨(blk_cell BK148.out 0).trans rfl, (blk_cell BK148.out 1).trans rfl, (blk_cell BK148.out 2).trans rfl, (blk_cell BK148.out 3).trans rfl, (blk_cell BK148.out 4).trans rfl, (blk_cell BK148.out 5).trans rfl, (blk_cell BK148.out 6).trans rfl, (blk_cell BK148.out 7).trans rfl, ((HB.out.cell (World.block_lt_of_cell? w _ hw187_0)).trans hw187_0), ((HB.out.cell (World.block_lt_of_cell? w _ hw187_1)).trans hw187_1), ((HB.out.cell (World.block_lt_of_cell? w _ hw187_2)).trans hw187_2), ((HB.out.cell (World.block_lt_of_cell? w _ hw187_3)).trans hw187_3)⟩ (fun hHeld => ?_)
                                clear hK K
                                refine norm_ (a' := ?_) ?_ ?_
                                rotate_left
                                · show Act.put _ (some 93) _ = _
                                  simp only [Act.put, List.setIfInBounds_toArray, List.set_cons_zero, List.set_cons_succ, i64_w, i32_w]
                                  rfl
                                refine pure_ (i := 10) (N := some 83) (v := ?_) (a' := ?_) #[true, true, true, true, true, true, true, true, true, true, true, false, false, false, false] rfl rfl (any_of HT_.out (by kernel_rfl)) (fun _ _ _ h => h) (Or.inl ⟨by rfl, ?_⟩) ?_ ?_
                                rotate_left
                                · intro w'
                                  go_simp
                                  with_reducible rfl
                                rotate_left
                                · simp only [Act.put, List.setIfInBounds_toArray, List.set_cons_zero, List.set_cons_succ, i64_w, i32_w]
                                  rfl
                                refine pure_ (i := 11) (N := some 94) (v := ?_) (a' := ?_) #[true, true, true, true, true, true, true, true, true, true, true, true, false, false, false] rfl rfl (any_of HT_.out (by kernel_rfl)) (fun _ _ _ h => h) (Or.inl ⟨by rfl, ?_⟩) ?_ ?_
                                rotate_left
                                · intro w'
                                  go_simp
                                  with_reducible rfl
                                rotate_left
                                · simp only [Act.put, List.setIfInBounds_toArray, List.set_cons_zero, List.set_cons_succ, i64_w, i32_w]
                                  rfl
                                refine pure_ (i := 12) (N := some 95) (v := ?_) (a' := ?_) #[true, true, true, true, true, true, true, true, true, true, true, true, true, false, false] rfl rfl (any_of HT_.out (by kernel_rfl)) (fun _ _ _ h => h) (Or.inl ⟨by rfl, ?_⟩) ?_ ?_
                                rotate_left
                                · intro w'
                                  go_simp
                                  with_reducible rfl
                                rotate_left
                                · simp only [Act.put, List.setIfInBounds_toArray, List.set_cons_zero, List.set_cons_succ, i64_w, i32_w]
                                  rfl
                                refine pure_ (i := 13) (N := some 96) (v := ?_) (a' := ?_) #[true, true, true, true, true, true, true, true, true, true, true, true, true, true, false] rfl rfl (any_of HT_.out (by kernel_rfl)) (fun _ _ _ h => h) (Or.inl ⟨by rfl, ?_⟩) ?_ ?_
                                rotate_left
                                · intro w'
                                  go_simp
                                  with_reducible rfl
                                rotate_left
                                · simp only [Act.put, List.setIfInBounds_toArray, List.set_cons_zero, List.set_cons_succ, i64_w, i32_w]
                                  rfl
                                refine last_ (i := 14) (N := none) #[true, true, true, true, true, true, true, true, true, true, true, true, true, true, true] rfl rfl (one_of HT_.out (by kernel_rfl)) (by decide) (fun K hK => ?_)
                                have hs119 : w118.cell? ⟨gb148, 4, none⟩ = some (.int .u64 x149004_2) := (blk_cell BK148.out 4).trans rfl
                                have hfs119 := blk_frozen BK148.out 4
                                have hns119_0 := NB147_148.out
                                have hms119_0 := NB148_147.out
                                have hs120 : w118.cell? ⟨gb148, 5, none⟩ = some (.int .u64 x149005_2) := (blk_cell BK148.out 5).trans rfl
                                have hfs120 := blk_frozen BK148.out 5
                                have hns120_0 := NB147_148.out
                                have hms120_0 := NB148_147.out
                                have hs121 : w118.cell? ⟨gb148, 6, none⟩ = some (.bool x149006_2) := (blk_cell BK148.out 6).trans rfl
                                have hfs121 := blk_frozen BK148.out 6
                                have hns121_0 := NB147_148.out
                                have hms121_0 := NB148_147.out
                                have hs122 : w118.cell? ⟨gb148, 7, none⟩ = some (.int .i64 x149007_2) := (blk_cell BK148.out 7).trans rfl
                                have hfs122 := blk_frozen BK148.out 7
                                have hns122_0 := NB147_148.out
                                have hms122_0 := NB148_147.out
                                refine skip_ (w1 := ?_) (by rfl) rfl ?_ ?_
                                rotate_left
                                · go_simp
                                  rfl
                                refine hK.out _ _ ?_
                                clear hK K
                                refine done_ (done_of HT_.out (by kernel_rfl)) ?_
                                try go_wp2
                                go_roundg kj77
                                case measure => have := HK1.out; have := HK2.out; have := HJ77.out; omega
                                case rel => exact ⟨(wrap64 (x9_2 + 1)), (x149000_2), (x149001_2), (x149002_2), (x149003_2), (t188), (t189), (t190), (t191), (by first | rfl | (simp; done) | (simp [*]; done)), H', ⟨by have := HK1.out; have := HK2.out; have := HJ77.out; omega⟩, ⟨by (with_reducible repeat (first | refine blk_drewN ?_ _ | refine blk_drew ?_ | refine blk_alloc ?_ _)); refine blk_far ?_ NB147_148.out _; (with_reducible repeat (first | refine blk_drewN ?_ _ | refine blk_drew ?_ | refine blk_alloc ?_ _)); refine blk_far ?_ NB147_148.out _; (with_reducible repeat (first | refine blk_drewN ?_ _ | refine blk_drew ?_ | refine blk_alloc ?_ _)); refine blk_far ?_ NB147_148.out _; (with_reducible repeat (first | refine blk_drewN ?_ _ | refine blk_drew ?_ | refine blk_alloc ?_ _)); refine blk_far ?_ NB147_148.out _; (with_reducible repeat (first | refine blk_drewN ?_ _ | refine blk_drew ?_ | refine blk_alloc ?_ _)); exact BK147.out⟩, ⟨by (with_reducible repeat (first | refine blk_drewN ?_ _ | refine blk_drew ?_ | refine blk_alloc ?_ _)); refine blk_put (cs := #[.int .u64 x149000_2, .int .u64 x149001_2, .bool x149002_2, .int .i64 x149003_2, .int .u64 t188, .int .u64 t189, .bool t190, .int .i64 x149007_2]) ?_ 7 _ rfl; (with_reducible repeat (first | refine blk_drewN ?_ _ | refine blk_drew ?_ | refine blk_alloc ?_ _)); refine blk_put (cs := #[.int .u64 x149000_2, .int .u64 x149001_2, .bool x149002_2, .int .i64 x149003_2, .int .u64 t188, .int .u64 t189, .bool x149006_2, .int .i64 x149007_2]) ?_ 6 _ rfl; (with_reducible repeat (first | refine blk_drewN ?_ _ | refine blk_drew ?_ | refine blk_alloc ?_ _)); refine blk_put (cs := #[.int .u64 x149000_2, .int .u64 x149001_2, .bool x149002_2, .int .i64 x149003_2, .int .u64 t188, .int .u64 x149005_2, .bool x149006_2, .int .i64 x149007_2]) ?_ 5 _ rfl; (with_reducible repeat (first | refine blk_drewN ?_ _ | refine blk_drew ?_ | refine blk_alloc ?_ _)); refine blk_put (cs := #[.int .u64 x149000_2, .int .u64 x149001_2, .bool x149002_2, .int .i64 x149003_2, .int .u64 x149004_2, .int .u64 x149005_2, .bool x149006_2, .int .i64 x149007_2]) ?_ 4 _ rfl; (with_reducible repeat (first | refine blk_drewN ?_ _ | refine blk_drew ?_ | refine blk_alloc ?_ _)); exact BK148.out⟩, ⟨by repeat (first | (with_reducible first | exact HB.out | apply below_alloc | apply pw_below_drewN | apply below_drew1 | refine below_set ?_ GE147.out | refine below_set ?_ GE148.out) | exact HB.out)⟩⟩
                              · rw [if_neg c115] at H
                                exact absurd H (by simp)
                            · rw [if_neg c114] at H
                              exact absurd H (by simp)
                          · rw [if_neg c113] at H
                            exact absurd H (by simp)
                      · rw [if_neg c102] at H
                        have c102b0 : (((rd_T33 l1 x9_2).f1) == 3) = false := beq_eq_false_iff_ne.mpr c102
                        have c102b1 : (((rd_T33 l1 x9_2).f1) != 3) = true := bne_iff_ne.mpr c102
                        by_cases c123 : ((rd_T33 l1 x9_2).f1) = 4
                        · rw [if_pos c123] at H
                          have c123b0 : (((rd_T33 l1 x9_2).f1) == 4) = true := beq_iff_eq.mpr c123
                          have c123b1 : (((rd_T33 l1 x9_2).f1) != 4) = false := bne_eq_false_iff_eq.mpr c123
                          clear c123
                          by_cases c124 : (Go.bits .and .i64 ((rd_T33 l1 x9_2).f0) 1) = 0
                          · rw [if_pos c124] at H
                            have c124b0 : ((Go.bits .and .i64 ((rd_T33 l1 x9_2).f0) 1) == 0) = true := beq_iff_eq.mpr c124
                            have c124b1 : ((Go.bits .and .i64 ((rd_T33 l1 x9_2).f0) 1) != 0) = false := bne_eq_false_iff_eq.mpr c124
                            replace H := Option.bind_eq_some_iff.mp H
                            obtain ⟨⟨t193, t194, t195, t196⟩, A1250, H⟩ := H
                            replace H : (beaconlaw12_SessionMeets.l1 kj77 l1 (wrap64 (x9_2 + 1)) t193 t194 t195 t196 x149004_2 x149005_2 x149006_2 x149007_2) = some r := H
                            have A125 := Aside0.mk A1250
                            clear A1250
                            have H' := Aside0.mk H
                            clear H
                            have hnb126 := NB148_147.out
                            have hnc126 := NB147_148.out
                            have hcz127_0 : wc.cell? ⟨gb148, 0, none⟩ = some (.int .u64 x149000_2) := (blk_cell BK148.out 0).trans rfl
                            have hcz127_1 : wc.cell? ⟨gb148, 1, none⟩ = some (.int .u64 x149001_2) := (blk_cell BK148.out 1).trans rfl
                            have hcz127_2 : wc.cell? ⟨gb148, 2, none⟩ = some (.bool x149002_2) := (blk_cell BK148.out 2).trans rfl
                            have hcz127_3 : wc.cell? ⟨gb148, 3, none⟩ = some (.int .i64 x149003_2) := (blk_cell BK148.out 3).trans rfl
                            have hcz127_4 : wc.cell? ⟨gb148, 4, none⟩ = some (.int .u64 x149004_2) := (blk_cell BK148.out 4).trans rfl
                            have hcz127_5 : wc.cell? ⟨gb148, 5, none⟩ = some (.int .u64 x149005_2) := (blk_cell BK148.out 5).trans rfl
                            have hcz127_6 : wc.cell? ⟨gb148, 6, none⟩ = some (.bool x149006_2) := (blk_cell BK148.out 6).trans rfl
                            have hcz127_7 : wc.cell? ⟨gb148, 7, none⟩ = some (.int .i64 x149007_2) := (blk_cell BK148.out 7).trans rfl
                            have hfz127_0 := blk_frozen BK148.out 0
                            have hfz127_1 := blk_frozen BK148.out 1
                            have hfz127_2 := blk_frozen BK148.out 2
                            have hfz127_3 := blk_frozen BK148.out 3
                            have hfz127_4 := blk_frozen BK148.out 4
                            have hfz127_5 := blk_frozen BK148.out 5
                            have hfz127_6 := blk_frozen BK148.out 6
                            have hfz127_7 := blk_frozen BK148.out 7
                            go_wp2_with (first | ((with_reducible refine gate_callee (f := 12) rfl ?_); refine goesL_ (some 103) rfl rfl Try.func12 (by kernel_rfl) rfl #[.agg #[.int .u64 x149000_2, .int .u64 x149001_2, .bool x149002_2, .int .i64 x149003_2]] rfl (by (try simp only [List.map_toArray, List.map_cons, List.map_nil]); first | done | rfl | (simp only [List.length_drop, List.length_take]; rfl)) ?_; (with_reducible refine (session_Down.calls x149000_2 x149001_2 x149002_2 x149003_2 t193 t194 t195 t196 _ A125.out).mono ?_); rintro e w128 ⟨rfl, hb⟩; refine ⟨_, rfl, ?_⟩; have n0_ := Aside0.mk (blk_below (g := gb147) (o := .cells #[.int .u64 a0_0, .int .u64 a0_1] 23 (0, 0)) (by (with_reducible repeat (first | refine blk_drewN ?_ _ | refine blk_drew ?_ | refine blk_alloc ?_ _)); exact BK147.out) hb); have n1_ := Aside0.mk (blk_below (g := gb148) (o := .cells #[.int .u64 x149000_2, .int .u64 x149001_2, .bool x149002_2, .int .i64 x149003_2, .int .u64 x149004_2, .int .u64 x149005_2, .bool x149006_2, .int .i64 x149007_2] 27 (0, 0)) (by (with_reducible repeat (first | refine blk_drewN ?_ _ | refine blk_drew ?_ | refine blk_alloc ?_ _)); exact BK148.out) hb); have n2_ := Aside0.mk (below_step (by repeat (first | (with_reducible first | exact HB.out | apply below_alloc | apply pw_below_drewN | apply below_drew1 | refine below_set ?_ GE147.out | refine below_set ?_ GE148.out) | exact HB.out)) hb); clear BK147; clear BK148; clear HB; have BK147 := n0_; have BK148 := n1_; have HB := n2_; clear n0_ n1_ n2_; (try clear hb); (try clear hb2); (try clear hk); (try clear hi); have hcz129_0 : w128.cell? ⟨gb148, 0, none⟩ = some (.int .u64 x149000_2) := (blk_cell BK148.out 0).trans rfl; have hcz129_1 : w128.cell? ⟨gb148, 1, none⟩ = some (.int .u64 x149001_2) := (blk_cell BK148.out 1).trans rfl; have hcz129_2 : w128.cell? ⟨gb148, 2, none⟩ = some (.bool x149002_2) := (blk_cell BK148.out 2).trans rfl; have hcz129_3 : w128.cell? ⟨gb148, 3, none⟩ = some (.int .i64 x149003_2) := (blk_cell BK148.out 3).trans rfl; have hcz129_4 : w128.cell? ⟨gb148, 4, none⟩ = some (.int .u64 x149004_2) := (blk_cell BK148.out 4).trans rfl; have hcz129_5 : w128.cell? ⟨gb148, 5, none⟩ = some (.int .u64 x149005_2) := (blk_cell BK148.out 5).trans rfl; have hcz129_6 : w128.cell? ⟨gb148, 6, none⟩ = some (.bool x149006_2) := (blk_cell BK148.out 6).trans rfl; have hcz129_7 : w128.cell? ⟨gb148, 7, none⟩ = some (.int .i64 x149007_2) := (blk_cell BK148.out 7).trans rfl; have hfz129_0 := blk_frozen BK148.out 0; have hfz129_1 := blk_frozen BK148.out 1; have hfz129_2 := blk_frozen BK148.out 2; have hfz129_3 := blk_frozen BK148.out 3; have hfz129_4 := blk_frozen BK148.out 4; have hfz129_5 := blk_frozen BK148.out 5; have hfz129_6 := blk_frozen BK148.out 6; have hfz129_7 := blk_frozen BK148.out 7) | ((with_reducible refine gate_store (t := 26) (p := 104) rfl ?_); refine store_event (t := 26) (p := 104) (v := ?vo_w130) (w1 := ((((w128.setCell ⟨gb148, 0, none⟩ (.int .u64 t193)).setCell ⟨gb148, 1, none⟩ (.int .u64 t194)).setCell ⟨gb148, 2, none⟩ (.bool t195)).setCell ⟨gb148, 3, none⟩ (.int .i64 t196))) ?hg ?ho ?hn ?hr ?_; (case ho => rfl); (case hg => rfl); (case hn => rfl); (case hr => first | (go_simp; done) | (go_simp; rfl)); intro w130 hw; have n0_ : Aside0 (w130.heap[gb147]? = some (.cells #[.int .u64 a0_0, .int .u64 a0_1] 23 (0, 0))) := ⟨(by rw [hw]; exact (by (with_reducible repeat (first | refine blk_drewN ?_ _ | refine blk_drew ?_ | refine blk_alloc ?_ _)); refine blk_far ?_ NB147_148.out _; (with_reducible repeat (first | refine blk_drewN ?_ _ | refine blk_drew ?_ | refine blk_alloc ?_ _)); refine blk_far ?_ NB147_148.out _; (with_reducible repeat (first | refine blk_drewN ?_ _ | refine blk_drew ?_ | refine blk_alloc ?_ _)); refine blk_far ?_ NB147_148.out _; (with_reducible repeat (first | refine blk_drewN ?_ _ | refine blk_drew ?_ | refine blk_alloc ?_ _)); refine blk_far ?_ NB147_148.out _; (with_reducible repeat (first | refine blk_drewN ?_ _ | refine blk_drew ?_ | refine blk_alloc ?_ _)); exact BK147.out))⟩; have n1_ : Aside0 (w130.heap[gb148]? = some (.cells #[.int .u64 t193, .int .u64 t194, .bool t195, .int .i64 t196, .int .u64 x149004_2, .int .u64 x149005_2, .bool x149006_2, .int .i64 x149007_2] 27 (0, 0))) := ⟨(by rw [hw]; exact (by (with_reducible repeat (first | refine blk_drewN ?_ _ | refine blk_drew ?_ | refine blk_alloc ?_ _)); refine blk_put (cs := #[.int .u64 t193, .int .u64 t194, .bool t195, .int .i64 x149003_2, .int .u64 x149004_2, .int .u64 x149005_2, .bool x149006_2, .int .i64 x149007_2]) ?_ 3 _ rfl; (with_reducible repeat (first | refine blk_drewN ?_ _ | refine blk_drew ?_ | refine blk_alloc ?_ _)); refine blk_put (cs := #[.int .u64 t193, .int .u64 t194, .bool x149002_2, .int .i64 x149003_2, .int .u64 x149004_2, .int .u64 x149005_2, .bool x149006_2, .int .i64 x149007_2]) ?_ 2 _ rfl; (with_reducible repeat (first | refine blk_drewN ?_ _ | refine blk_drew ?_ | refine blk_alloc ?_ _)); refine blk_put (cs := #[.int .u64 t193, .int .u64 x149001_2, .bool x149002_2, .int .i64 x149003_2, .int .u64 x149004_2, .int .u64 x149005_2, .bool x149006_2, .int .i64 x149007_2]) ?_ 1 _ rfl; (with_reducible repeat (first | refine blk_drewN ?_ _ | refine blk_drew ?_ | refine blk_alloc ?_ _)); refine blk_put (cs := #[.int .u64 x149000_2, .int .u64 x149001_2, .bool x149002_2, .int .i64 x149003_2, .int .u64 x149004_2, .int .u64 x149005_2, .bool x149006_2, .int .i64 x149007_2]) ?_ 0 _ rfl; (with_reducible repeat (first | refine blk_drewN ?_ _ | refine blk_drew ?_ | refine blk_alloc ?_ _)); exact BK148.out))⟩; have n2_ : Aside0 (Below w.heap.size w w130) := ⟨(by rw [hw]; exact (by repeat (first | (with_reducible first | exact HB.out | apply below_alloc | apply pw_below_drewN | apply below_drew1 | refine below_set ?_ GE147.out | refine below_set ?_ GE148.out) | exact HB.out)))⟩; clear hw; clear BK147; clear BK148; clear HB; have BK147 := n0_; have BK148 := n1_; have HB := n2_; clear n0_ n1_ n2_))
                            go_roundg kj77
                            case measure => have := HK1.out; have := HK2.out; have := HJ77.out; omega
                            case rel => exact ⟨(wrap64 (x9_2 + 1)), (t193), (t194), (t195), (t196), (x149004_2), (x149005_2), (x149006_2), (x149007_2), (by first | rfl | (simp; done) | (simp [*]; done)), H', ⟨by have := HK1.out; have := HK2.out; have := HJ77.out; omega⟩, ⟨by (with_reducible repeat (first | refine blk_drewN ?_ _ | refine blk_drew ?_ | refine blk_alloc ?_ _)); exact BK147.out⟩, ⟨by (with_reducible repeat (first | refine blk_drewN ?_ _ | refine blk_drew ?_ | refine blk_alloc ?_ _)); exact BK148.out⟩, ⟨by repeat (first | (with_reducible first | exact HB.out | apply below_alloc | apply pw_below_drewN | apply below_drew1 | refine below_set ?_ GE147.out | refine below_set ?_ GE148.out) | exact HB.out)⟩⟩
                          · rw [if_neg c124] at H
                            have c124b0 : ((Go.bits .and .i64 ((rd_T33 l1 x9_2).f0) 1) == 0) = false := beq_eq_false_iff_ne.mpr c124
                            have c124b1 : ((Go.bits .and .i64 ((rd_T33 l1 x9_2).f0) 1) != 0) = true := bne_iff_ne.mpr c124
                            by_cases c131 : (Go.bits .and .i64 ((rd_T33 l1 x9_2).f0) 1) = 1
                            · rw [if_pos c131] at H
                              have c131b0 : ((Go.bits .and .i64 ((rd_T33 l1 x9_2).f0) 1) == 1) = true := beq_iff_eq.mpr c131
                              have c131b1 : ((Go.bits .and .i64 ((rd_T33 l1 x9_2).f0) 1) != 1) = false := bne_eq_false_iff_eq.mpr c131
                              replace H := Option.bind_eq_some_iff.mp H
                              obtain ⟨⟨t197, t198, t199, t200⟩, A1320, H⟩ := H
                              replace H : (beaconlaw12_SessionMeets.l1 kj77 l1 (wrap64 (x9_2 + 1)) x149000_2 x149001_2 x149002_2 x149003_2 t197 t198 t199 t200) = some r := H
                              have A132 := Aside0.mk A1320
                              clear A1320
                              have H' := Aside0.mk H
                              clear H
                              have hnb133 := NB148_147.out
                              have hnc133 := NB147_148.out
                              have hcz134_0 : wc.cell? ⟨gb148, 0, none⟩ = some (.int .u64 x149000_2) := (blk_cell BK148.out 0).trans rfl
                              have hcz134_1 : wc.cell? ⟨gb148, 1, none⟩ = some (.int .u64 x149001_2) := (blk_cell BK148.out 1).trans rfl
                              have hcz134_2 : wc.cell? ⟨gb148, 2, none⟩ = some (.bool x149002_2) := (blk_cell BK148.out 2).trans rfl
                              have hcz134_3 : wc.cell? ⟨gb148, 3, none⟩ = some (.int .i64 x149003_2) := (blk_cell BK148.out 3).trans rfl
                              have hcz134_4 : wc.cell? ⟨gb148, 4, none⟩ = some (.int .u64 x149004_2) := (blk_cell BK148.out 4).trans rfl
                              have hcz134_5 : wc.cell? ⟨gb148, 5, none⟩ = some (.int .u64 x149005_2) := (blk_cell BK148.out 5).trans rfl
                              have hcz134_6 : wc.cell? ⟨gb148, 6, none⟩ = some (.bool x149006_2) := (blk_cell BK148.out 6).trans rfl
                              have hcz134_7 : wc.cell? ⟨gb148, 7, none⟩ = some (.int .i64 x149007_2) := (blk_cell BK148.out 7).trans rfl
                              have hfz134_0 := blk_frozen BK148.out 0
                              have hfz134_1 := blk_frozen BK148.out 1
                              have hfz134_2 := blk_frozen BK148.out 2
                              have hfz134_3 := blk_frozen BK148.out 3
                              have hfz134_4 := blk_frozen BK148.out 4
                              have hfz134_5 := blk_frozen BK148.out 5
                              have hfz134_6 := blk_frozen BK148.out 6
                              have hfz134_7 := blk_frozen BK148.out 7
                              go_wp2_with (first | ((with_reducible refine gate_callee (f := 12) rfl ?_); refine goesL_ (some 103) rfl rfl Try.func12 (by kernel_rfl) rfl #[.agg #[.int .u64 x149004_2, .int .u64 x149005_2, .bool x149006_2, .int .i64 x149007_2]] rfl (by (try simp only [List.map_toArray, List.map_cons, List.map_nil]); first | done | rfl | (simp only [List.length_drop, List.length_take]; rfl)) ?_; (with_reducible refine (session_Down.calls x149004_2 x149005_2 x149006_2 x149007_2 t197 t198 t199 t200 _ A132.out).mono ?_); rintro e w135 ⟨rfl, hb⟩; refine ⟨_, rfl, ?_⟩; have n0_ := Aside0.mk (blk_below (g := gb147) (o := .cells #[.int .u64 a0_0, .int .u64 a0_1] 23 (0, 0)) (by (with_reducible repeat (first | refine blk_drewN ?_ _ | refine blk_drew ?_ | refine blk_alloc ?_ _)); exact BK147.out) hb); have n1_ := Aside0.mk (blk_below (g := gb148) (o := .cells #[.int .u64 x149000_2, .int .u64 x149001_2, .bool x149002_2, .int .i64 x149003_2, .int .u64 x149004_2, .int .u64 x149005_2, .bool x149006_2, .int .i64 x149007_2] 27 (0, 0)) (by (with_reducible repeat (first | refine blk_drewN ?_ _ | refine blk_drew ?_ | refine blk_alloc ?_ _)); exact BK148.out) hb); have n2_ := Aside0.mk (below_step (by repeat (first | (with_reducible first | exact HB.out | apply below_alloc | apply pw_below_drewN | apply below_drew1 | refine below_set ?_ GE147.out | refine below_set ?_ GE148.out) | exact HB.out)) hb); clear BK147; clear BK148; clear HB; have BK147 := n0_; have BK148 := n1_; have HB := n2_; clear n0_ n1_ n2_; (try clear hb); (try clear hb2); (try clear hk); (try clear hi); have hcz136_0 : w135.cell? ⟨gb148, 0, none⟩ = some (.int .u64 x149000_2) := (blk_cell BK148.out 0).trans rfl; have hcz136_1 : w135.cell? ⟨gb148, 1, none⟩ = some (.int .u64 x149001_2) := (blk_cell BK148.out 1).trans rfl; have hcz136_2 : w135.cell? ⟨gb148, 2, none⟩ = some (.bool x149002_2) := (blk_cell BK148.out 2).trans rfl; have hcz136_3 : w135.cell? ⟨gb148, 3, none⟩ = some (.int .i64 x149003_2) := (blk_cell BK148.out 3).trans rfl; have hcz136_4 : w135.cell? ⟨gb148, 4, none⟩ = some (.int .u64 x149004_2) := (blk_cell BK148.out 4).trans rfl; have hcz136_5 : w135.cell? ⟨gb148, 5, none⟩ = some (.int .u64 x149005_2) := (blk_cell BK148.out 5).trans rfl; have hcz136_6 : w135.cell? ⟨gb148, 6, none⟩ = some (.bool x149006_2) := (blk_cell BK148.out 6).trans rfl; have hcz136_7 : w135.cell? ⟨gb148, 7, none⟩ = some (.int .i64 x149007_2) := (blk_cell BK148.out 7).trans rfl; have hfz136_0 := blk_frozen BK148.out 0; have hfz136_1 := blk_frozen BK148.out 1; have hfz136_2 := blk_frozen BK148.out 2; have hfz136_3 := blk_frozen BK148.out 3; have hfz136_4 := blk_frozen BK148.out 4; have hfz136_5 := blk_frozen BK148.out 5; have hfz136_6 := blk_frozen BK148.out 6; have hfz136_7 := blk_frozen BK148.out 7) | ((with_reducible refine gate_store (t := 26) (p := 104) rfl ?_); refine store_event (t := 26) (p := 104) (v := ?vo_w137) (w1 := ((((w135.setCell ⟨gb148, 4, none⟩ (.int .u64 t197)).setCell ⟨gb148, 5, none⟩ (.int .u64 t198)).setCell ⟨gb148, 6, none⟩ (.bool t199)).setCell ⟨gb148, 7, none⟩ (.int .i64 t200))) ?hg ?ho ?hn ?hr ?_; (case ho => rfl); (case hg => rfl); (case hn => rfl); (case hr => first | (go_simp; done) | (go_simp; rfl)); intro w137 hw; have n0_ : Aside0 (w137.heap[gb147]? = some (.cells #[.int .u64 a0_0, .int .u64 a0_1] 23 (0, 0))) := ⟨(by rw [hw]; exact (by (with_reducible repeat (first | refine blk_drewN ?_ _ | refine blk_drew ?_ | refine blk_alloc ?_ _)); refine blk_far ?_ NB147_148.out _; (with_reducible repeat (first | refine blk_drewN ?_ _ | refine blk_drew ?_ | refine blk_alloc ?_ _)); refine blk_far ?_ NB147_148.out _; (with_reducible repeat (first | refine blk_drewN ?_ _ | refine blk_drew ?_ | refine blk_alloc ?_ _)); refine blk_far ?_ NB147_148.out _; (with_reducible repeat (first | refine blk_drewN ?_ _ | refine blk_drew ?_ | refine blk_alloc ?_ _)); refine blk_far ?_ NB147_148.out _; (with_reducible repeat (first | refine blk_drewN ?_ _ | refine blk_drew ?_ | refine blk_alloc ?_ _)); exact BK147.out))⟩; have n1_ : Aside0 (w137.heap[gb148]? = some (.cells #[.int .u64 x149000_2, .int .u64 x149001_2, .bool x149002_2, .int .i64 x149003_2, .int .u64 t197, .int .u64 t198, .bool t199, .int .i64 t200] 27 (0, 0))) := ⟨(by rw [hw]; exact (by (with_reducible repeat (first | refine blk_drewN ?_ _ | refine blk_drew ?_ | refine blk_alloc ?_ _)); refine blk_put (cs := #[.int .u64 x149000_2, .int .u64 x149001_2, .bool x149002_2, .int .i64 x149003_2, .int .u64 t197, .int .u64 t198, .bool t199, .int .i64 x149007_2]) ?_ 7 _ rfl; (with_reducible repeat (first | refine blk_drewN ?_ _ | refine blk_drew ?_ | refine blk_alloc ?_ _)); refine blk_put (cs := #[.int .u64 x149000_2, .int .u64 x149001_2, .bool x149002_2, .int .i64 x149003_2, .int .u64 t197, .int .u64 t198, .bool x149006_2, .int .i64 x149007_2]) ?_ 6 _ rfl; (with_reducible repeat (first | refine blk_drewN ?_ _ | refine blk_drew ?_ | refine blk_alloc ?_ _)); refine blk_put (cs := #[.int .u64 x149000_2, .int .u64 x149001_2, .bool x149002_2, .int .i64 x149003_2, .int .u64 t197, .int .u64 x149005_2, .bool x149006_2, .int .i64 x149007_2]) ?_ 5 _ rfl; (with_reducible repeat (first | refine blk_drewN ?_ _ | refine blk_drew ?_ | refine blk_alloc ?_ _)); refine blk_put (cs := #[.int .u64 x149000_2, .int .u64 x149001_2, .bool x149002_2, .int .i64 x149003_2, .int .u64 x149004_2, .int .u64 x149005_2, .bool x149006_2, .int .i64 x149007_2]) ?_ 4 _ rfl; (with_reducible repeat (first | refine blk_drewN ?_ _ | refine blk_drew ?_ | refine blk_alloc ?_ _)); exact BK148.out))⟩; have n2_ : Aside0 (Below w.heap.size w w137) := ⟨(by rw [hw]; exact (by repeat (first | (with_reducible first | exact HB.out | apply below_alloc | apply pw_below_drewN | apply below_drew1 | refine below_set ?_ GE147.out | refine below_set ?_ GE148.out) | exact HB.out)))⟩; clear hw; clear BK147; clear BK148; clear HB; have BK147 := n0_; have BK148 := n1_; have HB := n2_; clear n0_ n1_ n2_))
                              go_roundg kj77
                              case measure => have := HK1.out; have := HK2.out; have := HJ77.out; omega
                              case rel => exact ⟨(wrap64 (x9_2 + 1)), (x149000_2), (x149001_2), (x149002_2), (x149003_2), (t197), (t198), (t199), (t200), (by first | rfl | (simp; done) | (simp [*]; done)), H', ⟨by have := HK1.out; have := HK2.out; have := HJ77.out; omega⟩, ⟨by (with_reducible repeat (first | refine blk_drewN ?_ _ | refine blk_drew ?_ | refine blk_alloc ?_ _)); exact BK147.out⟩, ⟨by (with_reducible repeat (first | refine blk_drewN ?_ _ | refine blk_drew ?_ | refine blk_alloc ?_ _)); exact BK148.out⟩, ⟨by repeat (first | (with_reducible first | exact HB.out | apply below_alloc | apply pw_below_drewN | apply below_drew1 | refine below_set ?_ GE147.out | refine below_set ?_ GE148.out) | exact HB.out)⟩⟩
                            · rw [if_neg c131] at H
                              exact absurd H (by simp)
                        · rw [if_neg c123] at H
                          have c123b0 : (((rd_T33 l1 x9_2).f1) == 4) = false := beq_eq_false_iff_ne.mpr c123
                          have c123b1 : (((rd_T33 l1 x9_2).f1) != 4) = true := bne_iff_ne.mpr c123
                          have H' := Aside0.mk H
                          clear H
                          go_wp2
                          go_roundg kj77
                          case measure => have := HK1.out; have := HK2.out; have := HJ77.out; omega
                          case rel => exact ⟨(wrap64 (x9_2 + 1)), (x149000_2), (x149001_2), (x149002_2), (x149003_2), (x149004_2), (x149005_2), (x149006_2), (x149007_2), (by first | rfl | (simp; done) | (simp [*]; done)), H', ⟨by have := HK1.out; have := HK2.out; have := HJ77.out; omega⟩, ⟨by (with_reducible repeat (first | refine blk_drewN ?_ _ | refine blk_drew ?_ | refine blk_alloc ?_ _)); exact BK147.out⟩, ⟨by (with_reducible repeat (first | refine blk_drewN ?_ _ | refine blk_drew ?_ | refine blk_alloc ?_ _)); exact BK148.out⟩, ⟨by repeat (first | (with_reducible first | exact HB.out | apply below_alloc | apply pw_below_drewN | apply below_drew1 | refine below_set ?_ GE147.out | refine below_set ?_ GE148.out) | exact HB.out)⟩⟩
              · rw [if_neg c77] at H
                exact absurd H (by simp)
            · rw [if_neg c76] at H
              have c76b0 : decide (x9_2 < (l1.length : Int)) = false := decide_eq_false c76
              clear c76
              have H' := Aside0.mk H
              clear H
              go_wp2
              go_loopg [13] k2 (fun kq v13 w' => ∃ (x13_3 : Int) (x149000_3 : Int) (x149001_3 : Int) (x149002_3 : Bool) (x149003_3 : Int) (x149004_3 : Int) (x149005_3 : Int) (x149006_3 : Bool) (x149007_3 : Int), v13 = .int .i64 x13_3 ∧ Aside0 (beaconlaw12_SessionMeets.l2 kq x13_3 x149000_3 x149001_3 x149002_3 x149003_3 x149004_3 x149005_3 x149006_3 x149007_3 = some r) ∧ Aside0 (kq ≤ k2) ∧ Aside0 (w'.heap[gb147]? = some (.cells #[.int .u64 a0_0, .int .u64 a0_1] 23 (0, 0))) ∧ Aside0 (w'.heap[gb148]? = some (.cells #[.int .u64 x149000_3, .int .u64 x149001_3, .bool x149002_3, .int .i64 x149003_3, .int .u64 x149004_3, .int .u64 x149005_3, .bool x149006_3, .int .i64 x149007_3] 27 (0, 0))) ∧ Aside0 (Below w.heap.size w w'))
              case atStart => exact ⟨(0), (x149000_2), (x149001_2), (x149002_2), (x149003_2), (x149004_2), (x149005_2), (x149006_2), (x149007_2), (by first | rfl | (simp; done) | (simp [*]; done)), H', ⟨Nat.le_refl _⟩, ⟨by (with_reducible repeat (first | refine blk_drewN ?_ _ | refine blk_drew ?_ | refine blk_alloc ?_ _)); exact BK147.out⟩, ⟨by (with_reducible repeat (first | refine blk_drewN ?_ _ | refine blk_drew ?_ | refine blk_alloc ?_ _)); exact BK148.out⟩, ⟨by repeat (first | (with_reducible first | exact HB.out | apply below_alloc | apply pw_below_drewN | apply below_drew1 | refine below_set ?_ GE147.out | refine below_set ?_ GE148.out) | exact HB.out)⟩⟩
              case round =>
                clear H'
                try clear c1
                try clear p1
                try clear q1
                try clear hx1
                try clear p2
                try clear p6
                try clear c7
                try clear c8
                try clear c9
                try clear c10
                try clear c11
                try clear c12
                try clear c13
                try clear p18
                try clear q18
                try clear hx18
                try clear p64
                try clear c76
                try clear c76b0
                try clear c77
                try clear c81
                try clear c82
                try clear c82b0
                try clear c82b1
                try clear c85
                try clear c92
                try clear c92b0
                try clear c92b1
                try clear c95
                try clear c102
                try clear c102b0
                try clear c102b1
                try clear c103
                try clear c103b0
                try clear c103b1
                try clear c104
                try clear c104b0
                try clear c105
                try clear c105b0
                try clear c113
                try clear c113b0
                try clear c113b1
                try clear c114
                try clear c114b0
                try clear c115
                try clear c115b0
                try clear c123
                try clear c123b0
                try clear c123b1
                try clear c124
                try clear c124b0
                try clear c124b1
                try clear c126
                try clear c131
                try clear c131b0
                try clear c131b1
                try clear c133
                try clear hcz100_0
                try clear hcz100_1
                try clear hcz100_2
                try clear hcz100_3
                try clear hcz100_4
                try clear hcz100_5
                try clear hcz100_6
                try clear hcz100_7
                try clear hcz127_0
                try clear hcz127_1
                try clear hcz127_2
                try clear hcz127_3
                try clear hcz127_4
                try clear hcz127_5
                try clear hcz127_6
                try clear hcz127_7
                try clear hcz129_0
                try clear hcz129_1
                try clear hcz129_2
                try clear hcz129_3
                try clear hcz129_4
                try clear hcz129_5
                try clear hcz129_6
                try clear hcz129_7
                try clear hcz134_0
                try clear hcz134_1
                try clear hcz134_2
                try clear hcz134_3
                try clear hcz134_4
                try clear hcz134_5
                try clear hcz134_6
                try clear hcz134_7
                try clear hcz136_0
                try clear hcz136_1
                try clear hcz136_2
                try clear hcz136_3
                try clear hcz136_4
                try clear hcz136_5
                try clear hcz136_6
                try clear hcz136_7
                try clear hcz86_0
                try clear hcz86_1
                try clear hcz86_2
                try clear hcz86_3
                try clear hcz86_4
                try clear hcz86_5
                try clear hcz86_6
                try clear hcz86_7
                try clear hcz88_0
                try clear hcz88_1
                try clear hcz88_2
                try clear hcz88_3
                try clear hcz88_4
                try clear hcz88_5
                try clear hcz88_6
                try clear hcz88_7
                try clear hcz90_0
                try clear hcz90_1
                try clear hcz90_2
                try clear hcz90_3
                try clear hcz90_4
                try clear hcz90_5
                try clear hcz90_6
                try clear hcz90_7
                try clear hcz96_0
                try clear hcz96_1
                try clear hcz96_2
                try clear hcz96_3
                try clear hcz96_4
                try clear hcz96_5
                try clear hcz96_6
                try clear hcz96_7
                try clear hcz98_0
                try clear hcz98_1
                try clear hcz98_2
                try clear hcz98_3
                try clear hcz98_4
                try clear hcz98_5
                try clear hcz98_6
                try clear hcz98_7
                try clear hfz100_0
                try clear hfz100_1
                try clear hfz100_2
                try clear hfz100_3
                try clear hfz100_4
                try clear hfz100_5
                try clear hfz100_6
                try clear hfz100_7
                try clear hfz127_0
                try clear hfz127_1
                try clear hfz127_2
                try clear hfz127_3
                try clear hfz127_4
                try clear hfz127_5
                try clear hfz127_6
                try clear hfz127_7
                try clear hfz129_0
                try clear hfz129_1
                try clear hfz129_2
                try clear hfz129_3
                try clear hfz129_4
                try clear hfz129_5
                try clear hfz129_6
                try clear hfz129_7
                try clear hfz134_0
                try clear hfz134_1
                try clear hfz134_2
                try clear hfz134_3
                try clear hfz134_4
                try clear hfz134_5
                try clear hfz134_6
                try clear hfz134_7
                try clear hfz136_0
                try clear hfz136_1
                try clear hfz136_2
                try clear hfz136_3
                try clear hfz136_4
                try clear hfz136_5
                try clear hfz136_6
                try clear hfz136_7
                try clear hfz86_0
                try clear hfz86_1
                try clear hfz86_2
                try clear hfz86_3
                try clear hfz86_4
                try clear hfz86_5
                try clear hfz86_6
                try clear hfz86_7
                try clear hfz88_0
                try clear hfz88_1
                try clear hfz88_2
                try clear hfz88_3
                try clear hfz88_4
                try clear hfz88_5
                try clear hfz88_6
                try clear hfz88_7
                try clear hfz90_0
                try clear hfz90_1
                try clear hfz90_2
                try clear hfz90_3
                try clear hfz90_4
                try clear hfz90_5
                try clear hfz90_6
                try clear hfz90_7
                try clear hfz96_0
                try clear hfz96_1
                try clear hfz96_2
                try clear hfz96_3
                try clear hfz96_4
                try clear hfz96_5
                try clear hfz96_6
                try clear hfz96_7
                try clear hfz98_0
                try clear hfz98_1
                try clear hfz98_2
                try clear hfz98_3
                try clear hfz98_4
                try clear hfz98_5
                try clear hfz98_6
                try clear hfz98_7
                try clear hx181_0
                try clear hx181_1
                try clear hx181_2
                try clear hx181_3
                try clear hx187_0
                try clear hx187_1
                try clear hx187_2
                try clear hx187_3
                try clear p181
                try clear p187
                try clear q181
                try clear q187
                obtain ⟨x13_3, x149000_3, x149001_3, x149002_3, x149003_3, x149004_3, x149005_3, x149006_3, x149007_3, rfl, HA, HK3, BK147, BK148, HB⟩ := hrel
                cases gk with
                | zero => exact absurd HA.out (by simp [beaconlaw12_SessionMeets.l2])
                | succ k3 =>
                  have H := HA.out
                  clear HA
                  simp only [beaconlaw12_SessionMeets.l2] at H
                  by_cases c138 : x13_3 < 3
                  · rw [if_pos c138] at H
                    have c138b0 : decide (x13_3 < 3) = true := decide_eq_true c138
                    clear c138
                    by_cases c139 : (Go.bits .and .i64 x13_3 1) = 0
                    · rw [if_pos c139] at H
                      have c139b0 : ((Go.bits .and .i64 x13_3 1) == 0) = true := beq_iff_eq.mpr c139
                      have c139b1 : ((Go.bits .and .i64 x13_3 1) != 0) = false := bne_eq_false_iff_eq.mpr c139
                      replace H := Option.bind_eq_some_iff.mp H
                      obtain ⟨⟨t201, t202⟩, A1400, H⟩ := H
                      replace H : ((session_Hear.f k3 x149000_3 x149001_3 x149002_3 x149003_3 t201 t202).bind fun bt203 => (beaconlaw12_SessionMeets.l2 k3 (wrap64 (x13_3 + 1)) bt203.1 bt203.2.1 bt203.2.2.1 bt203.2.2.2.1 x149004_3 x149005_3 x149006_3 x149007_3)) = some r := H
                      have A140 := Aside0.mk A1400
                      clear A1400
                      replace H := Option.bind_eq_some_iff.mp H
                      obtain ⟨⟨t203, t204, t205, t206, t207, t208⟩, A1410, H⟩ := H
                      replace H : (beaconlaw12_SessionMeets.l2 k3 (wrap64 (x13_3 + 1)) t203 t204 t205 t206 x149004_3 x149005_3 x149006_3 x149007_3) = some r := H
                      have A141 := Aside0.mk A1410
                      clear A1410
                      have H' := Aside0.mk H
                      clear H
                      have hnb142 := NB148_147.out
                      have hnc142 := NB147_148.out
                      have hcz143_0 : wr.cell? ⟨gb148, 0, none⟩ = some (.int .u64 x149000_3) := (blk_cell BK148.out 0).trans rfl
                      have hcz143_1 : wr.cell? ⟨gb148, 1, none⟩ = some (.int .u64 x149001_3) := (blk_cell BK148.out 1).trans rfl
                      have hcz143_2 : wr.cell? ⟨gb148, 2, none⟩ = some (.bool x149002_3) := (blk_cell BK148.out 2).trans rfl
                      have hcz143_3 : wr.cell? ⟨gb148, 3, none⟩ = some (.int .i64 x149003_3) := (blk_cell BK148.out 3).trans rfl
                      have hcz143_4 : wr.cell? ⟨gb148, 4, none⟩ = some (.int .u64 x149004_3) := (blk_cell BK148.out 4).trans rfl
                      have hcz143_5 : wr.cell? ⟨gb148, 5, none⟩ = some (.int .u64 x149005_3) := (blk_cell BK148.out 5).trans rfl
                      have hcz143_6 : wr.cell? ⟨gb148, 6, none⟩ = some (.bool x149006_3) := (blk_cell BK148.out 6).trans rfl
                      have hcz143_7 : wr.cell? ⟨gb148, 7, none⟩ = some (.int .i64 x149007_3) := (blk_cell BK148.out 7).trans rfl
                      have hfz143_0 := blk_frozen BK148.out 0
                      have hfz143_1 := blk_frozen BK148.out 1
                      have hfz143_2 := blk_frozen BK148.out 2
                      have hfz143_3 := blk_frozen BK148.out 3
                      have hfz143_4 := blk_frozen BK148.out 4
                      have hfz143_5 := blk_frozen BK148.out 5
                      have hfz143_6 := blk_frozen BK148.out 6
                      have hfz143_7 := blk_frozen BK148.out 7
                      go_wp2_with (first | ((with_reducible refine gate_callee (f := 9) rfl ?_); refine goesL_ (some 116) rfl rfl Try.func9 (by kernel_rfl) rfl #[.agg #[.int .u64 x149004_3, .int .u64 x149005_3, .bool x149006_3, .int .i64 x149007_3]] rfl (by (try simp only [List.map_toArray, List.map_cons, List.map_nil]); first | done | rfl | (simp only [List.length_drop, List.length_take]; rfl)) ?_; (with_reducible refine (session_Hello.calls x149004_3 x149005_3 x149006_3 x149007_3 t201 t202 _ A140.out).mono ?_); rintro e w144 ⟨rfl, hb⟩; refine ⟨_, rfl, ?_⟩; have n0_ := Aside0.mk (blk_below (g := gb147) (o := .cells #[.int .u64 a0_0, .int .u64 a0_1] 23 (0, 0)) (by (with_reducible repeat (first | refine blk_drewN ?_ _ | refine blk_drew ?_ | refine blk_alloc ?_ _)); exact BK147.out) hb); have n1_ := Aside0.mk (blk_below (g := gb148) (o := .cells #[.int .u64 x149000_3, .int .u64 x149001_3, .bool x149002_3, .int .i64 x149003_3, .int .u64 x149004_3, .int .u64 x149005_3, .bool x149006_3, .int .i64 x149007_3] 27 (0, 0)) (by (with_reducible repeat (first | refine blk_drewN ?_ _ | refine blk_drew ?_ | refine blk_alloc ?_ _)); exact BK148.out) hb); have n2_ := Aside0.mk (below_step (by repeat (first | (with_reducible first | exact HB.out | apply below_alloc | apply pw_below_drewN | apply below_drew1 | refine below_set ?_ GE147.out | refine below_set ?_ GE148.out) | exact HB.out)) hb); clear BK147; clear BK148; clear HB; have BK147 := n0_; have BK148 := n1_; have HB := n2_; clear n0_ n1_ n2_; (try clear hb); (try clear hb2); (try clear hk); (try clear hi); have hcz145_0 : w144.cell? ⟨gb148, 0, none⟩ = some (.int .u64 x149000_3) := (blk_cell BK148.out 0).trans rfl; have hcz145_1 : w144.cell? ⟨gb148, 1, none⟩ = some (.int .u64 x149001_3) := (blk_cell BK148.out 1).trans rfl; have hcz145_2 : w144.cell? ⟨gb148, 2, none⟩ = some (.bool x149002_3) := (blk_cell BK148.out 2).trans rfl; have hcz145_3 : w144.cell? ⟨gb148, 3, none⟩ = some (.int .i64 x149003_3) := (blk_cell BK148.out 3).trans rfl; have hcz145_4 : w144.cell? ⟨gb148, 4, none⟩ = some (.int .u64 x149004_3) := (blk_cell BK148.out 4).trans rfl; have hcz145_5 : w144.cell? ⟨gb148, 5, none⟩ = some (.int .u64 x149005_3) := (blk_cell BK148.out 5).trans rfl; have hcz145_6 : w144.cell? ⟨gb148, 6, none⟩ = some (.bool x149006_3) := (blk_cell BK148.out 6).trans rfl; have hcz145_7 : w144.cell? ⟨gb148, 7, none⟩ = some (.int .i64 x149007_3) := (blk_cell BK148.out 7).trans rfl; have hfz145_0 := blk_frozen BK148.out 0; have hfz145_1 := blk_frozen BK148.out 1; have hfz145_2 := blk_frozen BK148.out 2; have hfz145_3 := blk_frozen BK148.out 3; have hfz145_4 := blk_frozen BK148.out 4; have hfz145_5 := blk_frozen BK148.out 5; have hfz145_6 := blk_frozen BK148.out 6; have hfz145_7 := blk_frozen BK148.out 7) | ((with_reducible refine gate_callee (f := 10) rfl ?_); refine goesL_ (some 126) rfl rfl Try.func10 (by kernel_rfl) rfl #[.agg #[.int .u64 x149000_3, .int .u64 x149001_3, .bool x149002_3, .int .i64 x149003_3], .int .u64 t201, .int .u64 t202] rfl (by (try simp only [List.map_toArray, List.map_cons, List.map_nil]); first | done | rfl | (simp only [List.length_drop, List.length_take]; rfl)) ?_; (with_reducible refine (session_Hear.calls k3 x149000_3 x149001_3 x149002_3 x149003_3 t201 t202 t203 t204 t205 t206 t207 t208 _ A141.out).mono ?_); rintro e w146 ⟨rfl, hb⟩; refine ⟨_, rfl, ?_⟩; have n0_ := Aside0.mk (blk_below (g := gb147) (o := .cells #[.int .u64 a0_0, .int .u64 a0_1] 23 (0, 0)) (by (with_reducible repeat (first | refine blk_drewN ?_ _ | refine blk_drew ?_ | refine blk_alloc ?_ _)); exact BK147.out) hb); have n1_ := Aside0.mk (blk_below (g := gb148) (o := .cells #[.int .u64 x149000_3, .int .u64 x149001_3, .bool x149002_3, .int .i64 x149003_3, .int .u64 x149004_3, .int .u64 x149005_3, .bool x149006_3, .int .i64 x149007_3] 27 (0, 0)) (by (with_reducible repeat (first | refine blk_drewN ?_ _ | refine blk_drew ?_ | refine blk_alloc ?_ _)); exact BK148.out) hb); have n2_ := Aside0.mk (below_step (by repeat (first | (with_reducible first | exact HB.out | apply below_alloc | apply pw_below_drewN | apply below_drew1 | refine below_set ?_ GE147.out | refine below_set ?_ GE148.out) | exact HB.out)) hb); clear BK147; clear BK148; clear HB; have BK147 := n0_; have BK148 := n1_; have HB := n2_; clear n0_ n1_ n2_; (try clear hb); (try clear hb2); (try clear hk); (try clear hi); have hcz147_0 : w146.cell? ⟨gb148, 0, none⟩ = some (.int .u64 x149000_3) := (blk_cell BK148.out 0).trans rfl; have hcz147_1 : w146.cell? ⟨gb148, 1, none⟩ = some (.int .u64 x149001_3) := (blk_cell BK148.out 1).trans rfl; have hcz147_2 : w146.cell? ⟨gb148, 2, none⟩ = some (.bool x149002_3) := (blk_cell BK148.out 2).trans rfl; have hcz147_3 : w146.cell? ⟨gb148, 3, none⟩ = some (.int .i64 x149003_3) := (blk_cell BK148.out 3).trans rfl; have hcz147_4 : w146.cell? ⟨gb148, 4, none⟩ = some (.int .u64 x149004_3) := (blk_cell BK148.out 4).trans rfl; have hcz147_5 : w146.cell? ⟨gb148, 5, none⟩ = some (.int .u64 x149005_3) := (blk_cell BK148.out 5).trans rfl; have hcz147_6 : w146.cell? ⟨gb148, 6, none⟩ = some (.bool x149006_3) := (blk_cell BK148.out 6).trans rfl; have hcz147_7 : w146.cell? ⟨gb148, 7, none⟩ = some (.int .i64 x149007_3) := (blk_cell BK148.out 7).trans rfl; have hfz147_0 := blk_frozen BK148.out 0; have hfz147_1 := blk_frozen BK148.out 1; have hfz147_2 := blk_frozen BK148.out 2; have hfz147_3 := blk_frozen BK148.out 3; have hfz147_4 := blk_frozen BK148.out 4; have hfz147_5 := blk_frozen BK148.out 5; have hfz147_6 := blk_frozen BK148.out 6; have hfz147_7 := blk_frozen BK148.out 7) | ((with_reducible refine gate_store (t := 26) (p := 130) rfl ?_); refine store_event (t := 26) (p := 130) (v := ?vo_w148) (w1 := ((((w146.setCell ⟨gb148, 0, none⟩ (.int .u64 t203)).setCell ⟨gb148, 1, none⟩ (.int .u64 t204)).setCell ⟨gb148, 2, none⟩ (.bool t205)).setCell ⟨gb148, 3, none⟩ (.int .i64 t206))) ?hg ?ho ?hn ?hr ?_; (case ho => rfl); (case hg => rfl); (case hn => rfl); (case hr => first | (go_simp; done) | (go_simp; rfl)); intro w148 hw; have n0_ : Aside0 (w148.heap[gb147]? = some (.cells #[.int .u64 a0_0, .int .u64 a0_1] 23 (0, 0))) := ⟨(by rw [hw]; exact (by (with_reducible repeat (first | refine blk_drewN ?_ _ | refine blk_drew ?_ | refine blk_alloc ?_ _)); refine blk_far ?_ NB147_148.out _; (with_reducible repeat (first | refine blk_drewN ?_ _ | refine blk_drew ?_ | refine blk_alloc ?_ _)); refine blk_far ?_ NB147_148.out _; (with_reducible repeat (first | refine blk_drewN ?_ _ | refine blk_drew ?_ | refine blk_alloc ?_ _)); refine blk_far ?_ NB147_148.out _; (with_reducible repeat (first | refine blk_drewN ?_ _ | refine blk_drew ?_ | refine blk_alloc ?_ _)); refine blk_far ?_ NB147_148.out _; (with_reducible repeat (first | refine blk_drewN ?_ _ | refine blk_drew ?_ | refine blk_alloc ?_ _)); exact BK147.out))⟩; have n1_ : Aside0 (w148.heap[gb148]? = some (.cells #[.int .u64 t203, .int .u64 t204, .bool t205, .int .i64 t206, .int .u64 x149004_3, .int .u64 x149005_3, .bool x149006_3, .int .i64 x149007_3] 27 (0, 0))) := ⟨(by rw [hw]; exact (by (with_reducible repeat (first | refine blk_drewN ?_ _ | refine blk_drew ?_ | refine blk_alloc ?_ _)); refine blk_put (cs := #[.int .u64 t203, .int .u64 t204, .bool t205, .int .i64 x149003_3, .int .u64 x149004_3, .int .u64 x149005_3, .bool x149006_3, .int .i64 x149007_3]) ?_ 3 _ rfl; (with_reducible repeat (first | refine blk_drewN ?_ _ | refine blk_drew ?_ | refine blk_alloc ?_ _)); refine blk_put (cs := #[.int .u64 t203, .int .u64 t204, .bool x149002_3, .int .i64 x149003_3, .int .u64 x149004_3, .int .u64 x149005_3, .bool x149006_3, .int .i64 x149007_3]) ?_ 2 _ rfl; (with_reducible repeat (first | refine blk_drewN ?_ _ | refine blk_drew ?_ | refine blk_alloc ?_ _)); refine blk_put (cs := #[.int .u64 t203, .int .u64 x149001_3, .bool x149002_3, .int .i64 x149003_3, .int .u64 x149004_3, .int .u64 x149005_3, .bool x149006_3, .int .i64 x149007_3]) ?_ 1 _ rfl; (with_reducible repeat (first | refine blk_drewN ?_ _ | refine blk_drew ?_ | refine blk_alloc ?_ _)); refine blk_put (cs := #[.int .u64 x149000_3, .int .u64 x149001_3, .bool x149002_3, .int .i64 x149003_3, .int .u64 x149004_3, .int .u64 x149005_3, .bool x149006_3, .int .i64 x149007_3]) ?_ 0 _ rfl; (with_reducible repeat (first | refine blk_drewN ?_ _ | refine blk_drew ?_ | refine blk_alloc ?_ _)); exact BK148.out))⟩; have n2_ : Aside0 (Below w.heap.size w w148) := ⟨(by rw [hw]; exact (by repeat (first | (with_reducible first | exact HB.out | apply below_alloc | apply pw_below_drewN | apply below_drew1 | refine below_set ?_ GE147.out | refine below_set ?_ GE148.out) | exact HB.out)))⟩; clear hw; clear BK147; clear BK148; clear HB; have BK147 := n0_; have BK148 := n1_; have HB := n2_; clear n0_ n1_ n2_))
                      go_roundg k3
                      case measure => have := HK1.out; have := HK2.out; have := HK3.out; omega
                      case rel => exact ⟨(wrap64 (x13_3 + 1)), (t203), (t204), (t205), (t206), (x149004_3), (x149005_3), (x149006_3), (x149007_3), (by first | rfl | (simp; done) | (simp [*]; done)), H', ⟨by have := HK1.out; have := HK2.out; have := HK3.out; omega⟩, ⟨by (with_reducible repeat (first | refine blk_drewN ?_ _ | refine blk_drew ?_ | refine blk_alloc ?_ _)); exact BK147.out⟩, ⟨by (with_reducible repeat (first | refine blk_drewN ?_ _ | refine blk_drew ?_ | refine blk_alloc ?_ _)); exact BK148.out⟩, ⟨by repeat (first | (with_reducible first | exact HB.out | apply below_alloc | apply pw_below_drewN | apply below_drew1 | refine below_set ?_ GE147.out | refine below_set ?_ GE148.out) | exact HB.out)⟩⟩
                    · rw [if_neg c139] at H
                      have c139b0 : ((Go.bits .and .i64 x13_3 1) == 0) = false := beq_eq_false_iff_ne.mpr c139
                      have c139b1 : ((Go.bits .and .i64 x13_3 1) != 0) = true := bne_iff_ne.mpr c139
                      by_cases c149 : (Go.bits .and .i64 x13_3 1) = 1
                      · rw [if_pos c149] at H
                        have c149b0 : ((Go.bits .and .i64 x13_3 1) == 1) = true := beq_iff_eq.mpr c149
                        have c149b1 : ((Go.bits .and .i64 x13_3 1) != 1) = false := bne_eq_false_iff_eq.mpr c149
                        replace H := Option.bind_eq_some_iff.mp H
                        obtain ⟨⟨t209, t210⟩, A1500, H⟩ := H
                        replace H : ((session_Hear.f k3 x149004_3 x149005_3 x149006_3 x149007_3 t209 t210).bind fun bt211 => (beaconlaw12_SessionMeets.l2 k3 (wrap64 (x13_3 + 1)) x149000_3 x149001_3 x149002_3 x149003_3 bt211.1 bt211.2.1 bt211.2.2.1 bt211.2.2.2.1)) = some r := H
                        have A150 := Aside0.mk A1500
                        clear A1500
                        replace H := Option.bind_eq_some_iff.mp H
                        obtain ⟨⟨t211, t212, t213, t214, t215, t216⟩, A1510, H⟩ := H
                        replace H : (beaconlaw12_SessionMeets.l2 k3 (wrap64 (x13_3 + 1)) x149000_3 x149001_3 x149002_3 x149003_3 t211 t212 t213 t214) = some r := H
                        have A151 := Aside0.mk A1510
                        clear A1510
                        have H' := Aside0.mk H
                        clear H
                        have hnb152 := NB148_147.out
                        have hnc152 := NB147_148.out
                        have hcz153_0 : wr.cell? ⟨gb148, 0, none⟩ = some (.int .u64 x149000_3) := (blk_cell BK148.out 0).trans rfl
                        have hcz153_1 : wr.cell? ⟨gb148, 1, none⟩ = some (.int .u64 x149001_3) := (blk_cell BK148.out 1).trans rfl
                        have hcz153_2 : wr.cell? ⟨gb148, 2, none⟩ = some (.bool x149002_3) := (blk_cell BK148.out 2).trans rfl
                        have hcz153_3 : wr.cell? ⟨gb148, 3, none⟩ = some (.int .i64 x149003_3) := (blk_cell BK148.out 3).trans rfl
                        have hcz153_4 : wr.cell? ⟨gb148, 4, none⟩ = some (.int .u64 x149004_3) := (blk_cell BK148.out 4).trans rfl
                        have hcz153_5 : wr.cell? ⟨gb148, 5, none⟩ = some (.int .u64 x149005_3) := (blk_cell BK148.out 5).trans rfl
                        have hcz153_6 : wr.cell? ⟨gb148, 6, none⟩ = some (.bool x149006_3) := (blk_cell BK148.out 6).trans rfl
                        have hcz153_7 : wr.cell? ⟨gb148, 7, none⟩ = some (.int .i64 x149007_3) := (blk_cell BK148.out 7).trans rfl
                        have hfz153_0 := blk_frozen BK148.out 0
                        have hfz153_1 := blk_frozen BK148.out 1
                        have hfz153_2 := blk_frozen BK148.out 2
                        have hfz153_3 := blk_frozen BK148.out 3
                        have hfz153_4 := blk_frozen BK148.out 4
                        have hfz153_5 := blk_frozen BK148.out 5
                        have hfz153_6 := blk_frozen BK148.out 6
                        have hfz153_7 := blk_frozen BK148.out 7
                        go_wp2_with (first | ((with_reducible refine gate_callee (f := 9) rfl ?_); refine goesL_ (some 116) rfl rfl Try.func9 (by kernel_rfl) rfl #[.agg #[.int .u64 x149000_3, .int .u64 x149001_3, .bool x149002_3, .int .i64 x149003_3]] rfl (by (try simp only [List.map_toArray, List.map_cons, List.map_nil]); first | done | rfl | (simp only [List.length_drop, List.length_take]; rfl)) ?_; (with_reducible refine (session_Hello.calls x149000_3 x149001_3 x149002_3 x149003_3 t209 t210 _ A150.out).mono ?_); rintro e w154 ⟨rfl, hb⟩; refine ⟨_, rfl, ?_⟩; have n0_ := Aside0.mk (blk_below (g := gb147) (o := .cells #[.int .u64 a0_0, .int .u64 a0_1] 23 (0, 0)) (by (with_reducible repeat (first | refine blk_drewN ?_ _ | refine blk_drew ?_ | refine blk_alloc ?_ _)); exact BK147.out) hb); have n1_ := Aside0.mk (blk_below (g := gb148) (o := .cells #[.int .u64 x149000_3, .int .u64 x149001_3, .bool x149002_3, .int .i64 x149003_3, .int .u64 x149004_3, .int .u64 x149005_3, .bool x149006_3, .int .i64 x149007_3] 27 (0, 0)) (by (with_reducible repeat (first | refine blk_drewN ?_ _ | refine blk_drew ?_ | refine blk_alloc ?_ _)); exact BK148.out) hb); have n2_ := Aside0.mk (below_step (by repeat (first | (with_reducible first | exact HB.out | apply below_alloc | apply pw_below_drewN | apply below_drew1 | refine below_set ?_ GE147.out | refine below_set ?_ GE148.out) | exact HB.out)) hb); clear BK147; clear BK148; clear HB; have BK147 := n0_; have BK148 := n1_; have HB := n2_; clear n0_ n1_ n2_; (try clear hb); (try clear hb2); (try clear hk); (try clear hi); have hcz155_0 : w154.cell? ⟨gb148, 0, none⟩ = some (.int .u64 x149000_3) := (blk_cell BK148.out 0).trans rfl; have hcz155_1 : w154.cell? ⟨gb148, 1, none⟩ = some (.int .u64 x149001_3) := (blk_cell BK148.out 1).trans rfl; have hcz155_2 : w154.cell? ⟨gb148, 2, none⟩ = some (.bool x149002_3) := (blk_cell BK148.out 2).trans rfl; have hcz155_3 : w154.cell? ⟨gb148, 3, none⟩ = some (.int .i64 x149003_3) := (blk_cell BK148.out 3).trans rfl; have hcz155_4 : w154.cell? ⟨gb148, 4, none⟩ = some (.int .u64 x149004_3) := (blk_cell BK148.out 4).trans rfl; have hcz155_5 : w154.cell? ⟨gb148, 5, none⟩ = some (.int .u64 x149005_3) := (blk_cell BK148.out 5).trans rfl; have hcz155_6 : w154.cell? ⟨gb148, 6, none⟩ = some (.bool x149006_3) := (blk_cell BK148.out 6).trans rfl; have hcz155_7 : w154.cell? ⟨gb148, 7, none⟩ = some (.int .i64 x149007_3) := (blk_cell BK148.out 7).trans rfl; have hfz155_0 := blk_frozen BK148.out 0; have hfz155_1 := blk_frozen BK148.out 1; have hfz155_2 := blk_frozen BK148.out 2; have hfz155_3 := blk_frozen BK148.out 3; have hfz155_4 := blk_frozen BK148.out 4; have hfz155_5 := blk_frozen BK148.out 5; have hfz155_6 := blk_frozen BK148.out 6; have hfz155_7 := blk_frozen BK148.out 7) | ((with_reducible refine gate_callee (f := 10) rfl ?_); refine goesL_ (some 126) rfl rfl Try.func10 (by kernel_rfl) rfl #[.agg #[.int .u64 x149004_3, .int .u64 x149005_3, .bool x149006_3, .int .i64 x149007_3], .int .u64 t209, .int .u64 t210] rfl (by (try simp only [List.map_toArray, List.map_cons, List.map_nil]); first | done | rfl | (simp only [List.length_drop, List.length_take]; rfl)) ?_; (with_reducible refine (session_Hear.calls k3 x149004_3 x149005_3 x149006_3 x149007_3 t209 t210 t211 t212 t213 t214 t215 t216 _ A151.out).mono ?_); rintro e w156 ⟨rfl, hb⟩; refine ⟨_, rfl, ?_⟩; have n0_ := Aside0.mk (blk_below (g := gb147) (o := .cells #[.int .u64 a0_0, .int .u64 a0_1] 23 (0, 0)) (by (with_reducible repeat (first | refine blk_drewN ?_ _ | refine blk_drew ?_ | refine blk_alloc ?_ _)); exact BK147.out) hb); have n1_ := Aside0.mk (blk_below (g := gb148) (o := .cells #[.int .u64 x149000_3, .int .u64 x149001_3, .bool x149002_3, .int .i64 x149003_3, .int .u64 x149004_3, .int .u64 x149005_3, .bool x149006_3, .int .i64 x149007_3] 27 (0, 0)) (by (with_reducible repeat (first | refine blk_drewN ?_ _ | refine blk_drew ?_ | refine blk_alloc ?_ _)); exact BK148.out) hb); have n2_ := Aside0.mk (below_step (by repeat (first | (with_reducible first | exact HB.out | apply below_alloc | apply pw_below_drewN | apply below_drew1 | refine below_set ?_ GE147.out | refine below_set ?_ GE148.out) | exact HB.out)) hb); clear BK147; clear BK148; clear HB; have BK147 := n0_; have BK148 := n1_; have HB := n2_; clear n0_ n1_ n2_; (try clear hb); (try clear hb2); (try clear hk); (try clear hi); have hcz157_0 : w156.cell? ⟨gb148, 0, none⟩ = some (.int .u64 x149000_3) := (blk_cell BK148.out 0).trans rfl; have hcz157_1 : w156.cell? ⟨gb148, 1, none⟩ = some (.int .u64 x149001_3) := (blk_cell BK148.out 1).trans rfl; have hcz157_2 : w156.cell? ⟨gb148, 2, none⟩ = some (.bool x149002_3) := (blk_cell BK148.out 2).trans rfl; have hcz157_3 : w156.cell? ⟨gb148, 3, none⟩ = some (.int .i64 x149003_3) := (blk_cell BK148.out 3).trans rfl; have hcz157_4 : w156.cell? ⟨gb148, 4, none⟩ = some (.int .u64 x149004_3) := (blk_cell BK148.out 4).trans rfl; have hcz157_5 : w156.cell? ⟨gb148, 5, none⟩ = some (.int .u64 x149005_3) := (blk_cell BK148.out 5).trans rfl; have hcz157_6 : w156.cell? ⟨gb148, 6, none⟩ = some (.bool x149006_3) := (blk_cell BK148.out 6).trans rfl; have hcz157_7 : w156.cell? ⟨gb148, 7, none⟩ = some (.int .i64 x149007_3) := (blk_cell BK148.out 7).trans rfl; have hfz157_0 := blk_frozen BK148.out 0; have hfz157_1 := blk_frozen BK148.out 1; have hfz157_2 := blk_frozen BK148.out 2; have hfz157_3 := blk_frozen BK148.out 3; have hfz157_4 := blk_frozen BK148.out 4; have hfz157_5 := blk_frozen BK148.out 5; have hfz157_6 := blk_frozen BK148.out 6; have hfz157_7 := blk_frozen BK148.out 7) | ((with_reducible refine gate_store (t := 26) (p := 130) rfl ?_); refine store_event (t := 26) (p := 130) (v := ?vo_w158) (w1 := ((((w156.setCell ⟨gb148, 4, none⟩ (.int .u64 t211)).setCell ⟨gb148, 5, none⟩ (.int .u64 t212)).setCell ⟨gb148, 6, none⟩ (.bool t213)).setCell ⟨gb148, 7, none⟩ (.int .i64 t214))) ?hg ?ho ?hn ?hr ?_; (case ho => rfl); (case hg => rfl); (case hn => rfl); (case hr => first | (go_simp; done) | (go_simp; rfl)); intro w158 hw; have n0_ : Aside0 (w158.heap[gb147]? = some (.cells #[.int .u64 a0_0, .int .u64 a0_1] 23 (0, 0))) := ⟨(by rw [hw]; exact (by (with_reducible repeat (first | refine blk_drewN ?_ _ | refine blk_drew ?_ | refine blk_alloc ?_ _)); refine blk_far ?_ NB147_148.out _; (with_reducible repeat (first | refine blk_drewN ?_ _ | refine blk_drew ?_ | refine blk_alloc ?_ _)); refine blk_far ?_ NB147_148.out _; (with_reducible repeat (first | refine blk_drewN ?_ _ | refine blk_drew ?_ | refine blk_alloc ?_ _)); refine blk_far ?_ NB147_148.out _; (with_reducible repeat (first | refine blk_drewN ?_ _ | refine blk_drew ?_ | refine blk_alloc ?_ _)); refine blk_far ?_ NB147_148.out _; (with_reducible repeat (first | refine blk_drewN ?_ _ | refine blk_drew ?_ | refine blk_alloc ?_ _)); exact BK147.out))⟩; have n1_ : Aside0 (w158.heap[gb148]? = some (.cells #[.int .u64 x149000_3, .int .u64 x149001_3, .bool x149002_3, .int .i64 x149003_3, .int .u64 t211, .int .u64 t212, .bool t213, .int .i64 t214] 27 (0, 0))) := ⟨(by rw [hw]; exact (by (with_reducible repeat (first | refine blk_drewN ?_ _ | refine blk_drew ?_ | refine blk_alloc ?_ _)); refine blk_put (cs := #[.int .u64 x149000_3, .int .u64 x149001_3, .bool x149002_3, .int .i64 x149003_3, .int .u64 t211, .int .u64 t212, .bool t213, .int .i64 x149007_3]) ?_ 7 _ rfl; (with_reducible repeat (first | refine blk_drewN ?_ _ | refine blk_drew ?_ | refine blk_alloc ?_ _)); refine blk_put (cs := #[.int .u64 x149000_3, .int .u64 x149001_3, .bool x149002_3, .int .i64 x149003_3, .int .u64 t211, .int .u64 t212, .bool x149006_3, .int .i64 x149007_3]) ?_ 6 _ rfl; (with_reducible repeat (first | refine blk_drewN ?_ _ | refine blk_drew ?_ | refine blk_alloc ?_ _)); refine blk_put (cs := #[.int .u64 x149000_3, .int .u64 x149001_3, .bool x149002_3, .int .i64 x149003_3, .int .u64 t211, .int .u64 x149005_3, .bool x149006_3, .int .i64 x149007_3]) ?_ 5 _ rfl; (with_reducible repeat (first | refine blk_drewN ?_ _ | refine blk_drew ?_ | refine blk_alloc ?_ _)); refine blk_put (cs := #[.int .u64 x149000_3, .int .u64 x149001_3, .bool x149002_3, .int .i64 x149003_3, .int .u64 x149004_3, .int .u64 x149005_3, .bool x149006_3, .int .i64 x149007_3]) ?_ 4 _ rfl; (with_reducible repeat (first | refine blk_drewN ?_ _ | refine blk_drew ?_ | refine blk_alloc ?_ _)); exact BK148.out))⟩; have n2_ : Aside0 (Below w.heap.size w w158) := ⟨(by rw [hw]; exact (by repeat (first | (with_reducible first | exact HB.out | apply below_alloc | apply pw_below_drewN | apply below_drew1 | refine below_set ?_ GE147.out | refine below_set ?_ GE148.out) | exact HB.out)))⟩; clear hw; clear BK147; clear BK148; clear HB; have BK147 := n0_; have BK148 := n1_; have HB := n2_; clear n0_ n1_ n2_))
                        go_roundg k3
                        case measure => have := HK1.out; have := HK2.out; have := HK3.out; omega
                        case rel => exact ⟨(wrap64 (x13_3 + 1)), (x149000_3), (x149001_3), (x149002_3), (x149003_3), (t211), (t212), (t213), (t214), (by first | rfl | (simp; done) | (simp [*]; done)), H', ⟨by have := HK1.out; have := HK2.out; have := HK3.out; omega⟩, ⟨by (with_reducible repeat (first | refine blk_drewN ?_ _ | refine blk_drew ?_ | refine blk_alloc ?_ _)); exact BK147.out⟩, ⟨by (with_reducible repeat (first | refine blk_drewN ?_ _ | refine blk_drew ?_ | refine blk_alloc ?_ _)); exact BK148.out⟩, ⟨by repeat (first | (with_reducible first | exact HB.out | apply below_alloc | apply pw_below_drewN | apply below_drew1 | refine below_set ?_ GE147.out | refine below_set ?_ GE148.out) | exact HB.out)⟩⟩
                      · rw [if_neg c149] at H
                        exact absurd H (by simp)
                  · rw [if_neg c138] at H
                    have c138b0 : decide (x13_3 < 3) = false := decide_eq_false c138
                    clear c138
                    by_cases c159 : x149002_3 = true
                    · subst c159
                      have H1 : (if x149006_3 = true then (if x149001_3 = x149004_3 then (if x149005_3 = x149000_3 then ((beaconlaw12_awake.f k3).bind fun t217 => (some t217)) else (some false)) else (some false)) else (some false)) = some r := by rw [if_pos rfl] at H; exact H
                      clear H
                      have H := H1
                      clear H1
                      by_cases c160 : x149006_3 = true
                      · subst c160
                        have H1 : (if x149001_3 = x149004_3 then (if x149005_3 = x149000_3 then ((beaconlaw12_awake.f k3).bind fun t217 => (some t217)) else (some false)) else (some false)) = some r := by rw [if_pos rfl] at H; exact H
                        clear H
                        have H := H1
                        clear H1
                        by_cases c161 : x149001_3 = x149004_3
                        · rw [if_pos c161] at H
                          have c161b0 : (x149001_3 == x149004_3) = true := beq_iff_eq.mpr c161
                          have c161b1 : (x149001_3 != x149004_3) = false := bne_eq_false_iff_eq.mpr c161
                          clear c161
                          by_cases c162 : x149005_3 = x149000_3
                          · rw [if_pos c162] at H
                            have c162b0 : (x149005_3 == x149000_3) = true := beq_iff_eq.mpr c162
                            have c162b1 : (x149005_3 != x149000_3) = false := bne_eq_false_iff_eq.mpr c162
                            clear c162
                            replace H := Option.bind_eq_some_iff.mp H
                            obtain ⟨t217, A1630, H⟩ := H
                            replace H : (some t217) = some r := H
                            have A163 := Aside0.mk A1630
                            clear A1630
                            obtain rfl := Option.some.inj H
                            have hnb164 := NB148_147.out
                            have hnc164 := NB147_148.out
                            have hcz165_0 : wr.cell? ⟨gb148, 0, none⟩ = some (.int .u64 x149000_3) := (blk_cell BK148.out 0).trans rfl
                            have hcz165_1 : wr.cell? ⟨gb148, 1, none⟩ = some (.int .u64 x149001_3) := (blk_cell BK148.out 1).trans rfl
                            have hcz165_2 : wr.cell? ⟨gb148, 2, none⟩ = some (.bool true) := (blk_cell BK148.out 2).trans rfl
                            have hcz165_3 : wr.cell? ⟨gb148, 3, none⟩ = some (.int .i64 x149003_3) := (blk_cell BK148.out 3).trans rfl
                            have hcz165_4 : wr.cell? ⟨gb148, 4, none⟩ = some (.int .u64 x149004_3) := (blk_cell BK148.out 4).trans rfl
                            have hcz165_5 : wr.cell? ⟨gb148, 5, none⟩ = some (.int .u64 x149005_3) := (blk_cell BK148.out 5).trans rfl
                            have hcz165_6 : wr.cell? ⟨gb148, 6, none⟩ = some (.bool true) := (blk_cell BK148.out 6).trans rfl
                            have hcz165_7 : wr.cell? ⟨gb148, 7, none⟩ = some (.int .i64 x149007_3) := (blk_cell BK148.out 7).trans rfl
                            have hfz165_0 := blk_frozen BK148.out 0
                            have hfz165_1 := blk_frozen BK148.out 1
                            have hfz165_2 := blk_frozen BK148.out 2
                            have hfz165_3 := blk_frozen BK148.out 3
                            have hfz165_4 := blk_frozen BK148.out 4
                            have hfz165_5 := blk_frozen BK148.out 5
                            have hfz165_6 := blk_frozen BK148.out 6
                            have hfz165_7 := blk_frozen BK148.out 7
                            go_wp2_with (first | (go_at_call 8; (with_reducible refine (beaconlaw12_awake.calls k3  t217 _ A163.out).mono ?_); rintro e w166 ⟨rfl, hb⟩; have n0_ := Aside0.mk (blk_below (g := gb147) (o := .cells #[.int .u64 a0_0, .int .u64 a0_1] 23 (0, 0)) (by (with_reducible repeat (first | refine blk_drewN ?_ _ | refine blk_drew ?_ | refine blk_alloc ?_ _)); exact BK147.out) hb); have n1_ := Aside0.mk (blk_below (g := gb148) (o := .cells #[.int .u64 x149000_3, .int .u64 x149001_3, .bool true, .int .i64 x149003_3, .int .u64 x149004_3, .int .u64 x149005_3, .bool true, .int .i64 x149007_3] 27 (0, 0)) (by (with_reducible repeat (first | refine blk_drewN ?_ _ | refine blk_drew ?_ | refine blk_alloc ?_ _)); exact BK148.out) hb); have n2_ := Aside0.mk (below_step (by repeat (first | (with_reducible first | exact HB.out | apply below_alloc | apply pw_below_drewN | apply below_drew1 | refine below_set ?_ GE147.out | refine below_set ?_ GE148.out) | exact HB.out)) hb); clear BK147; clear BK148; clear HB; have BK147 := n0_; have BK148 := n1_; have HB := n2_; clear n0_ n1_ n2_; (try clear hb); (try clear hb2); (try clear hk); (try clear hi)))
                            go_ret
                            exact ⟨by first | rfl | (simp [errW_none, errW_some] <;> rfl) | (simp [*, errW_none, errW_some] <;> rfl), by repeat (first | (with_reducible first | exact HB.out | apply below_alloc | apply pw_below_drewN | apply below_drew1 | refine below_set ?_ GE147.out | refine below_set ?_ GE148.out) | exact HB.out)⟩
                          · rw [if_neg c162] at H
                            have c162b0 : (x149005_3 == x149000_3) = false := beq_eq_false_iff_ne.mpr c162
                            have c162b1 : (x149005_3 != x149000_3) = true := bne_iff_ne.mpr c162
                            obtain rfl := Option.some.inj H
                            have hnb167 := NB148_147.out
                            have hnc167 := NB147_148.out
                            have hcz168_0 : wr.cell? ⟨gb148, 0, none⟩ = some (.int .u64 x149000_3) := (blk_cell BK148.out 0).trans rfl
                            have hcz168_1 : wr.cell? ⟨gb148, 1, none⟩ = some (.int .u64 x149001_3) := (blk_cell BK148.out 1).trans rfl
                            have hcz168_2 : wr.cell? ⟨gb148, 2, none⟩ = some (.bool true) := (blk_cell BK148.out 2).trans rfl
                            have hcz168_3 : wr.cell? ⟨gb148, 3, none⟩ = some (.int .i64 x149003_3) := (blk_cell BK148.out 3).trans rfl
                            have hcz168_4 : wr.cell? ⟨gb148, 4, none⟩ = some (.int .u64 x149004_3) := (blk_cell BK148.out 4).trans rfl
                            have hcz168_5 : wr.cell? ⟨gb148, 5, none⟩ = some (.int .u64 x149005_3) := (blk_cell BK148.out 5).trans rfl
                            have hcz168_6 : wr.cell? ⟨gb148, 6, none⟩ = some (.bool true) := (blk_cell BK148.out 6).trans rfl
                            have hcz168_7 : wr.cell? ⟨gb148, 7, none⟩ = some (.int .i64 x149007_3) := (blk_cell BK148.out 7).trans rfl
                            have hfz168_0 := blk_frozen BK148.out 0
                            have hfz168_1 := blk_frozen BK148.out 1
                            have hfz168_2 := blk_frozen BK148.out 2
                            have hfz168_3 := blk_frozen BK148.out 3
                            have hfz168_4 := blk_frozen BK148.out 4
                            have hfz168_5 := blk_frozen BK148.out 5
                            have hfz168_6 := blk_frozen BK148.out 6
                            have hfz168_7 := blk_frozen BK148.out 7
                            go_wp2
                            go_ret
                            exact ⟨by first | rfl | (simp [errW_none, errW_some] <;> rfl) | (simp [*, errW_none, errW_some] <;> rfl), by repeat (first | (with_reducible first | exact HB.out | apply below_alloc | apply pw_below_drewN | apply below_drew1 | refine below_set ?_ GE147.out | refine below_set ?_ GE148.out) | exact HB.out)⟩
                        · rw [if_neg c161] at H
                          have c161b0 : (x149001_3 == x149004_3) = false := beq_eq_false_iff_ne.mpr c161
                          have c161b1 : (x149001_3 != x149004_3) = true := bne_iff_ne.mpr c161
                          obtain rfl := Option.some.inj H
                          have hnb169 := NB148_147.out
                          have hnc169 := NB147_148.out
                          have hcz170_0 : wr.cell? ⟨gb148, 0, none⟩ = some (.int .u64 x149000_3) := (blk_cell BK148.out 0).trans rfl
                          have hcz170_1 : wr.cell? ⟨gb148, 1, none⟩ = some (.int .u64 x149001_3) := (blk_cell BK148.out 1).trans rfl
                          have hcz170_2 : wr.cell? ⟨gb148, 2, none⟩ = some (.bool true) := (blk_cell BK148.out 2).trans rfl
                          have hcz170_3 : wr.cell? ⟨gb148, 3, none⟩ = some (.int .i64 x149003_3) := (blk_cell BK148.out 3).trans rfl
                          have hcz170_4 : wr.cell? ⟨gb148, 4, none⟩ = some (.int .u64 x149004_3) := (blk_cell BK148.out 4).trans rfl
                          have hcz170_5 : wr.cell? ⟨gb148, 5, none⟩ = some (.int .u64 x149005_3) := (blk_cell BK148.out 5).trans rfl
                          have hcz170_6 : wr.cell? ⟨gb148, 6, none⟩ = some (.bool true) := (blk_cell BK148.out 6).trans rfl
                          have hcz170_7 : wr.cell? ⟨gb148, 7, none⟩ = some (.int .i64 x149007_3) := (blk_cell BK148.out 7).trans rfl
                          have hfz170_0 := blk_frozen BK148.out 0
                          have hfz170_1 := blk_frozen BK148.out 1
                          have hfz170_2 := blk_frozen BK148.out 2
                          have hfz170_3 := blk_frozen BK148.out 3
                          have hfz170_4 := blk_frozen BK148.out 4
                          have hfz170_5 := blk_frozen BK148.out 5
                          have hfz170_6 := blk_frozen BK148.out 6
                          have hfz170_7 := blk_frozen BK148.out 7
                          go_wp2
                          go_ret
                          exact ⟨by first | rfl | (simp [errW_none, errW_some] <;> rfl) | (simp [*, errW_none, errW_some] <;> rfl), by repeat (first | (with_reducible first | exact HB.out | apply below_alloc | apply pw_below_drewN | apply below_drew1 | refine below_set ?_ GE147.out | refine below_set ?_ GE148.out) | exact HB.out)⟩
                      · replace c160 := Bool.eq_false_iff.mpr c160
                        subst c160
                        have H1 : (some false) = some r := by rw [if_neg (show ¬ (false = true) by decide)] at H; exact H
                        clear H
                        have H := H1
                        clear H1
                        obtain rfl := Option.some.inj H
                        have hnb171 := NB148_147.out
                        have hnc171 := NB147_148.out
                        have hcz172_0 : wr.cell? ⟨gb148, 0, none⟩ = some (.int .u64 x149000_3) := (blk_cell BK148.out 0).trans rfl
                        have hcz172_1 : wr.cell? ⟨gb148, 1, none⟩ = some (.int .u64 x149001_3) := (blk_cell BK148.out 1).trans rfl
                        have hcz172_2 : wr.cell? ⟨gb148, 2, none⟩ = some (.bool true) := (blk_cell BK148.out 2).trans rfl
                        have hcz172_3 : wr.cell? ⟨gb148, 3, none⟩ = some (.int .i64 x149003_3) := (blk_cell BK148.out 3).trans rfl
                        have hcz172_4 : wr.cell? ⟨gb148, 4, none⟩ = some (.int .u64 x149004_3) := (blk_cell BK148.out 4).trans rfl
                        have hcz172_5 : wr.cell? ⟨gb148, 5, none⟩ = some (.int .u64 x149005_3) := (blk_cell BK148.out 5).trans rfl
                        have hcz172_6 : wr.cell? ⟨gb148, 6, none⟩ = some (.bool false) := (blk_cell BK148.out 6).trans rfl
                        have hcz172_7 : wr.cell? ⟨gb148, 7, none⟩ = some (.int .i64 x149007_3) := (blk_cell BK148.out 7).trans rfl
                        have hfz172_0 := blk_frozen BK148.out 0
                        have hfz172_1 := blk_frozen BK148.out 1
                        have hfz172_2 := blk_frozen BK148.out 2
                        have hfz172_3 := blk_frozen BK148.out 3
                        have hfz172_4 := blk_frozen BK148.out 4
                        have hfz172_5 := blk_frozen BK148.out 5
                        have hfz172_6 := blk_frozen BK148.out 6
                        have hfz172_7 := blk_frozen BK148.out 7
                        go_wp2
                        go_ret
                        exact ⟨by first | rfl | (simp [errW_none, errW_some] <;> rfl) | (simp [*, errW_none, errW_some] <;> rfl), by repeat (first | (with_reducible first | exact HB.out | apply below_alloc | apply pw_below_drewN | apply below_drew1 | refine below_set ?_ GE147.out | refine below_set ?_ GE148.out) | exact HB.out)⟩
                    · replace c159 := Bool.eq_false_iff.mpr c159
                      subst c159
                      have H1 : (some false) = some r := by rw [if_neg (show ¬ (false = true) by decide)] at H; exact H
                      clear H
                      have H := H1
                      clear H1
                      obtain rfl := Option.some.inj H
                      have hnb173 := NB148_147.out
                      have hnc173 := NB147_148.out
                      have hcz174_0 : wr.cell? ⟨gb148, 0, none⟩ = some (.int .u64 x149000_3) := (blk_cell BK148.out 0).trans rfl
                      have hcz174_1 : wr.cell? ⟨gb148, 1, none⟩ = some (.int .u64 x149001_3) := (blk_cell BK148.out 1).trans rfl
                      have hcz174_2 : wr.cell? ⟨gb148, 2, none⟩ = some (.bool false) := (blk_cell BK148.out 2).trans rfl
                      have hcz174_3 : wr.cell? ⟨gb148, 3, none⟩ = some (.int .i64 x149003_3) := (blk_cell BK148.out 3).trans rfl
                      have hcz174_4 : wr.cell? ⟨gb148, 4, none⟩ = some (.int .u64 x149004_3) := (blk_cell BK148.out 4).trans rfl
                      have hcz174_5 : wr.cell? ⟨gb148, 5, none⟩ = some (.int .u64 x149005_3) := (blk_cell BK148.out 5).trans rfl
                      have hcz174_6 : wr.cell? ⟨gb148, 6, none⟩ = some (.bool x149006_3) := (blk_cell BK148.out 6).trans rfl
                      have hcz174_7 : wr.cell? ⟨gb148, 7, none⟩ = some (.int .i64 x149007_3) := (blk_cell BK148.out 7).trans rfl
                      have hfz174_0 := blk_frozen BK148.out 0
                      have hfz174_1 := blk_frozen BK148.out 1
                      have hfz174_2 := blk_frozen BK148.out 2
                      have hfz174_3 := blk_frozen BK148.out 3
                      have hfz174_4 := blk_frozen BK148.out 4
                      have hfz174_5 := blk_frozen BK148.out 5
                      have hfz174_6 := blk_frozen BK148.out 6
                      have hfz174_7 := blk_frozen BK148.out 7
                      go_wp2
                      go_ret
                      exact ⟨by first | rfl | (simp [errW_none, errW_some] <;> rfl) | (simp [*, errW_none, errW_some] <;> rfl), by repeat (first | (with_reducible first | exact HB.out | apply below_alloc | apply pw_below_drewN | apply below_drew1 | refine below_set ?_ GE147.out | refine below_set ?_ GE148.out) | exact HB.out)⟩

end Go.Proofs.Ytjodekffbobmlaa.XM
