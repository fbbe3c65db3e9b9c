/- Go functions of this seat as Lean functions, with proofs that the calls come to them. (Written by xprint.py, a program of this session, over the kit's print.) -/
import Derived.Test.YtajejidnidomgaaXGx0
import Derived.Test.YtajejidnidomgaaXGx2
import Derived.Test.YtajejidnidomgaaXGx3
namespace Go.Proofs.Ytajejidnidomgaa.XG
open Go.RowKit Go.Proofs.YtajejidnidomgaaW.PrintWords Go.Proofs.YtajejidnidomgaaW.PrintLast Go.Proofs.YtajejidnidomgaaW.PrintMore
attribute [local go_sem] max2_int min2_int max_two min_two max_three min_three max_four min_four   -- for this text's walks alone
set_option linter.unusedVariables false
set_option linter.unusedSimpArgs false

/-! ### beaconlaw05_GaugeBetween: function 4 -/
mutual
def beaconlaw05_GaugeBetween.l0 : Nat → List Int → Nat → Nat → Int → Int → Int → Nat → Nat → Option (Bool)
  | 0, _, _, _, _, _, _, _, _ => none
  | k + 1, x1, x5, x6, x8, x9, x160000, x160001, x160002 => if x9 < (x1.length : Int) then (beaconlaw05_GaugeBetween.j1 k x1 x5 x6 x8 x9 (x8 == 0) x160000 x160001 x160002) else (beaconlaw05_GaugeBetween.j1 k x1 x5 x6 x8 x9 false x160000 x160001 x160002)
def beaconlaw05_GaugeBetween.j1 : Nat → List Int → Nat → Nat → Int → Int → Bool → Int → Nat → Nat → Option (Bool)
  | 0, _, _, _, _, _, _, _, _, _ => none
  | k + 1, x1, x5, x6, x8, x9, x30, x160000, x160001, x160002 => if x30 = true then (if 0 ≤ x9 then (if x9 < (x1.length : Int) then (if (flt (fofint (Int.tmod (rd x1 x9) 1048576)) x5) = true then (if (flt x6 (fofint (Int.tmod (rd x1 x9) 1048576))) = true then ((gauge_Feed.f x160000 x160001 x160002 (fofint (Int.tmod (rd x1 x9) 1048576))).bind fun bt162 => (beaconlaw05_GaugeBetween.l0 k x1 (fofint (Int.tmod (rd x1 x9) 1048576)) (fofint (Int.tmod (rd x1 x9) 1048576)) bt162.2.2.2 (wrap64 (x9 + 1)) bt162.1 bt162.2.1 bt162.2.2.1)) else ((gauge_Feed.f x160000 x160001 x160002 (fofint (Int.tmod (rd x1 x9) 1048576))).bind fun bt166 => (beaconlaw05_GaugeBetween.l0 k x1 (fofint (Int.tmod (rd x1 x9) 1048576)) x6 bt166.2.2.2 (wrap64 (x9 + 1)) bt166.1 bt166.2.1 bt166.2.2.1))) else (if (flt x6 (fofint (Int.tmod (rd x1 x9) 1048576))) = true then ((gauge_Feed.f x160000 x160001 x160002 (fofint (Int.tmod (rd x1 x9) 1048576))).bind fun bt170 => (beaconlaw05_GaugeBetween.l0 k x1 x5 (fofint (Int.tmod (rd x1 x9) 1048576)) bt170.2.2.2 (wrap64 (x9 + 1)) bt170.1 bt170.2.1 bt170.2.2.1)) else ((gauge_Feed.f x160000 x160001 x160002 (fofint (Int.tmod (rd x1 x9) 1048576))).bind fun bt174 => (beaconlaw05_GaugeBetween.l0 k x1 x5 x6 bt174.2.2.2 (wrap64 (x9 + 1)) bt174.1 bt174.2.1 bt174.2.2.1)))) else (none)) else (none)) else (if x8 = 0 then (if (fdivOk x6 4652007308841189376) = true then (if (fsubOk x5 (fdiv x6 4652007308841189376)) = true then (if (fle (fsub x5 (fdiv x6 4652007308841189376)) x160001) = true then (if (faddOk x6 (fdiv x6 4652007308841189376)) = true then (if (fle x160001 (fadd x6 (fdiv x6 4652007308841189376))) = true then ((beaconlaw05_awake.f).bind fun t160 => (some t160)) else (some false)) else (none)) else (some false)) else (none)) else (none)) else (some false))
end
def beaconlaw05_GaugeBetween.f (k : Nat) (a0 : Int) (l1 : List Int) : Option (Bool) := (gauge_Feed.f 0 0 0 (fofint (Int.tmod a0 1048576))).bind fun bt155 => (beaconlaw05_GaugeBetween.l0 k l1 (fofint (Int.tmod a0 1048576)) (fofint (Int.tmod a0 1048576)) bt155.2.2.2 0 bt155.1 bt155.2.1 bt155.2.2.1)
theorem beaconlaw05_GaugeBetween.mono_l : ∀ k, (∀ y0 y1 y2 y3 y4 y5 y6 y7, LeO (beaconlaw05_GaugeBetween.l0 k y0 y1 y2 y3 y4 y5 y6 y7) (beaconlaw05_GaugeBetween.l0 (k + 1) y0 y1 y2 y3 y4 y5 y6 y7)) ∧ (∀ y0 y1 y2 y3 y4 y5 y6 y7 y8, LeO (beaconlaw05_GaugeBetween.j1 k y0 y1 y2 y3 y4 y5 y6 y7 y8) (beaconlaw05_GaugeBetween.j1 (k + 1) y0 y1 y2 y3 y4 y5 y6 y7 y8))
  | 0 => ⟨fun _ _ _ _ _ _ _ _ r h => by simp [beaconlaw05_GaugeBetween.l0] at h, fun _ _ _ _ _ _ _ _ _ r h => by simp [beaconlaw05_GaugeBetween.j1] at h⟩
  | k + 1 => by
    obtain ⟨ih0, ih1⟩ := beaconlaw05_GaugeBetween.mono_l k
    refine ⟨?_, ?_⟩
    · intro y0 y1 y2 y3 y4 y5 y6 y7
      unfold beaconlaw05_GaugeBetween.l0
      repeat' first
      | (with_reducible exact ih0 _ _ _ _ _ _ _ _)
      | (with_reducible exact ih1 _ _ _ _ _ _ _ _ _)
      | (with_reducible exact LeO.refl _)
      | (with_reducible exact LeO.none _)
      | (with_reducible refine LeO.ite ?_ ?_)
      | (with_reducible refine LeO.bind ?_ (fun _ => ?_))
      | exact ih0 _ _ _ _ _ _ _ _
      | exact ih1 _ _ _ _ _ _ _ _ _
      | exact LeO.none _
      | refine LeO.ite ?_ ?_
      | refine LeO.bind ?_ (fun _ => ?_)
    · intro y0 y1 y2 y3 y4 y5 y6 y7 y8
      unfold beaconlaw05_GaugeBetween.j1
      repeat' first
      | (with_reducible exact ih0 _ _ _ _ _ _ _ _)
      | (with_reducible exact ih1 _ _ _ _ _ _ _ _ _)
      | (with_reducible exact LeO.refl _)
      | (with_reducible exact LeO.none _)
      | (with_reducible refine LeO.ite ?_ ?_)
      | (with_reducible refine LeO.bind ?_ (fun _ => ?_))
      | exact ih0 _ _ _ _ _ _ _ _
      | exact ih1 _ _ _ _ _ _ _ _ _
      | exact LeO.none _
      | refine LeO.ite ?_ ?_
      | refine LeO.bind ?_ (fun _ => ?_)
theorem beaconlaw05_GaugeBetween.mono : ∀ a0 a1 k, LeO (beaconlaw05_GaugeBetween.f k a0 a1) (beaconlaw05_GaugeBetween.f (k + 1) a0 a1) := by
  intro a0 a1 k
  obtain ⟨ih0, ih1⟩ := beaconlaw05_GaugeBetween.mono_l k
  unfold beaconlaw05_GaugeBetween.f
  repeat' first
      | (with_reducible exact ih0 _ _ _ _ _ _ _ _)
      | (with_reducible exact ih1 _ _ _ _ _ _ _ _ _)
      | (with_reducible exact LeO.refl _)
      | (with_reducible exact LeO.none _)
      | (with_reducible refine LeO.ite ?_ ?_)
      | (with_reducible refine LeO.bind ?_ (fun _ => ?_))
      | exact ih0 _ _ _ _ _ _ _ _
      | exact ih1 _ _ _ _ _ _ _ _ _
      | exact LeO.none _
      | refine LeO.ite ?_ ?_
      | refine LeO.bind ?_ (fun _ => ?_)
set_option maxHeartbeats 2500000 in
set_option maxRecDepth 100000 in
theorem beaconlaw05_GaugeBetween.calls (k : Nat) (a0 : Int) (A1 : Option Addr) (c1 : Nat) (l1 : List Int) (r : Bool) (w : World) (hr1 : Kd.C (Kd.int .u32) w A1 l1.length l1) (hc1 : l1.length ≤ c1) (h : beaconlaw05_GaugeBetween.f k a0 l1 = some r) :
    Calls Try.prog 4 #[.int .u32 a0, .slice A1 l1.length c1] w fun e w' => e = .returned (.bool r) ∧ Below w.heap.size w w' := by
  have hu24 := Try.underlying24
  have HR1 := Aside0.mk hr1
  have HC1 := Aside0.mk hc1
  clear hr1 hc1
  have HB := Aside0.mk (Below.refl w.heap.size w)
  have H : ((gauge_Feed.f 0 0 0 (fofint (Int.tmod a0 1048576))).bind fun bt155 => (beaconlaw05_GaugeBetween.l0 k l1 (fofint (Int.tmod a0 1048576)) (fofint (Int.tmod a0 1048576)) bt155.2.2.2 0 bt155.1 bt155.2.1 bt155.2.2.1)) = some r := h
  clear h
  replace H := Option.bind_eq_some_iff.mp H
  obtain ⟨⟨t155, t156, t157, t158⟩, A30, H⟩ := H
  replace H : (beaconlaw05_GaugeBetween.l0 k l1 (fofint (Int.tmod a0 1048576)) (fofint (Int.tmod a0 1048576)) t158 0 t155 t156 t157) = some r := H
  have A3 := Aside0.mk A30
  clear A30
  have H' := Aside0.mk H
  clear H
  go_enter Try.func4, Try.ntmps4
  go_wp2_with (first | ((with_reducible refine gate_callee (f := 9) rfl ?_); refine goesL_ (some 20) rfl rfl Try.func9 (by kernel_rfl) rfl #[.agg #[.int .i64 0, .float .f64 0, .float .f64 0], .float .f64 (fofint (Int.tmod a0 1048576))] rfl (by (try simp only [List.map_toArray, List.map_cons, List.map_nil]); first | done | rfl | (simp only [List.length_drop, List.length_take]; rfl)) ?_; (with_reducible refine (gauge_Feed.calls 0 0 0 (fofint (Int.tmod a0 1048576)) t155 t156 t157 t158 _ A3.out).mono ?_); rintro e w4 ⟨rfl, hb⟩; refine ⟨_, rfl, ?_⟩; have n0_ := Aside0.mk (below_step (by repeat (first | (with_reducible first | exact HB.out | apply below_alloc | apply pw_below_drewN | apply below_drew1) | exact HB.out)) hb); clear HB; have HB := n0_; clear n0_; (try clear hb); (try clear hb2); (try clear hk); (try clear hi)) | ((with_reducible refine gate_dst (N := 7) rfl ?_); refine box_event ?hg (N := 7) ?hd (cs := #[.int .i64 0, .float .f64 0, .float .f64 0]) (t := 24) ?hr ?_; (case hd => rfl); (case hg => rfl); (case hr => first | (go_simp; done) | (go_simp; rfl)); intro gb159 hg w5 hbox hb; have n0_ := Aside0.mk (below_step (by repeat (first | (with_reducible first | exact HB.out | apply below_alloc | apply pw_below_drewN | apply below_drew1) | exact HB.out)) hb); have n1_ := Aside0.mk (hbox); have n2_ := Aside0.mk ((by rw [hg]; exact (below_size (by repeat (first | (with_reducible first | exact HB.out | apply below_alloc | apply pw_below_drewN | apply below_drew1) | exact HB.out))) : w.heap.size ≤ gb159)); have n3_ := Aside0.mk ((by rw [hg]; exact (below_size (by repeat (first | (with_reducible first | exact HB.out | apply below_alloc | apply pw_below_drewN | apply below_drew1) | exact HB.out))) : w.heap.size ≤ gb159)); clear HB; have HB := n0_; have BK159 := n1_; have GW159 := n2_; have GE159 := n3_; clear n0_ n1_ n2_ n3_; clear hb hbox hg; have hcz6_0 : w5.cell? ⟨gb159, 0, none⟩ = some (.int .i64 0) := (blk_cell BK159.out 0).trans rfl; have hcz6_1 : w5.cell? ⟨gb159, 1, none⟩ = some (.float .f64 0) := (blk_cell BK159.out 1).trans rfl; have hcz6_2 : w5.cell? ⟨gb159, 2, none⟩ = some (.float .f64 0) := (blk_cell BK159.out 2).trans rfl; have hfz6_0 := blk_frozen BK159.out 0; have hfz6_1 := blk_frozen BK159.out 1; have hfz6_2 := blk_frozen BK159.out 2) | ((with_reducible refine gate_store (t := 24) (p := 7) rfl ?_); refine store_event (t := 24) (p := 7) (v := ?vo_w7) (w1 := (((w5.setCell ⟨gb159, 0, none⟩ (.int .i64 t155)).setCell ⟨gb159, 1, none⟩ (.float .f64 t156)).setCell ⟨gb159, 2, none⟩ (.float .f64 t157))) ?hg ?ho ?hn ?hr ?_; (case ho => rfl); (case hg => rfl); (case hn => rfl); (case hr => first | (go_simp; done) | (go_simp; rfl)); intro w7 hw; have n0_ : Aside0 (w7.heap[gb159]? = some (.cells #[.int .i64 t155, .float .f64 t156, .float .f64 t157] 24 (0, 0))) := ⟨(by rw [hw]; exact (by (with_reducible repeat (first | refine blk_drewN ?_ _ | refine blk_drew ?_ | refine blk_alloc ?_ _)); refine blk_put (cs := #[.int .i64 t155, .float .f64 t156, .float .f64 0]) ?_ 2 _ rfl; (with_reducible repeat (first | refine blk_drewN ?_ _ | refine blk_drew ?_ | refine blk_alloc ?_ _)); refine blk_put (cs := #[.int .i64 t155, .float .f64 0, .float .f64 0]) ?_ 1 _ rfl; (with_reducible repeat (first | refine blk_drewN ?_ _ | refine blk_drew ?_ | refine blk_alloc ?_ _)); refine blk_put (cs := #[.int .i64 0, .float .f64 0, .float .f64 0]) ?_ 0 _ rfl; (with_reducible repeat (first | refine blk_drewN ?_ _ | refine blk_drew ?_ | refine blk_alloc ?_ _)); exact BK159.out))⟩; have n1_ : Aside0 (Below w.heap.size w w7) := ⟨(by rw [hw]; exact (by repeat (first | (with_reducible first | exact HB.out | apply below_alloc | apply pw_below_drewN | apply below_drew1 | refine below_set ?_ GE159.out) | exact HB.out)))⟩; clear hw; clear BK159; clear HB; have BK159 := n0_; have HB := n1_; clear n0_ n1_))
  go_loopg [5, 6, 8, 9] k (fun kq v5 v6 v8 v9 w' => ∃ (x5_1 : Nat) (x6_1 : Nat) (x8_1 : Int) (x9_1 : Int) (x160000_1 : Int) (x160001_1 : Nat) (x160002_1 : Nat), v5 = .float .f64 x5_1 ∧ v6 = .float .f64 x6_1 ∧ v8 = .int .i64 x8_1 ∧ v9 = .int .i64 x9_1 ∧ Aside0 (beaconlaw05_GaugeBetween.l0 kq l1 x5_1 x6_1 x8_1 x9_1 x160000_1 x160001_1 x160002_1 = some r) ∧ Aside0 (kq ≤ k) ∧ Aside0 (w'.heap[gb159]? = some (.cells #[.int .i64 x160000_1, .float .f64 x160001_1, .float .f64 x160002_1] 24 (0, 0))) ∧ Aside0 (Below w.heap.size w w'))
  case atStart => exact ⟨(fofint (Int.tmod a0 1048576)), (fofint (Int.tmod a0 1048576)), (t158), (0), (t155), (t156), (t157), (by first | rfl | (simp; done) | (simp [*]; done)), (by first | rfl | (simp; done) | (simp [*]; done)), (by first | rfl | (simp; done) | (simp [*]; done)), (by first | rfl | (simp; done) | (simp [*]; done)), H', ⟨Nat.le_refl _⟩, ⟨by (with_reducible repeat (first | refine blk_drewN ?_ _ | refine blk_drew ?_ | refine blk_alloc ?_ _)); exact BK159.out⟩, ⟨by repeat (first | (with_reducible first | exact HB.out | apply below_alloc | apply pw_below_drewN | apply below_drew1 | refine below_set ?_ GE159.out) | exact HB.out)⟩⟩
  case round =>
    clear H'
    try clear c1
    try clear p2
    try clear c4
    try clear hcz6_0
    try clear hcz6_1
    try clear hcz6_2
    try clear hfz6_0
    try clear hfz6_1
    try clear hfz6_2
    obtain ⟨x5_1, x6_1, x8_1, x9_1, x160000_1, x160001_1, x160002_1, rfl, rfl, rfl, rfl, HA, HK1, BK159, HB⟩ := hrel
    cases gk with
    | zero => exact absurd HA.out (by simp [beaconlaw05_GaugeBetween.l0])
    | succ k1 =>
      have H := HA.out
      clear HA
      simp only [beaconlaw05_GaugeBetween.l0] at H
      have HC8 := Aside0.mk H
      clear H
      go_upto_region 4 with (fail)
      go_cut [30] (fun v30 wc => ∃ (kq : Nat) (x30_7 : Bool), v30 = .bool x30_7 ∧ Aside0 (beaconlaw05_GaugeBetween.j1 kq l1 x5_1 x6_1 x8_1 x9_1 x30_7 x160000_1 x160001_1 x160002_1 = some r) ∧ Aside0 (kq ≤ k1) ∧ Aside0 (wc.heap[gb159]? = some (.cells #[.int .i64 x160000_1, .float .f64 x160001_1, .float .f64 x160002_1] 24 (0, 0))) ∧ Aside0 (Below w.heap.size w wc))
      case first =>
        have H := HC8.out
        clear HC8
        by_cases c9 : x9_1 < (l1.length : Int)
        · rw [if_pos c9] at H
          have c9b0 : decide (x9_1 < (l1.length : Int)) = true := decide_eq_true c9
          clear c9
          (first | rw [c9b0] | (simp only [i64_w, i32_w]; rw [c9b0]) | skip)
          have H' := Aside0.mk H
          clear H
          go_wp2
          go_meet
          case rel => exact ⟨_, ((x8_1 == 0)), (by first | rfl | (simp; done) | (simp [*]; done)), H', ⟨by have := HK1.out; first | omega | exact Nat.le_refl _⟩, ⟨by (with_reducible repeat (first | refine blk_drewN ?_ _ | refine blk_drew ?_ | refine blk_alloc ?_ _)); exact BK159.out⟩, ⟨by repeat (first | (with_reducible first | exact HB.out | apply below_alloc | apply pw_below_drewN | apply below_drew1 | refine below_set ?_ GE159.out) | exact HB.out)⟩⟩
        · rw [if_neg c9] at H
          have c9b0 : decide (x9_1 < (l1.length : Int)) = false := decide_eq_false c9
          clear c9
          (first | rw [c9b0] | (simp only [i64_w, i32_w]; rw [c9b0]) | skip)
          have H' := Aside0.mk H
          clear H
          go_wp2
          go_meet
          case rel => exact ⟨_, (false), (by first | rfl | (simp; done) | (simp [*]; done)), H', ⟨by have := HK1.out; first | omega | exact Nat.le_refl _⟩, ⟨by (with_reducible repeat (first | refine blk_drewN ?_ _ | refine blk_drew ?_ | refine blk_alloc ?_ _)); exact BK159.out⟩, ⟨by repeat (first | (with_reducible first | exact HB.out | apply below_alloc | apply pw_below_drewN | apply below_drew1 | refine below_set ?_ GE159.out) | exact HB.out)⟩⟩
      case rest =>
        clear HC8
        try clear c1
        try clear p2
        try clear c4
        try clear c9
        try clear c9b0
        try clear hcz6_0
        try clear hcz6_1
        try clear hcz6_2
        try clear hfz6_0
        try clear hfz6_1
        try clear hfz6_2
        try clear p2
        obtain ⟨kq, x30_7, rfl, HA, HJ7, BK159, HB⟩ := hcut
        cases kq with
        | zero => exact absurd HA.out (by simp [beaconlaw05_GaugeBetween.j1])
        | succ kj7 =>
          have H := HA.out
          clear HA
          simp only [beaconlaw05_GaugeBetween.j1] at H
          by_cases c10 : x30_7 = true
          · subst c10
            have H1 : (if 0 ≤ x9_1 then (if x9_1 < (l1.length : Int) then (if (flt (fofint (Int.tmod (rd l1 x9_1) 1048576)) x5_1) = true then (if (flt x6_1 (fofint (Int.tmod (rd l1 x9_1) 1048576))) = true then ((gauge_Feed.f x160000_1 x160001_1 x160002_1 (fofint (Int.tmod (rd l1 x9_1) 1048576))).bind fun bt162 => (beaconlaw05_GaugeBetween.l0 kj7 l1 (fofint (Int.tmod (rd l1 x9_1) 1048576)) (fofint (Int.tmod (rd l1 x9_1) 1048576)) bt162.2.2.2 (wrap64 (x9_1 + 1)) bt162.1 bt162.2.1 bt162.2.2.1)) else ((gauge_Feed.f x160000_1 x160001_1 x160002_1 (fofint (Int.tmod (rd l1 x9_1) 1048576))).bind fun bt166 => (beaconlaw05_GaugeBetween.l0 kj7 l1 (fofint (Int.tmod (rd l1 x9_1) 1048576)) x6_1 bt166.2.2.2 (wrap64 (x9_1 + 1)) bt166.1 bt166.2.1 bt166.2.2.1))) else (if (flt x6_1 (fofint (Int.tmod (rd l1 x9_1) 1048576))) = true then ((gauge_Feed.f x160000_1 x160001_1 x160002_1 (fofint (Int.tmod (rd l1 x9_1) 1048576))).bind fun bt170 => (beaconlaw05_GaugeBetween.l0 kj7 l1 x5_1 (fofint (Int.tmod (rd l1 x9_1) 1048576)) bt170.2.2.2 (wrap64 (x9_1 + 1)) bt170.1 bt170.2.1 bt170.2.2.1)) else ((gauge_Feed.f x160000_1 x160001_1 x160002_1 (fofint (Int.tmod (rd l1 x9_1) 1048576))).bind fun bt174 => (beaconlaw05_GaugeBetween.l0 kj7 l1 x5_1 x6_1 bt174.2.2.2 (wrap64 (x9_1 + 1)) bt174.1 bt174.2.1 bt174.2.2.1)))) else (none)) else (none)) = some r := by rw [if_pos rfl] at H; exact H
            clear H
            have H := H1
            clear H1
            by_cases c11 : 0 ≤ x9_1
            · rw [if_pos c11] at H
              have c11b0 : decide (0 ≤ x9_1) = true := decide_eq_true c11
              clear c11
              by_cases c12 : x9_1 < (l1.length : Int)
              · rw [if_pos c12] at H
                have c12b0 : decide (x9_1 < (l1.length : Int)) = true := decide_eq_true c12
                clear c12
                by_cases c13 : (flt (fofint (Int.tmod (rd l1 x9_1) 1048576)) x5_1) = true
                · rw [if_pos c13] at H
                  have c13b0 : (flt (fofint (Int.tmod (rd l1 x9_1) 1048576)) x5_1) = true := c13
                  clear c13
                  by_cases c14 : (flt x6_1 (fofint (Int.tmod (rd l1 x9_1) 1048576))) = true
                  · rw [if_pos c14] at H
                    have c14b0 : (flt x6_1 (fofint (Int.tmod (rd l1 x9_1) 1048576))) = true := c14
                    clear c14
                    replace H := Option.bind_eq_some_iff.mp H
                    obtain ⟨⟨t162, t163, t164, t165⟩, A150, H⟩ := H
                    replace H : (beaconlaw05_GaugeBetween.l0 kj7 l1 (fofint (Int.tmod (rd l1 x9_1) 1048576)) (fofint (Int.tmod (rd l1 x9_1) 1048576)) t165 (wrap64 (x9_1 + 1)) t162 t163 t164) = some r := H
                    have A15 := Aside0.mk A150
                    clear A150
                    have H' := Aside0.mk H
                    clear H
                    have p161 : 0 ≤ (x9_1 : Int) := of_decide_eq_true (by first | (with_reducible assumption) | assumption)
                    have q161 : x9_1 < (l1.length : Int) := of_decide_eq_true (by first | (with_reducible assumption) | assumption)
                    obtain ⟨ad161, e161, hx161_0⟩ := Kd.at_int HR1.out x9_1 p161 q161
                    cases e161
                    replace hx161_0 := (HB.out.cell (World.block_lt_of_cell? w _ hx161_0)).trans hx161_0
                    replace p161 := eq_true p161
                    replace q161 := eq_true q161
                    have hcz16_0 : wc.cell? ⟨gb159, 0, none⟩ = some (.int .i64 x160000_1) := (blk_cell BK159.out 0).trans rfl
                    have hcz16_1 : wc.cell? ⟨gb159, 1, none⟩ = some (.float .f64 x160001_1) := (blk_cell BK159.out 1).trans rfl
                    have hcz16_2 : wc.cell? ⟨gb159, 2, none⟩ = some (.float .f64 x160002_1) := (blk_cell BK159.out 2).trans rfl
                    have hfz16_0 := blk_frozen BK159.out 0
                    have hfz16_1 := blk_frozen BK159.out 1
                    have hfz16_2 := blk_frozen BK159.out 2
                    go_wp2_with (first | ((with_reducible refine gate_callee (f := 9) rfl ?_); refine goesL_ (some 50) rfl rfl Try.func9 (by kernel_rfl) rfl #[.agg #[.int .i64 x160000_1, .float .f64 x160001_1, .float .f64 x160002_1], .float .f64 (fofint (Int.tmod (rd l1 x9_1) 1048576))] rfl (by (try simp only [List.map_toArray, List.map_cons, List.map_nil]); first | done | rfl | (simp only [List.length_drop, List.length_take]; rfl)) ?_; (with_reducible refine (gauge_Feed.calls x160000_1 x160001_1 x160002_1 (fofint (Int.tmod (rd l1 x9_1) 1048576)) t162 t163 t164 t165 _ A15.out).mono ?_); rintro e w17 ⟨rfl, hb⟩; refine ⟨_, rfl, ?_⟩; have n0_ := Aside0.mk (blk_below (g := gb159) (o := .cells #[.int .i64 x160000_1, .float .f64 x160001_1, .float .f64 x160002_1] 24 (0, 0)) (by (with_reducible repeat (first | refine blk_drewN ?_ _ | refine blk_drew ?_ | refine blk_alloc ?_ _)); exact BK159.out) hb); have n1_ := Aside0.mk (below_step (by repeat (first | (with_reducible first | exact HB.out | apply below_alloc | apply pw_below_drewN | apply below_drew1 | refine below_set ?_ GE159.out) | exact HB.out)) hb); clear BK159; clear HB; have BK159 := n0_; have HB := n1_; clear n0_ n1_; (try clear hb); (try clear hb2); (try clear hk); (try clear hi); have hcz18_0 : w17.cell? ⟨gb159, 0, none⟩ = some (.int .i64 x160000_1) := (blk_cell BK159.out 0).trans rfl; have hcz18_1 : w17.cell? ⟨gb159, 1, none⟩ = some (.float .f64 x160001_1) := (blk_cell BK159.out 1).trans rfl; have hcz18_2 : w17.cell? ⟨gb159, 2, none⟩ = some (.float .f64 x160002_1) := (blk_cell BK159.out 2).trans rfl; have hfz18_0 := blk_frozen BK159.out 0; have hfz18_1 := blk_frozen BK159.out 1; have hfz18_2 := blk_frozen BK159.out 2) | ((with_reducible refine gate_store (t := 24) (p := 7) rfl ?_); refine store_event (t := 24) (p := 7) (v := ?vo_w19) (w1 := (((w17.setCell ⟨gb159, 0, none⟩ (.int .i64 t162)).setCell ⟨gb159, 1, none⟩ (.float .f64 t163)).setCell ⟨gb159, 2, none⟩ (.float .f64 t164))) ?hg ?ho ?hn ?hr ?_; (case ho => rfl); (case hg => rfl); (case hn => rfl); (case hr => first | (go_simp; done) | (go_simp; rfl)); intro w19 hw; have n0_ : Aside0 (w19.heap[gb159]? = some (.cells #[.int .i64 t162, .float .f64 t163, .float .f64 t164] 24 (0, 0))) := ⟨(by rw [hw]; exact (by (with_reducible repeat (first | refine blk_drewN ?_ _ | refine blk_drew ?_ | refine blk_alloc ?_ _)); refine blk_put (cs := #[.int .i64 t162, .float .f64 t163, .float .f64 x160002_1]) ?_ 2 _ rfl; (with_reducible repeat (first | refine blk_drewN ?_ _ | refine blk_drew ?_ | refine blk_alloc ?_ _)); refine blk_put (cs := #[.int .i64 t162, .float .f64 x160001_1, .float .f64 x160002_1]) ?_ 1 _ rfl; (with_reducible repeat (first | refine blk_drewN ?_ _ | refine blk_drew ?_ | refine blk_alloc ?_ _)); refine blk_put (cs := #[.int .i64 x160000_1, .float .f64 x160001_1, .float .f64 x160002_1]) ?_ 0 _ rfl; (with_reducible repeat (first | refine blk_drewN ?_ _ | refine blk_drew ?_ | refine blk_alloc ?_ _)); exact BK159.out))⟩; have n1_ : Aside0 (Below w.heap.size w w19) := ⟨(by rw [hw]; exact (by repeat (first | (with_reducible first | exact HB.out | apply below_alloc | apply pw_below_drewN | apply below_drew1 | refine below_set ?_ GE159.out) | exact HB.out)))⟩; clear hw; clear BK159; clear HB; have BK159 := n0_; have HB := n1_; clear n0_ n1_))
                    go_roundg kj7
                    case measure => have := HK1.out; have := HJ7.out; omega
                    case rel => exact ⟨(fofint (Int.tmod (rd l1 x9_1) 1048576)), (fofint (Int.tmod (rd l1 x9_1) 1048576)), (t165), (wrap64 (x9_1 + 1)), (t162), (t163), (t164), (by first | rfl | (simp; done) | (simp [*]; done)), (by first | rfl | (simp; done) | (simp [*]; done)), (by first | rfl | (simp; done) | (simp [*]; done)), (by first | rfl | (simp; done) | (simp [*]; done)), H', ⟨by have := HK1.out; have := HJ7.out; omega⟩, ⟨by (with_reducible repeat (first | refine blk_drewN ?_ _ | refine blk_drew ?_ | refine blk_alloc ?_ _)); exact BK159.out⟩, ⟨by repeat (first | (with_reducible first | exact HB.out | apply below_alloc | apply pw_below_drewN | apply below_drew1 | refine below_set ?_ GE159.out) | exact HB.out)⟩⟩
                  · rw [if_neg c14] at H
                    have c14b0 : (flt x6_1 (fofint (Int.tmod (rd l1 x9_1) 1048576))) = false := by simpa using c14
                    clear c14
                    replace H := Option.bind_eq_some_iff.mp H
                    obtain ⟨⟨t166, t167, t168, t169⟩, A200, H⟩ := H
                    replace H : (beaconlaw05_GaugeBetween.l0 kj7 l1 (fofint (Int.tmod (rd l1 x9_1) 1048576)) x6_1 t169 (wrap64 (x9_1 + 1)) t166 t167 t168) = some r := H
                    have A20 := Aside0.mk A200
                    clear A200
                    have H' := Aside0.mk H
                    clear H
                    have p161 : 0 ≤ (x9_1 : Int) := of_decide_eq_true (by first | (with_reducible assumption) | assumption)
                    have q161 : x9_1 < (l1.length : Int) := of_decide_eq_true (by first | (with_reducible assumption) | assumption)
                    obtain ⟨ad161, e161, hx161_0⟩ := Kd.at_int HR1.out x9_1 p161 q161
                    cases e161
                    replace hx161_0 := (HB.out.cell (World.block_lt_of_cell? w _ hx161_0)).trans hx161_0
                    replace p161 := eq_true p161
                    replace q161 := eq_true q161
                    have hcz21_0 : wc.cell? ⟨gb159, 0, none⟩ = some (.int .i64 x160000_1) := (blk_cell BK159.out 0).trans rfl
                    have hcz21_1 : wc.cell? ⟨gb159, 1, none⟩ = some (.float .f64 x160001_1) := (blk_cell BK159.out 1).trans rfl
                    have hcz21_2 : wc.cell? ⟨gb159, 2, none⟩ = some (.float .f64 x160002_1) := (blk_cell BK159.out 2).trans rfl
                    have hfz21_0 := blk_frozen BK159.out 0
                    have hfz21_1 := blk_frozen BK159.out 1
                    have hfz21_2 := blk_frozen BK159.out 2
                    go_wp2_with (first | ((with_reducible refine gate_callee (f := 9) rfl ?_); refine goesL_ (some 50) rfl rfl Try.func9 (by kernel_rfl) rfl #[.agg #[.int .i64 x160000_1, .float .f64 x160001_1, .float .f64 x160002_1], .float .f64 (fofint (Int.tmod (rd l1 x9_1) 1048576))] rfl (by (try simp only [List.map_toArray, List.map_cons, List.map_nil]); first | done | rfl | (simp only [List.length_drop, List.length_take]; rfl)) ?_; (with_reducible refine (gauge_Feed.calls x160000_1 x160001_1 x160002_1 (fofint (Int.tmod (rd l1 x9_1) 1048576)) t166 t167 t168 t169 _ A20.out).mono ?_); rintro e w22 ⟨rfl, hb⟩; refine ⟨_, rfl, ?_⟩; have n0_ := Aside0.mk (blk_below (g := gb159) (o := .cells #[.int .i64 x160000_1, .float .f64 x160001_1, .float .f64 x160002_1] 24 (0, 0)) (by (with_reducible repeat (first | refine blk_drewN ?_ _ | refine blk_drew ?_ | refine blk_alloc ?_ _)); exact BK159.out) hb); have n1_ := Aside0.mk (below_step (by repeat (first | (with_reducible first | exact HB.out | apply below_alloc | apply pw_below_drewN | apply below_drew1 | refine below_set ?_ GE159.out) | exact HB.out)) hb); clear BK159; clear HB; have BK159 := n0_; have HB := n1_; clear n0_ n1_; (try clear hb); (try clear hb2); (try clear hk); (try clear hi); have hcz23_0 : w22.cell? ⟨gb159, 0, none⟩ = some (.int .i64 x160000_1) := (blk_cell BK159.out 0).trans rfl; have hcz23_1 : w22.cell? ⟨gb159, 1, none⟩ = some (.float .f64 x160001_1) := (blk_cell BK159.out 1).trans rfl; have hcz23_2 : w22.cell? ⟨gb159, 2, none⟩ = some (.float .f64 x160002_1) := (blk_cell BK159.out 2).trans rfl; have hfz23_0 := blk_frozen BK159.out 0; have hfz23_1 := blk_frozen BK159.out 1; have hfz23_2 := blk_frozen BK159.out 2) | ((with_reducible refine gate_store (t := 24) (p := 7) rfl ?_); refine store_event (t := 24) (p := 7) (v := ?vo_w24) (w1 := (((w22.setCell ⟨gb159, 0, none⟩ (.int .i64 t166)).setCell ⟨gb159, 1, none⟩ (.float .f64 t167)).setCell ⟨gb159, 2, none⟩ (.float .f64 t168))) ?hg ?ho ?hn ?hr ?_; (case ho => rfl); (case hg => rfl); (case hn => rfl); (case hr => first | (go_simp; done) | (go_simp; rfl)); intro w24 hw; have n0_ : Aside0 (w24.heap[gb159]? = some (.cells #[.int .i64 t166, .float .f64 t167, .float .f64 t168] 24 (0, 0))) := ⟨(by rw [hw]; exact (by (with_reducible repeat (first | refine blk_drewN ?_ _ | refine blk_drew ?_ | refine blk_alloc ?_ _)); refine blk_put (cs := #[.int .i64 t166, .float .f64 t167, .float .f64 x160002_1]) ?_ 2 _ rfl; (with_reducible repeat (first | refine blk_drewN ?_ _ | refine blk_drew ?_ | refine blk_alloc ?_ _)); refine blk_put (cs := #[.int .i64 t166, .float .f64 x160001_1, .float .f64 x160002_1]) ?_ 1 _ rfl; (with_reducible repeat (first | refine blk_drewN ?_ _ | refine blk_drew ?_ | refine blk_alloc ?_ _)); refine blk_put (cs := #[.int .i64 x160000_1, .float .f64 x160001_1, .float .f64 x160002_1]) ?_ 0 _ rfl; (with_reducible repeat (first | refine blk_drewN ?_ _ | refine blk_drew ?_ | refine blk_alloc ?_ _)); exact BK159.out))⟩; have n1_ : Aside0 (Below w.heap.size w w24) := ⟨(by rw [hw]; exact (by repeat (first | (with_reducible first | exact HB.out | apply below_alloc | apply pw_below_drewN | apply below_drew1 | refine below_set ?_ GE159.out) | exact HB.out)))⟩; clear hw; clear BK159; clear HB; have BK159 := n0_; have HB := n1_; clear n0_ n1_))
                    go_roundg kj7
                    case measure => have := HK1.out; have := HJ7.out; omega
                    case rel => exact ⟨(fofint (Int.tmod (rd l1 x9_1) 1048576)), (x6_1), (t169), (wrap64 (x9_1 + 1)), (t166), (t167), (t168), (by first | rfl | (simp; done) | (simp [*]; done)), (by first | rfl | (simp; done) | (simp [*]; done)), (by first | rfl | (simp; done) | (simp [*]; done)), (by first | rfl | (simp; done) | (simp [*]; done)), H', ⟨by have := HK1.out; have := HJ7.out; omega⟩, ⟨by (with_reducible repeat (first | refine blk_drewN ?_ _ | refine blk_drew ?_ | refine blk_alloc ?_ _)); exact BK159.out⟩, ⟨by repeat (first | (with_reducible first | exact HB.out | apply below_alloc | apply pw_below_drewN | apply below_drew1 | refine below_set ?_ GE159.out) | exact HB.out)⟩⟩
                · rw [if_neg c13] at H
                  have c13b0 : (flt (fofint (Int.tmod (rd l1 x9_1) 1048576)) x5_1) = false := by simpa using c13
                  clear c13
                  by_cases c25 : (flt x6_1 (fofint (Int.tmod (rd l1 x9_1) 1048576))) = true
                  · rw [if_pos c25] at H
                    have c25b0 : (flt x6_1 (fofint (Int.tmod (rd l1 x9_1) 1048576))) = true := c25
                    clear c25
                    replace H := Option.bind_eq_some_iff.mp H
                    obtain ⟨⟨t170, t171, t172, t173⟩, A260, H⟩ := H
                    replace H : (beaconlaw05_GaugeBetween.l0 kj7 l1 x5_1 (fofint (Int.tmod (rd l1 x9_1) 1048576)) t173 (wrap64 (x9_1 + 1)) t170 t171 t172) = some r := H
                    have A26 := Aside0.mk A260
                    clear A260
                    have H' := Aside0.mk H
                    clear H
                    have p161 : 0 ≤ (x9_1 : Int) := of_decide_eq_true (by first | (with_reducible assumption) | assumption)
                    have q161 : x9_1 < (l1.length : Int) := of_decide_eq_true (by first | (with_reducible assumption) | assumption)
                    obtain ⟨ad161, e161, hx161_0⟩ := Kd.at_int HR1.out x9_1 p161 q161
                    cases e161
                    replace hx161_0 := (HB.out.cell (World.block_lt_of_cell? w _ hx161_0)).trans hx161_0
                    replace p161 := eq_true p161
                    replace q161 := eq_true q161
                    have hcz27_0 : wc.cell? ⟨gb159, 0, none⟩ = some (.int .i64 x160000_1) := (blk_cell BK159.out 0).trans rfl
                    have hcz27_1 : wc.cell? ⟨gb159, 1, none⟩ = some (.float .f64 x160001_1) := (blk_cell BK159.out 1).trans rfl
                    have hcz27_2 : wc.cell? ⟨gb159, 2, none⟩ = some (.float .f64 x160002_1) := (blk_cell BK159.out 2).trans rfl
                    have hfz27_0 := blk_frozen BK159.out 0
                    have hfz27_1 := blk_frozen BK159.out 1
                    have hfz27_2 := blk_frozen BK159.out 2
                    go_wp2_with (first | ((with_reducible refine gate_callee (f := 9) rfl ?_); refine goesL_ (some 50) rfl rfl Try.func9 (by kernel_rfl) rfl #[.agg #[.int .i64 x160000_1, .float .f64 x160001_1, .float .f64 x160002_1], .float .f64 (fofint (Int.tmod (rd l1 x9_1) 1048576))] rfl (by (try simp only [List.map_toArray, List.map_cons, List.map_nil]); first | done | rfl | (simp only [List.length_drop, List.length_take]; rfl)) ?_; (with_reducible refine (gauge_Feed.calls x160000_1 x160001_1 x160002_1 (fofint (Int.tmod (rd l1 x9_1) 1048576)) t170 t171 t172 t173 _ A26.out).mono ?_); rintro e w28 ⟨rfl, hb⟩; refine ⟨_, rfl, ?_⟩; have n0_ := Aside0.mk (blk_below (g := gb159) (o := .cells #[.int .i64 x160000_1, .float .f64 x160001_1, .float .f64 x160002_1] 24 (0, 0)) (by (with_reducible repeat (first | refine blk_drewN ?_ _ | refine blk_drew ?_ | refine blk_alloc ?_ _)); exact BK159.out) hb); have n1_ := Aside0.mk (below_step (by repeat (first | (with_reducible first | exact HB.out | apply below_alloc | apply pw_below_drewN | apply below_drew1 | refine below_set ?_ GE159.out) | exact HB.out)) hb); clear BK159; clear HB; have BK159 := n0_; have HB := n1_; clear n0_ n1_; (try clear hb); (try clear hb2); (try clear hk); (try clear hi); have hcz29_0 : w28.cell? ⟨gb159, 0, none⟩ = some (.int .i64 x160000_1) := (blk_cell BK159.out 0).trans rfl; have hcz29_1 : w28.cell? ⟨gb159, 1, none⟩ = some (.float .f64 x160001_1) := (blk_cell BK159.out 1).trans rfl; have hcz29_2 : w28.cell? ⟨gb159, 2, none⟩ = some (.float .f64 x160002_1) := (blk_cell BK159.out 2).trans rfl; have hfz29_0 := blk_frozen BK159.out 0; have hfz29_1 := blk_frozen BK159.out 1; have hfz29_2 := blk_frozen BK159.out 2) | ((with_reducible refine gate_store (t := 24) (p := 7) rfl ?_); refine store_event (t := 24) (p := 7) (v := ?vo_w30) (w1 := (((w28.setCell ⟨gb159, 0, none⟩ (.int .i64 t170)).setCell ⟨gb159, 1, none⟩ (.float .f64 t171)).setCell ⟨gb159, 2, none⟩ (.float .f64 t172))) ?hg ?ho ?hn ?hr ?_; (case ho => rfl); (case hg => rfl); (case hn => rfl); (case hr => first | (go_simp; done) | (go_simp; rfl)); intro w30 hw; have n0_ : Aside0 (w30.heap[gb159]? = some (.cells #[.int .i64 t170, .float .f64 t171, .float .f64 t172] 24 (0, 0))) := ⟨(by rw [hw]; exact (by (with_reducible repeat (first | refine blk_drewN ?_ _ | refine blk_drew ?_ | refine blk_alloc ?_ _)); refine blk_put (cs := #[.int .i64 t170, .float .f64 t171, .float .f64 x160002_1]) ?_ 2 _ rfl; (with_reducible repeat (first | refine blk_drewN ?_ _ | refine blk_drew ?_ | refine blk_alloc ?_ _)); refine blk_put (cs := #[.int .i64 t170, .float .f64 x160001_1, .float .f64 x160002_1]) ?_ 1 _ rfl; (with_reducible repeat (first | refine blk_drewN ?_ _ | refine blk_drew ?_ | refine blk_alloc ?_ _)); refine blk_put (cs := #[.int .i64 x160000_1, .float .f64 x160001_1, .float .f64 x160002_1]) ?_ 0 _ rfl; (with_reducible repeat (first | refine blk_drewN ?_ _ | refine blk_drew ?_ | refine blk_alloc ?_ _)); exact BK159.out))⟩; have n1_ : Aside0 (Below w.heap.size w w30) := ⟨(by rw [hw]; exact (by repeat (first | (with_reducible first | exact HB.out | apply below_alloc | apply pw_below_drewN | apply below_drew1 | refine below_set ?_ GE159.out) | exact HB.out)))⟩; clear hw; clear BK159; clear HB; have BK159 := n0_; have HB := n1_; clear n0_ n1_))
                    go_roundg kj7
                    case measure => have := HK1.out; have := HJ7.out; omega
                    case rel => exact ⟨(x5_1), (fofint (Int.tmod (rd l1 x9_1) 1048576)), (t173), (wrap64 (x9_1 + 1)), (t170), (t171), (t172), (by first | rfl | (simp; done) | (simp [*]; done)), (by first | rfl | (simp; done) | (simp [*]; done)), (by first | rfl | (simp; done) | (simp [*]; done)), (by first | rfl | (simp; done) | (simp [*]; done)), H', ⟨by have := HK1.out; have := HJ7.out; omega⟩, ⟨by (with_reducible repeat (first | refine blk_drewN ?_ _ | refine blk_drew ?_ | refine blk_alloc ?_ _)); exact BK159.out⟩, ⟨by repeat (first | (with_reducible first | exact HB.out | apply below_alloc | apply pw_below_drewN | apply below_drew1 | refine below_set ?_ GE159.out) | exact HB.out)⟩⟩
                  · rw [if_neg c25] at H
                    have c25b0 : (flt x6_1 (fofint (Int.tmod (rd l1 x9_1) 1048576))) = false := by simpa using c25
                    clear c25
                    replace H := Option.bind_eq_some_iff.mp H
                    obtain ⟨⟨t174, t175, t176, t177⟩, A310, H⟩ := H
                    replace H : (beaconlaw05_GaugeBetween.l0 kj7 l1 x5_1 x6_1 t177 (wrap64 (x9_1 + 1)) t174 t175 t176) = some r := H
                    have A31 := Aside0.mk A310
                    clear A310
                    have H' := Aside0.mk H
                    clear H
                    have p161 : 0 ≤ (x9_1 : Int) := of_decide_eq_true (by first | (with_reducible assumption) | assumption)
                    have q161 : x9_1 < (l1.length : Int) := of_decide_eq_true (by first | (with_reducible assumption) | assumption)
                    obtain ⟨ad161, e161, hx161_0⟩ := Kd.at_int HR1.out x9_1 p161 q161
                    cases e161
                    replace hx161_0 := (HB.out.cell (World.block_lt_of_cell? w _ hx161_0)).trans hx161_0
                    replace p161 := eq_true p161
                    replace q161 := eq_true q161
                    have hcz32_0 : wc.cell? ⟨gb159, 0, none⟩ = some (.int .i64 x160000_1) := (blk_cell BK159.out 0).trans rfl
                    have hcz32_1 : wc.cell? ⟨gb159, 1, none⟩ = some (.float .f64 x160001_1) := (blk_cell BK159.out 1).trans rfl
                    have hcz32_2 : wc.cell? ⟨gb159, 2, none⟩ = some (.float .f64 x160002_1) := (blk_cell BK159.out 2).trans rfl
                    have hfz32_0 := blk_frozen BK159.out 0
                    have hfz32_1 := blk_frozen BK159.out 1
                    have hfz32_2 := blk_frozen BK159.out 2
                    go_wp2_with (first | ((with_reducible refine gate_callee (f := 9) rfl ?_); refine goesL_ (some 50) rfl rfl Try.func9 (by kernel_rfl) rfl #[.agg #[.int .i64 x160000_1, .float .f64 x160001_1, .float .f64 x160002_1], .float .f64 (fofint (Int.tmod (rd l1 x9_1) 1048576))] rfl (by (try simp only [List.map_toArray, List.map_cons, List.map_nil]); first | done | rfl | (simp only [List.length_drop, List.length_take]; rfl)) ?_; (with_reducible refine (gauge_Feed.calls x160000_1 x160001_1 x160002_1 (fofint (Int.tmod (rd l1 x9_1) 1048576)) t174 t175 t176 t177 _ A31.out).mono ?_); rintro e w33 ⟨rfl, hb⟩; refine ⟨_, rfl, ?_⟩; have n0_ := Aside0.mk (blk_below (g := gb159) (o := .cells #[.int .i64 x160000_1, .float .f64 x160001_1, .float .f64 x160002_1] 24 (0, 0)) (by (with_reducible repeat (first | refine blk_drewN ?_ _ | refine blk_drew ?_ | refine blk_alloc ?_ _)); exact BK159.out) hb); have n1_ := Aside0.mk (below_step (by repeat (first | (with_reducible first | exact HB.out | apply below_alloc | apply pw_below_drewN | apply below_drew1 | refine below_set ?_ GE159.out) | exact HB.out)) hb); clear BK159; clear HB; have BK159 := n0_; have HB := n1_; clear n0_ n1_; (try clear hb); (try clear hb2); (try clear hk); (try clear hi); have hcz34_0 : w33.cell? ⟨gb159, 0, none⟩ = some (.int .i64 x160000_1) := (blk_cell BK159.out 0).trans rfl; have hcz34_1 : w33.cell? ⟨gb159, 1, none⟩ = some (.float .f64 x160001_1) := (blk_cell BK159.out 1).trans rfl; have hcz34_2 : w33.cell? ⟨gb159, 2, none⟩ = some (.float .f64 x160002_1) := (blk_cell BK159.out 2).trans rfl; have hfz34_0 := blk_frozen BK159.out 0; have hfz34_1 := blk_frozen BK159.out 1; have hfz34_2 := blk_frozen BK159.out 2) | ((with_reducible refine gate_store (t := 24) (p := 7) rfl ?_); refine store_event (t := 24) (p := 7) (v := ?vo_w35) (w1 := (((w33.setCell ⟨gb159, 0, none⟩ (.int .i64 t174)).setCell ⟨gb159, 1, none⟩ (.float .f64 t175)).setCell ⟨gb159, 2, none⟩ (.float .f64 t176))) ?hg ?ho ?hn ?hr ?_; (case ho => rfl); (case hg => rfl); (case hn => rfl); (case hr => first | (go_simp; done) | (go_simp; rfl)); intro w35 hw; have n0_ : Aside0 (w35.heap[gb159]? = some (.cells #[.int .i64 t174, .float .f64 t175, .float .f64 t176] 24 (0, 0))) := ⟨(by rw [hw]; exact (by (with_reducible repeat (first | refine blk_drewN ?_ _ | refine blk_drew ?_ | refine blk_alloc ?_ _)); refine blk_put (cs := #[.int .i64 t174, .float .f64 t175, .float .f64 x160002_1]) ?_ 2 _ rfl; (with_reducible repeat (first | refine blk_drewN ?_ _ | refine blk_drew ?_ | refine blk_alloc ?_ _)); refine blk_put (cs := #[.int .i64 t174, .float .f64 x160001_1, .float .f64 x160002_1]) ?_ 1 _ rfl; (with_reducible repeat (first | refine blk_drewN ?_ _ | refine blk_drew ?_ | refine blk_alloc ?_ _)); refine blk_put (cs := #[.int .i64 x160000_1, .float .f64 x160001_1, .float .f64 x160002_1]) ?_ 0 _ rfl; (with_reducible repeat (first | refine blk_drewN ?_ _ | refine blk_drew ?_ | refine blk_alloc ?_ _)); exact BK159.out))⟩; have n1_ : Aside0 (Below w.heap.size w w35) := ⟨(by rw [hw]; exact (by repeat (first | (with_reducible first | exact HB.out | apply below_alloc | apply pw_below_drewN | apply below_drew1 | refine below_set ?_ GE159.out) | exact HB.out)))⟩; clear hw; clear BK159; clear HB; have BK159 := n0_; have HB := n1_; clear n0_ n1_))
                    go_roundg kj7
                    case measure => have := HK1.out; have := HJ7.out; omega
                    case rel => exact ⟨(x5_1), (x6_1), (t177), (wrap64 (x9_1 + 1)), (t174), (t175), (t176), (by first | rfl | (simp; done) | (simp [*]; done)), (by first | rfl | (simp; done) | (simp [*]; done)), (by first | rfl | (simp; done) | (simp [*]; done)), (by first | rfl | (simp; done) | (simp [*]; done)), H', ⟨by have := HK1.out; have := HJ7.out; omega⟩, ⟨by (with_reducible repeat (first | refine blk_drewN ?_ _ | refine blk_drew ?_ | refine blk_alloc ?_ _)); exact BK159.out⟩, ⟨by repeat (first | (with_reducible first | exact HB.out | apply below_alloc | apply pw_below_drewN | apply below_drew1 | refine below_set ?_ GE159.out) | exact HB.out)⟩⟩
              · rw [if_neg c12] at H
                exact absurd H (by simp)
            · rw [if_neg c11] at H
              exact absurd H (by simp)
          · replace c10 := Bool.eq_false_iff.mpr c10
            subst c10
            have H1 : (if x8_1 = 0 then (if (fdivOk x6_1 4652007308841189376) = true then (if (fsubOk x5_1 (fdiv x6_1 4652007308841189376)) = true then (if (fle (fsub x5_1 (fdiv x6_1 4652007308841189376)) x160001_1) = true then (if (faddOk x6_1 (fdiv x6_1 4652007308841189376)) = true then (if (fle x160001_1 (fadd x6_1 (fdiv x6_1 4652007308841189376))) = true then ((beaconlaw05_awake.f).bind fun t160 => (some t160)) else (some false)) else (none)) else (some false)) else (none)) else (none)) else (some false)) = some r := by rw [if_neg (show ¬ (false = true) by decide)] at H; exact H
            clear H
            have H := H1
            clear H1
            by_cases c36 : x8_1 = 0
            · rw [if_pos c36] at H
              have c36b0 : (x8_1 == 0) = true := beq_iff_eq.mpr c36
              have c36b1 : (x8_1 != 0) = false := bne_eq_false_iff_eq.mpr c36
              clear c36
              by_cases c37 : (fdivOk x6_1 4652007308841189376) = true
              · rw [if_pos c37] at H
                have c37b0 := eq_true c37
                have c37b1 : decide ((fdivOk x6_1 4652007308841189376) = true) = true := decide_eq_true c37
                clear c37
                by_cases c38 : (fsubOk x5_1 (fdiv x6_1 4652007308841189376)) = true
                · rw [if_pos c38] at H
                  have c38b0 := eq_true c38
                  have c38b1 : decide ((fsubOk x5_1 (fdiv x6_1 4652007308841189376)) = true) = true := decide_eq_true c38
                  clear c38
                  by_cases c39 : (fle (fsub x5_1 (fdiv x6_1 4652007308841189376)) x160001_1) = true
                  · rw [if_pos c39] at H
                    have c39b0 : (fle (fsub x5_1 (fdiv x6_1 4652007308841189376)) x160001_1) = true := c39
                    clear c39
                    by_cases c40 : (faddOk x6_1 (fdiv x6_1 4652007308841189376)) = true
                    · rw [if_pos c40] at H
                      have c40b0 := eq_true c40
                      have c40b1 : decide ((faddOk x6_1 (fdiv x6_1 4652007308841189376)) = true) = true := decide_eq_true c40
                      clear c40
                      by_cases c41 : (fle x160001_1 (fadd x6_1 (fdiv x6_1 4652007308841189376))) = true
                      · rw [if_pos c41] at H
                        have c41b0 : (fle x160001_1 (fadd x6_1 (fdiv x6_1 4652007308841189376))) = true := c41
                        clear c41
                        replace H := Option.bind_eq_some_iff.mp H
                        obtain ⟨t160, A420, H⟩ := H
                        replace H : (some t160) = some r := H
                        have A42 := Aside0.mk A420
                        clear A420
                        obtain rfl := Option.some.inj H
                        have hcz43_0 : wc.cell? ⟨gb159, 0, none⟩ = some (.int .i64 x160000_1) := (blk_cell BK159.out 0).trans rfl
                        have hcz43_1 : wc.cell? ⟨gb159, 1, none⟩ = some (.float .f64 x160001_1) := (blk_cell BK159.out 1).trans rfl
                        have hcz43_2 : wc.cell? ⟨gb159, 2, none⟩ = some (.float .f64 x160002_1) := (blk_cell BK159.out 2).trans rfl
                        have hfz43_0 := blk_frozen BK159.out 0
                        have hfz43_1 := blk_frozen BK159.out 1
                        have hfz43_2 := blk_frozen BK159.out 2
                        go_wp2_with (first | (go_at_call 14; (with_reducible refine (beaconlaw05_awake.calls  t160 _ A42.out).mono ?_); rintro e w44 ⟨rfl, hb⟩; have n0_ := Aside0.mk (blk_below (g := gb159) (o := .cells #[.int .i64 x160000_1, .float .f64 x160001_1, .float .f64 x160002_1] 24 (0, 0)) (by (with_reducible repeat (first | refine blk_drewN ?_ _ | refine blk_drew ?_ | refine blk_alloc ?_ _)); exact BK159.out) hb); have n1_ := Aside0.mk (below_step (by repeat (first | (with_reducible first | exact HB.out | apply below_alloc | apply pw_below_drewN | apply below_drew1 | refine below_set ?_ GE159.out) | exact HB.out)) hb); clear BK159; clear HB; have BK159 := n0_; have HB := n1_; clear n0_ n1_; (try clear hb); (try clear hb2); (try clear hk); (try clear hi)))
                        go_ret
                        exact ⟨by first | rfl | (simp [errW_none, errW_some] <;> rfl) | (simp [*, errW_none, errW_some] <;> rfl), by repeat (first | (with_reducible first | exact HB.out | apply below_alloc | apply pw_below_drewN | apply below_drew1 | refine below_set ?_ GE159.out) | exact HB.out)⟩
                      · rw [if_neg c41] at H
                        have c41b0 : (fle x160001_1 (fadd x6_1 (fdiv x6_1 4652007308841189376))) = false := by simpa using c41
                        clear c41
                        obtain rfl := Option.some.inj H
                        have hcz45_0 : wc.cell? ⟨gb159, 0, none⟩ = some (.int .i64 x160000_1) := (blk_cell BK159.out 0).trans rfl
                        have hcz45_1 : wc.cell? ⟨gb159, 1, none⟩ = some (.float .f64 x160001_1) := (blk_cell BK159.out 1).trans rfl
                        have hcz45_2 : wc.cell? ⟨gb159, 2, none⟩ = some (.float .f64 x160002_1) := (blk_cell BK159.out 2).trans rfl
                        have hfz45_0 := blk_frozen BK159.out 0
                        have hfz45_1 := blk_frozen BK159.out 1
                        have hfz45_2 := blk_frozen BK159.out 2
                        go_wp2
                        go_ret
                        exact ⟨by first | rfl | (simp [errW_none, errW_some] <;> rfl) | (simp [*, errW_none, errW_some] <;> rfl), by repeat (first | (with_reducible first | exact HB.out | apply below_alloc | apply pw_below_drewN | apply below_drew1 | refine below_set ?_ GE159.out) | exact HB.out)⟩
                    · rw [if_neg c40] at H
                      exact absurd H (by simp)
                  · rw [if_neg c39] at H
                    have c39b0 : (fle (fsub x5_1 (fdiv x6_1 4652007308841189376)) x160001_1) = false := by simpa using c39
                    clear c39
                    obtain rfl := Option.some.inj H
                    have hcz46_0 : wc.cell? ⟨gb159, 0, none⟩ = some (.int .i64 x160000_1) := (blk_cell BK159.out 0).trans rfl
                    have hcz46_1 : wc.cell? ⟨gb159, 1, none⟩ = some (.float .f64 x160001_1) := (blk_cell BK159.out 1).trans rfl
                    have hcz46_2 : wc.cell? ⟨gb159, 2, none⟩ = some (.float .f64 x160002_1) := (blk_cell BK159.out 2).trans rfl
                    have hfz46_0 := blk_frozen BK159.out 0
                    have hfz46_1 := blk_frozen BK159.out 1
                    have hfz46_2 := blk_frozen BK159.out 2
                    go_wp2
                    go_ret
                    exact ⟨by first | rfl | (simp [errW_none, errW_some] <;> rfl) | (simp [*, errW_none, errW_some] <;> rfl), by repeat (first | (with_reducible first | exact HB.out | apply below_alloc | apply pw_below_drewN | apply below_drew1 | refine below_set ?_ GE159.out) | exact HB.out)⟩
                · rw [if_neg c38] at H
                  exact absurd H (by simp)
              · rw [if_neg c37] at H
                exact absurd H (by simp)
            · rw [if_neg c36] at H
              have c36b0 : (x8_1 == 0) = false := beq_eq_false_iff_ne.mpr c36
              have c36b1 : (x8_1 != 0) = true := bne_iff_ne.mpr c36
              obtain rfl := Option.some.inj H
              go_wp2
              go_ret
              exact ⟨by first | rfl | (simp [errW_none, errW_some] <;> rfl) | (simp [*, errW_none, errW_some] <;> rfl), by repeat (first | (with_reducible first | exact HB.out | apply below_alloc | apply pw_below_drewN | apply below_drew1 | refine below_set ?_ GE159.out) | exact HB.out)⟩

/-! ### math_Copysign: function 59 -/
def math_Copysign.f (a0 : Nat) (a1 : Nat) : Option (Nat) := some (ffrom (Go.bits .or .u64 (Go.bits .andNot .u64 (fbits a0) 9223372036854775808) (Go.bits .and .u64 (fbits a1) 9223372036854775808)))
set_option maxHeartbeats 2500000 in
set_option maxRecDepth 100000 in
theorem math_Copysign.calls (a0 : Nat) (a1 : Nat) (r : Nat) (w : World) (h : math_Copysign.f a0 a1 = some r) :
    Calls Try.prog 59 #[.float .f64 a0, .float .f64 a1] w fun e w' => e = .returned (.float .f64 r) ∧ Drawn0 w w' := by
  have H : (some (ffrom (Go.bits .or .u64 (Go.bits .andNot .u64 (fbits a0) 9223372036854775808) (Go.bits .and .u64 (fbits a1) 9223372036854775808)))) = some r := h
  clear h
  obtain rfl := Option.some.inj H
  go_enter Try.func59, Try.ntmps59
  go_wp2
  go_ret
  exact ⟨by first | rfl | (simp; done) | (simp [*]; done), by repeat (first | exact Drawn0.refl _ | apply Drawn0.step)⟩

/-! ### math_trunc: function 54 -/
def math_trunc.f (a0 : Nat) : Option (Nat) := (math_Abs.f a0).bind fun t178 => (if (flt t178 4607182418800017408) = true then ((math_Copysign.f 0 a0).bind fun t179 => (some t179)) else (if (IntKind.u64.wrap ((Go.bits .and .u64 ((fbits a0) / 4503599627370496) 2047) - 1023)) < 52 then (if 0 ≤ (IntKind.u64.wrap (52 - (IntKind.u64.wrap ((Go.bits .and .u64 ((fbits a0) / 4503599627370496) 2047) - 1023)))) then (some (ffrom (Go.bits .andNot .u64 (fbits a0) (IntKind.u64.wrap ((shl .u64 1 (IntKind.u64.wrap (52 - (IntKind.u64.wrap ((Go.bits .and .u64 ((fbits a0) / 4503599627370496) 2047) - 1023))))) - 1))))) else (none)) else (some (ffrom (fbits a0)))))
set_option maxHeartbeats 2500000 in
set_option maxRecDepth 100000 in
theorem math_trunc.calls (a0 : Nat) (r : Nat) (w : World) (h : math_trunc.f a0 = some r) :
    Calls Try.prog 54 #[.float .f64 a0] w fun e w' => e = .returned (.float .f64 r) ∧ Drawn0 w w' := by
  have H : ((math_Abs.f a0).bind fun t178 => (if (flt t178 4607182418800017408) = true then ((math_Copysign.f 0 a0).bind fun t179 => (some t179)) else (if (IntKind.u64.wrap ((Go.bits .and .u64 ((fbits a0) / 4503599627370496) 2047) - 1023)) < 52 then (if 0 ≤ (IntKind.u64.wrap (52 - (IntKind.u64.wrap ((Go.bits .and .u64 ((fbits a0) / 4503599627370496) 2047) - 1023)))) then (some (ffrom (Go.bits .andNot .u64 (fbits a0) (IntKind.u64.wrap ((shl .u64 1 (IntKind.u64.wrap (52 - (IntKind.u64.wrap ((Go.bits .and .u64 ((fbits a0) / 4503599627370496) 2047) - 1023))))) - 1))))) else (none)) else (some (ffrom (fbits a0)))))) = some r := h
  clear h
  replace H := Option.bind_eq_some_iff.mp H
  obtain ⟨t178, A20, H⟩ := H
  replace H : (if (flt t178 4607182418800017408) = true then ((math_Copysign.f 0 a0).bind fun t179 => (some t179)) else (if (IntKind.u64.wrap ((Go.bits .and .u64 ((fbits a0) / 4503599627370496) 2047) - 1023)) < 52 then (if 0 ≤ (IntKind.u64.wrap (52 - (IntKind.u64.wrap ((Go.bits .and .u64 ((fbits a0) / 4503599627370496) 2047) - 1023)))) then (some (ffrom (Go.bits .andNot .u64 (fbits a0) (IntKind.u64.wrap ((shl .u64 1 (IntKind.u64.wrap (52 - (IntKind.u64.wrap ((Go.bits .and .u64 ((fbits a0) / 4503599627370496) 2047) - 1023))))) - 1))))) else (none)) else (some (ffrom (fbits a0))))) = some r := H
  have A2 := Aside0.mk A20
  clear A20
  by_cases c3 : (flt t178 4607182418800017408) = true
  · rw [if_pos c3] at H
    have c3b0 : (flt t178 4607182418800017408) = true := c3
    clear c3
    replace H := Option.bind_eq_some_iff.mp H
    obtain ⟨t179, A40, H⟩ := H
    replace H : (some t179) = some r := H
    have A4 := Aside0.mk A40
    clear A40
    obtain rfl := Option.some.inj H
    go_enter Try.func54, Try.ntmps54
    go_wp2_with (first | ((with_reducible refine gate_callee (f := 25) rfl ?_); refine goesL_ (some 6) rfl rfl Try.func25 (by kernel_rfl) rfl #[.float .f64 a0] rfl (by (try simp only [List.map_toArray, List.map_cons, List.map_nil]); first | done | rfl | (simp only [List.length_drop, List.length_take]; rfl)) ?_; (with_reducible refine (math_Abs.calls a0 t178 _ A2.out).mono ?_); rintro e w' ⟨rfl, ⟨nd, rfl⟩⟩; refine ⟨_, rfl, ?_⟩) | ((with_reducible refine gate_callee (f := 59) rfl ?_); refine goesL_ (some 9) rfl rfl Try.func59 (by kernel_rfl) rfl #[.float .f64 0, .float .f64 a0] rfl (by (try simp only [List.map_toArray, List.map_cons, List.map_nil]); first | done | rfl | (simp only [List.length_drop, List.length_take]; rfl)) ?_; (with_reducible refine (math_Copysign.calls 0 a0 t179 _ A4.out).mono ?_); rintro e w' ⟨rfl, ⟨nd, rfl⟩⟩; refine ⟨_, rfl, ?_⟩))
    go_ret
    exact ⟨by first | rfl | (simp; done) | (simp [*]; done), by repeat (first | exact Drawn0.refl _ | apply Drawn0.step)⟩
  · rw [if_neg c3] at H
    have c3b0 : (flt t178 4607182418800017408) = false := by simpa using c3
    clear c3
    by_cases c5 : (IntKind.u64.wrap ((Go.bits .and .u64 ((fbits a0) / 4503599627370496) 2047) - 1023)) < 52
    · rw [if_pos c5] at H
      have c5b0 : decide ((IntKind.u64.wrap ((Go.bits .and .u64 ((fbits a0) / 4503599627370496) 2047) - 1023)) < 52) = true := decide_eq_true c5
      clear c5
      obtain ⟨ji6, hji6⟩ : ∃ j_ : Int, (IntKind.u64.wrap (52 - (IntKind.u64.wrap ((Go.bits .and .u64 ((fbits a0) / 4503599627370496) 2047) - 1023)))) = j_ := ⟨_, rfl⟩
      replace H : (if 0 ≤ (ji6) then (some (ffrom (Go.bits .andNot .u64 (fbits a0) (IntKind.u64.wrap ((shl .u64 1 (ji6)) - 1))))) else (none)) = some r := by first | (rw [hji6] at H; exact H) | (simp only [hji6] at H ⊢; exact H)
      (try rw [hji6] at A2)
      by_cases c7 : 0 ≤ (ji6)
      · rw [if_pos c7] at H
        have c7b0 := eq_true c7
        have c7b1 : decide (0 ≤ (ji6)) = true := decide_eq_true c7
        clear c7
        obtain ⟨ji8, hji8⟩ : ∃ j_ : Int, (shl .u64 1 (ji6)) = j_ := ⟨_, rfl⟩
        replace H : (some (ffrom (Go.bits .andNot .u64 (fbits a0) (IntKind.u64.wrap ((ji8) - 1))))) = some r := by first | (rw [hji8] at H; exact H) | (simp only [hji8] at H ⊢; exact H)
        (try rw [hji8] at A2)
        have hji8_ : (IntKind.u64.wrap (1 * 2 ^ min (ji6).toNat 64)) = ji8 := hji8
        have hji8z : (ji6) ≤ 64 → (IntKind.u64.wrap (1 * 2 ^ (ji6).toNat)) = ji8 := shl_small hji8
        have hji8u : (IntKind.u64.wrap (2 ^ min (ji6).toNat 64)) = ji8 := by have h_ := hji8_; rw [Int.one_mul] at h_; exact h_
        have hji8v : (ji6) ≤ 64 → (IntKind.u64.wrap (2 ^ (ji6).toNat)) = ji8 := fun hle_ => by have h_ := hji8z hle_; rw [Int.one_mul] at h_; exact h_
        obtain rfl := Option.some.inj H
        go_enter Try.func54, Try.ntmps54
        go_wp2_with (first | ((with_reducible refine gate_callee (f := 25) rfl ?_); refine goesL_ (some 6) rfl rfl Try.func25 (by kernel_rfl) rfl #[.float .f64 a0] rfl (by (try simp only [List.map_toArray, List.map_cons, List.map_nil]); first | done | rfl | (simp only [List.length_drop, List.length_take]; rfl)) ?_; (with_reducible refine (math_Abs.calls a0 t178 _ A2.out).mono ?_); rintro e w' ⟨rfl, ⟨nd, rfl⟩⟩; refine ⟨_, rfl, ?_⟩))
        go_ret
        exact ⟨by first | rfl | (simp; done) | (simp only [← hji6, ← hji8] <;> (first | rfl | simp)) | (simp [*]; done), by repeat (first | exact Drawn0.refl _ | apply Drawn0.step)⟩
      · rw [if_neg c7] at H
        exact absurd H (by simp)
    · rw [if_neg c5] at H
      have c5b0 : decide ((IntKind.u64.wrap ((Go.bits .and .u64 ((fbits a0) / 4503599627370496) 2047) - 1023)) < 52) = false := decide_eq_false c5
      clear c5
      obtain rfl := Option.some.inj H
      go_enter Try.func54, Try.ntmps54
      go_wp2_with (first | ((with_reducible refine gate_callee (f := 25) rfl ?_); refine goesL_ (some 6) rfl rfl Try.func25 (by kernel_rfl) rfl #[.float .f64 a0] rfl (by (try simp only [List.map_toArray, List.map_cons, List.map_nil]); first | done | rfl | (simp only [List.length_drop, List.length_take]; rfl)) ?_; (with_reducible refine (math_Abs.calls a0 t178 _ A2.out).mono ?_); rintro e w' ⟨rfl, ⟨nd, rfl⟩⟩; refine ⟨_, rfl, ?_⟩))
      go_ret
      exact ⟨by first | rfl | (simp; done) | (simp [*]; done), by repeat (first | exact Drawn0.refl _ | apply Drawn0.step)⟩

/-! ### math_Trunc: function 48 -/
def math_Trunc.f (a0 : Nat) : Option (Nat) := if (froundOk a0) = true then (some (fround .zero a0)) else (none)
set_option maxHeartbeats 2500000 in
set_option maxRecDepth 100000 in
theorem math_Trunc.calls (a0 : Nat) (r : Nat) (w : World) (h : math_Trunc.f a0 = some r) :
    Calls Try.prog 48 #[.float .f64 a0] w fun e w' => e = .returned (.float .f64 r) ∧ Drawn0 w w' := by
  have H : (if (froundOk a0) = true then (some (fround .zero a0)) else (none)) = some r := h
  clear h
  by_cases c2 : (froundOk a0) = true
  · rw [if_pos c2] at H
    have c2b0 := eq_true c2
    have c2b1 : decide ((froundOk a0) = true) = true := decide_eq_true c2
    clear c2
    obtain rfl := Option.some.inj H
    go_enter Try.func48, Try.ntmps48
    go_wp2
    go_ret
    exact ⟨by first | rfl | (simp; done) | (simp [*]; done), by repeat (first | exact Drawn0.refl _ | apply Drawn0.step)⟩
  · rw [if_neg c2] at H
    exact absurd H (by simp)

/-! ### metric_quarter: function 47 -/
def metric_quarter.f (a0 : Nat) : Option (Bool) := if (fmulOk a0 4616189618054758400) = true then ((math_Trunc.f (fmul a0 4616189618054758400)).bind fun t180 => (some (feq (fmul a0 4616189618054758400) t180))) else (none)
set_option maxHeartbeats 2500000 in
set_option maxRecDepth 100000 in
theorem metric_quarter.calls (a0 : Nat) (r : Bool) (w : World) (h : metric_quarter.f a0 = some r) :
    Calls Try.prog 47 #[.float .f64 a0] w fun e w' => e = .returned (.bool r) ∧ Drawn0 w w' := by
  have H : (if (fmulOk a0 4616189618054758400) = true then ((math_Trunc.f (fmul a0 4616189618054758400)).bind fun t180 => (some (feq (fmul a0 4616189618054758400) t180))) else (none)) = some r := h
  clear h
  by_cases c2 : (fmulOk a0 4616189618054758400) = true
  · rw [if_pos c2] at H
    have c2b0 := eq_true c2
    have c2b1 : decide ((fmulOk a0 4616189618054758400) = true) = true := decide_eq_true c2
    clear c2
    replace H := Option.bind_eq_some_iff.mp H
    obtain ⟨t180, A30, H⟩ := H
    replace H : (some (feq (fmul a0 4616189618054758400) t180)) = some r := H
    have A3 := Aside0.mk A30
    clear A30
    obtain rfl := Option.some.inj H
    go_enter Try.func47, Try.ntmps47
    go_wp2_with (first | ((with_reducible refine gate_callee (f := 48) rfl ?_); refine goesL_ (some 8) rfl rfl Try.func48 (by kernel_rfl) rfl #[.float .f64 (fmul a0 4616189618054758400)] rfl (by (try simp only [List.map_toArray, List.map_cons, List.map_nil]); first | done | rfl | (simp only [List.length_drop, List.length_take]; rfl)) ?_; (with_reducible refine (math_Trunc.calls (fmul a0 4616189618054758400) t180 _ A3.out).mono ?_); rintro e w' ⟨rfl, ⟨nd, rfl⟩⟩; refine ⟨_, rfl, ?_⟩))
    go_ret
    exact ⟨by first | rfl | (simp; done) | (simp [*]; done), by repeat (first | exact Drawn0.refl _ | apply Drawn0.step)⟩
  · rw [if_neg c2] at H
    exact absurd H (by simp)

/-! ### metric_within: function 39 -/
def metric_within.f (a0 : Nat) (a1 : Nat) : Option (Int) := (math_IsNaN.f a0).bind fun t181 => (if t181 = true then (some 10) else ((math_IsInf.f a0 0).bind fun t182 => (if t182 = true then (some 11) else ((math_Signbit.f a0).bind fun t183 => (if t183 = true then (some 12) else (if (flt a0 4607182418800017408) = true then (some 13) else (if (flt a1 a0) = true then (some 14) else ((metric_quarter.f a0).bind fun t184 => (if t184 = true then (some 0) else (some 15))))))))))
set_option maxHeartbeats 2500000 in
set_option maxRecDepth 100000 in
theorem metric_within.calls (a0 : Nat) (a1 : Nat) (r : Int) (w : World) (h : metric_within.f a0 a1 = some r) :
    Calls Try.prog 39 #[.float .f64 a0, .float .f64 a1] w fun e w' => e = .returned (.int .i64 r) ∧ Drawn0 w w' := by
  have H : ((math_IsNaN.f a0).bind fun t181 => (if t181 = true then (some 10) else ((math_IsInf.f a0 0).bind fun t182 => (if t182 = true then (some 11) else ((math_Signbit.f a0).bind fun t183 => (if t183 = true then (some 12) else (if (flt a0 4607182418800017408) = true then (some 13) else (if (flt a1 a0) = true then (some 14) else ((metric_quarter.f a0).bind fun t184 => (if t184 = true then (some 0) else (some 15))))))))))) = some r := h
  clear h
  replace H := Option.bind_eq_some_iff.mp H
  obtain ⟨t181, A30, H⟩ := H
  replace H : (if t181 = true then (some 10) else ((math_IsInf.f a0 0).bind fun t182 => (if t182 = true then (some 11) else ((math_Signbit.f a0).bind fun t183 => (if t183 = true then (some 12) else (if (flt a0 4607182418800017408) = true then (some 13) else (if (flt a1 a0) = true then (some 14) else ((metric_quarter.f a0).bind fun t184 => (if t184 = true then (some 0) else (some 15)))))))))) = some r := H
  have A3 := Aside0.mk A30
  clear A30
  by_cases c4 : t181 = true
  · subst c4
    have H1 : (some 10) = some r := by rw [if_pos rfl] at H; exact H
    clear H
    have H := H1
    clear H1
    obtain rfl := Option.some.inj H
    go_enter Try.func39, Try.ntmps39
    go_wp2_with (first | ((with_reducible refine gate_callee (f := 37) rfl ?_); refine goesL_ (some 7) rfl rfl Try.func37 (by kernel_rfl) rfl #[.float .f64 a0] rfl (by (try simp only [List.map_toArray, List.map_cons, List.map_nil]); first | done | rfl | (simp only [List.length_drop, List.length_take]; rfl)) ?_; (with_reducible refine (math_IsNaN.calls a0 true _ A3.out).mono ?_); rintro e w' ⟨rfl, ⟨nd, rfl⟩⟩; refine ⟨_, rfl, ?_⟩))
    go_ret
    exact ⟨by first | rfl | (simp; done) | (simp [*]; done), by repeat (first | exact Drawn0.refl _ | apply Drawn0.step)⟩
  · replace c4 := Bool.eq_false_iff.mpr c4
    subst c4
    have H1 : ((math_IsInf.f a0 0).bind fun t182 => (if t182 = true then (some 11) else ((math_Signbit.f a0).bind fun t183 => (if t183 = true then (some 12) else (if (flt a0 4607182418800017408) = true then (some 13) else (if (flt a1 a0) = true then (some 14) else ((metric_quarter.f a0).bind fun t184 => (if t184 = true then (some 0) else (some 15))))))))) = some r := by rw [if_neg (show ¬ (false = true) by decide)] at H; exact H
    clear H
    have H := H1
    clear H1
    replace H := Option.bind_eq_some_iff.mp H
    obtain ⟨t182, A50, H⟩ := H
    replace H : (if t182 = true then (some 11) else ((math_Signbit.f a0).bind fun t183 => (if t183 = true then (some 12) else (if (flt a0 4607182418800017408) = true then (some 13) else (if (flt a1 a0) = true then (some 14) else ((metric_quarter.f a0).bind fun t184 => (if t184 = true then (some 0) else (some 15)))))))) = some r := H
    have A5 := Aside0.mk A50
    clear A50
    by_cases c6 : t182 = true
    · subst c6
      have H1 : (some 11) = some r := by rw [if_pos rfl] at H; exact H
      clear H
      have H := H1
      clear H1
      obtain rfl := Option.some.inj H
      go_enter Try.func39, Try.ntmps39
      go_wp2_with (first | ((with_reducible refine gate_callee (f := 37) rfl ?_); refine goesL_ (some 7) rfl rfl Try.func37 (by kernel_rfl) rfl #[.float .f64 a0] rfl (by (try simp only [List.map_toArray, List.map_cons, List.map_nil]); first | done | rfl | (simp only [List.length_drop, List.length_take]; rfl)) ?_; (with_reducible refine (math_IsNaN.calls a0 false _ A3.out).mono ?_); rintro e w' ⟨rfl, ⟨nd, rfl⟩⟩; refine ⟨_, rfl, ?_⟩) | ((with_reducible refine gate_callee (f := 38) rfl ?_); refine goesL_ (some 10) rfl rfl Try.func38 (by kernel_rfl) rfl #[.float .f64 a0, .int .i64 0] rfl (by (try simp only [List.map_toArray, List.map_cons, List.map_nil]); first | done | rfl | (simp only [List.length_drop, List.length_take]; rfl)) ?_; (with_reducible refine (math_IsInf.calls a0 0 true _ A5.out).mono ?_); rintro e w' ⟨rfl, ⟨nd, rfl⟩⟩; refine ⟨_, rfl, ?_⟩))
      go_ret
      exact ⟨by first | rfl | (simp; done) | (simp [*]; done), by repeat (first | exact Drawn0.refl _ | apply Drawn0.step)⟩
    · replace c6 := Bool.eq_false_iff.mpr c6
      subst c6
      have H1 : ((math_Signbit.f a0).bind fun t183 => (if t183 = true then (some 12) else (if (flt a0 4607182418800017408) = true then (some 13) else (if (flt a1 a0) = true then (some 14) else ((metric_quarter.f a0).bind fun t184 => (if t184 = true then (some 0) else (some 15))))))) = some r := by rw [if_neg (show ¬ (false = true) by decide)] at H; exact H
      clear H
      have H := H1
      clear H1
      replace H := Option.bind_eq_some_iff.mp H
      obtain ⟨t183, A70, H⟩ := H
      replace H : (if t183 = true then (some 12) else (if (flt a0 4607182418800017408) = true then (some 13) else (if (flt a1 a0) = true then (some 14) else ((metric_quarter.f a0).bind fun t184 => (if t184 = true then (some 0) else (some 15)))))) = some r := H
      have A7 := Aside0.mk A70
      clear A70
      by_cases c8 : t183 = true
      · subst c8
        have H1 : (some 12) = some r := by rw [if_pos rfl] at H; exact H
        clear H
        have H := H1
        clear H1
        obtain rfl := Option.some.inj H
        go_enter Try.func39, Try.ntmps39
        go_wp2_with (first | ((with_reducible refine gate_callee (f := 37) rfl ?_); refine goesL_ (some 7) rfl rfl Try.func37 (by kernel_rfl) rfl #[.float .f64 a0] rfl (by (try simp only [List.map_toArray, List.map_cons, List.map_nil]); first | done | rfl | (simp only [List.length_drop, List.length_take]; rfl)) ?_; (with_reducible refine (math_IsNaN.calls a0 false _ A3.out).mono ?_); rintro e w' ⟨rfl, ⟨nd, rfl⟩⟩; refine ⟨_, rfl, ?_⟩) | ((with_reducible refine gate_callee (f := 38) rfl ?_); refine goesL_ (some 10) rfl rfl Try.func38 (by kernel_rfl) rfl #[.float .f64 a0, .int .i64 0] rfl (by (try simp only [List.map_toArray, List.map_cons, List.map_nil]); first | done | rfl | (simp only [List.length_drop, List.length_take]; rfl)) ?_; (with_reducible refine (math_IsInf.calls a0 0 false _ A5.out).mono ?_); rintro e w' ⟨rfl, ⟨nd, rfl⟩⟩; refine ⟨_, rfl, ?_⟩) | ((with_reducible refine gate_callee (f := 28) rfl ?_); refine goesL_ (some 13) rfl rfl Try.func28 (by kernel_rfl) rfl #[.float .f64 a0] rfl (by (try simp only [List.map_toArray, List.map_cons, List.map_nil]); first | done | rfl | (simp only [List.length_drop, List.length_take]; rfl)) ?_; (with_reducible refine (math_Signbit.calls a0 true _ A7.out).mono ?_); rintro e w' ⟨rfl, ⟨nd, rfl⟩⟩; refine ⟨_, rfl, ?_⟩))
        go_ret
        exact ⟨by first | rfl | (simp; done) | (simp [*]; done), by repeat (first | exact Drawn0.refl _ | apply Drawn0.step)⟩
      · replace c8 := Bool.eq_false_iff.mpr c8
        subst c8
        have H1 : (if (flt a0 4607182418800017408) = true then (some 13) else (if (flt a1 a0) = true then (some 14) else ((metric_quarter.f a0).bind fun t184 => (if t184 = true then (some 0) else (some 15))))) = some r := by rw [if_neg (show ¬ (false = true) by decide)] at H; exact H
        clear H
        have H := H1
        clear H1
        by_cases c9 : (flt a0 4607182418800017408) = true
        · rw [if_pos c9] at H
          have c9b0 : (flt a0 4607182418800017408) = true := c9
          clear c9
          obtain rfl := Option.some.inj H
          go_enter Try.func39, Try.ntmps39
          go_wp2_with (first | ((with_reducible refine gate_callee (f := 37) rfl ?_); refine goesL_ (some 7) rfl rfl Try.func37 (by kernel_rfl) rfl #[.float .f64 a0] rfl (by (try simp only [List.map_toArray, List.map_cons, List.map_nil]); first | done | rfl | (simp only [List.length_drop, List.length_take]; rfl)) ?_; (with_reducible refine (math_IsNaN.calls a0 false _ A3.out).mono ?_); rintro e w' ⟨rfl, ⟨nd, rfl⟩⟩; refine ⟨_, rfl, ?_⟩) | ((with_reducible refine gate_callee (f := 38) rfl ?_); refine goesL_ (some 10) rfl rfl Try.func38 (by kernel_rfl) rfl #[.float .f64 a0, .int .i64 0] rfl (by (try simp only [List.map_toArray, List.map_cons, List.map_nil]); first | done | rfl | (simp only [List.length_drop, List.length_take]; rfl)) ?_; (with_reducible refine (math_IsInf.calls a0 0 false _ A5.out).mono ?_); rintro e w' ⟨rfl, ⟨nd, rfl⟩⟩; refine ⟨_, rfl, ?_⟩) | ((with_reducible refine gate_callee (f := 28) rfl ?_); refine goesL_ (some 13) rfl rfl Try.func28 (by kernel_rfl) rfl #[.float .f64 a0] rfl (by (try simp only [List.map_toArray, List.map_cons, List.map_nil]); first | done | rfl | (simp only [List.length_drop, List.length_take]; rfl)) ?_; (with_reducible refine (math_Signbit.calls a0 false _ A7.out).mono ?_); rintro e w' ⟨rfl, ⟨nd, rfl⟩⟩; refine ⟨_, rfl, ?_⟩))
          go_ret
          exact ⟨by first | rfl | (simp; done) | (simp [*]; done), by repeat (first | exact Drawn0.refl _ | apply Drawn0.step)⟩
        · rw [if_neg c9] at H
          have c9b0 : (flt a0 4607182418800017408) = false := by simpa using c9
          clear c9
          by_cases c10 : (flt a1 a0) = true
          · rw [if_pos c10] at H
            have c10b0 : (flt a1 a0) = true := c10
            clear c10
            obtain rfl := Option.some.inj H
            go_enter Try.func39, Try.ntmps39
            go_wp2_with (first | ((with_reducible refine gate_callee (f := 37) rfl ?_); refine goesL_ (some 7) rfl rfl Try.func37 (by kernel_rfl) rfl #[.float .f64 a0] rfl (by (try simp only [List.map_toArray, List.map_cons, List.map_nil]); first | done | rfl | (simp only [List.length_drop, List.length_take]; rfl)) ?_; (with_reducible refine (math_IsNaN.calls a0 false _ A3.out).mono ?_); rintro e w' ⟨rfl, ⟨nd, rfl⟩⟩; refine ⟨_, rfl, ?_⟩) | ((with_reducible refine gate_callee (f := 38) rfl ?_); refine goesL_ (some 10) rfl rfl Try.func38 (by kernel_rfl) rfl #[.float .f64 a0, .int .i64 0] rfl (by (try simp only [List.map_toArray, List.map_cons, List.map_nil]); first | done | rfl | (simp only [List.length_drop, List.length_take]; rfl)) ?_; (with_reducible refine (math_IsInf.calls a0 0 false _ A5.out).mono ?_); rintro e w' ⟨rfl, ⟨nd, rfl⟩⟩; refine ⟨_, rfl, ?_⟩) | ((with_reducible refine gate_callee (f := 28) rfl ?_); refine goesL_ (some 13) rfl rfl Try.func28 (by kernel_rfl) rfl #[.float .f64 a0] rfl (by (try simp only [List.map_toArray, List.map_cons, List.map_nil]); first | done | rfl | (simp only [List.length_drop, List.length_take]; rfl)) ?_; (with_reducible refine (math_Signbit.calls a0 false _ A7.out).mono ?_); rintro e w' ⟨rfl, ⟨nd, rfl⟩⟩; refine ⟨_, rfl, ?_⟩))
            go_ret
            exact ⟨by first | rfl | (simp; done) | (simp [*]; done), by repeat (first | exact Drawn0.refl _ | apply Drawn0.step)⟩
          · rw [if_neg c10] at H
            have c10b0 : (flt a1 a0) = false := by simpa using c10
            clear c10
            replace H := Option.bind_eq_some_iff.mp H
            obtain ⟨t184, A110, H⟩ := H
            replace H : (if t184 = true then (some 0) else (some 15)) = some r := H
            have A11 := Aside0.mk A110
            clear A110
            by_cases c12 : t184 = true
            · subst c12
              have H1 : (some 0) = some r := by rw [if_pos rfl] at H; exact H
              clear H
              have H := H1
              clear H1
              obtain rfl := Option.some.inj H
              go_enter Try.func39, Try.ntmps39
              go_wp2_with (first | ((with_reducible refine gate_callee (f := 37) rfl ?_); refine goesL_ (some 7) rfl rfl Try.func37 (by kernel_rfl) rfl #[.float .f64 a0] rfl (by (try simp only [List.map_toArray, List.map_cons, List.map_nil]); first | done | rfl | (simp only [List.length_drop, List.length_take]; rfl)) ?_; (with_reducible refine (math_IsNaN.calls a0 false _ A3.out).mono ?_); rintro e w' ⟨rfl, ⟨nd, rfl⟩⟩; refine ⟨_, rfl, ?_⟩) | ((with_reducible refine gate_callee (f := 38) rfl ?_); refine goesL_ (some 10) rfl rfl Try.func38 (by kernel_rfl) rfl #[.float .f64 a0, .int .i64 0] rfl (by (try simp only [List.map_toArray, List.map_cons, List.map_nil]); first | done | rfl | (simp only [List.length_drop, List.length_take]; rfl)) ?_; (with_reducible refine (math_IsInf.calls a0 0 false _ A5.out).mono ?_); rintro e w' ⟨rfl, ⟨nd, rfl⟩⟩; refine ⟨_, rfl, ?_⟩) | ((with_reducible refine gate_callee (f := 28) rfl ?_); refine goesL_ (some 13) rfl rfl Try.func28 (by kernel_rfl) rfl #[.float .f64 a0] rfl (by (try simp only [List.map_toArray, List.map_cons, List.map_nil]); first | done | rfl | (simp only [List.length_drop, List.length_take]; rfl)) ?_; (with_reducible refine (math_Signbit.calls a0 false _ A7.out).mono ?_); rintro e w' ⟨rfl, ⟨nd, rfl⟩⟩; refine ⟨_, rfl, ?_⟩) | ((with_reducible refine gate_callee (f := 47) rfl ?_); refine goesL_ (some 23) rfl rfl Try.func47 (by kernel_rfl) rfl #[.float .f64 a0] rfl (by (try simp only [List.map_toArray, List.map_cons, List.map_nil]); first | done | rfl | (simp only [List.length_drop, List.length_take]; rfl)) ?_; (with_reducible refine (metric_quarter.calls a0 true _ A11.out).mono ?_); rintro e w' ⟨rfl, ⟨nd, rfl⟩⟩; refine ⟨_, rfl, ?_⟩))
              go_ret
              exact ⟨by first | rfl | (simp; done) | (simp [*]; done), by repeat (first | exact Drawn0.refl _ | apply Drawn0.step)⟩
            · replace c12 := Bool.eq_false_iff.mpr c12
              subst c12
              have H1 : (some 15) = some r := by rw [if_neg (show ¬ (false = true) by decide)] at H; exact H
              clear H
              have H := H1
              clear H1
              obtain rfl := Option.some.inj H
              go_enter Try.func39, Try.ntmps39
              go_wp2_with (first | ((with_reducible refine gate_callee (f := 37) rfl ?_); refine goesL_ (some 7) rfl rfl Try.func37 (by kernel_rfl) rfl #[.float .f64 a0] rfl (by (try simp only [List.map_toArray, List.map_cons, List.map_nil]); first | done | rfl | (simp only [List.length_drop, List.length_take]; rfl)) ?_; (with_reducible refine (math_IsNaN.calls a0 false _ A3.out).mono ?_); rintro e w' ⟨rfl, ⟨nd, rfl⟩⟩; refine ⟨_, rfl, ?_⟩) | ((with_reducible refine gate_callee (f := 38) rfl ?_); refine goesL_ (some 10) rfl rfl Try.func38 (by kernel_rfl) rfl #[.float .f64 a0, .int .i64 0] rfl (by (try simp only [List.map_toArray, List.map_cons, List.map_nil]); first | done | rfl | (simp only [List.length_drop, List.length_take]; rfl)) ?_; (with_reducible refine (math_IsInf.calls a0 0 false _ A5.out).mono ?_); rintro e w' ⟨rfl, ⟨nd, rfl⟩⟩; refine ⟨_, rfl, ?_⟩) | ((with_reducible refine gate_callee (f := 28) rfl ?_); refine goesL_ (some 13) rfl rfl Try.func28 (by kernel_rfl) rfl #[.float .f64 a0] rfl (by (try simp only [List.map_toArray, List.map_cons, List.map_nil]); first | done | rfl | (simp only [List.length_drop, List.length_take]; rfl)) ?_; (with_reducible refine (math_Signbit.calls a0 false _ A7.out).mono ?_); rintro e w' ⟨rfl, ⟨nd, rfl⟩⟩; refine ⟨_, rfl, ?_⟩) | ((with_reducible refine gate_callee (f := 47) rfl ?_); refine goesL_ (some 23) rfl rfl Try.func47 (by kernel_rfl) rfl #[.float .f64 a0] rfl (by (try simp only [List.map_toArray, List.map_cons, List.map_nil]); first | done | rfl | (simp only [List.length_drop, List.length_take]; rfl)) ?_; (with_reducible refine (metric_quarter.calls a0 false _ A11.out).mono ?_); rintro e w' ⟨rfl, ⟨nd, rfl⟩⟩; refine ⟨_, rfl, ?_⟩))
              go_ret
              exact ⟨by first | rfl | (simp; done) | (simp [*]; done), by repeat (first | exact Drawn0.refl _ | apply Drawn0.step)⟩

/-! ### metric_Weight: function 31 -/
def metric_Weight.f (a0 : Nat) : Option (Int) := (metric_within.f a0 4697254411347427328).bind fun t185 => (some t185)
set_option maxHeartbeats 2500000 in
set_option maxRecDepth 100000 in
theorem metric_Weight.calls (a0 : Nat) (r : Int) (w : World) (h : metric_Weight.f a0 = some r) :
    Calls Try.prog 31 #[.float .f64 a0] w fun e w' => e = .returned (.int .i64 r) ∧ Drawn0 w w' := by
  have H : ((metric_within.f a0 4697254411347427328).bind fun t185 => (some t185)) = some r := h
  clear h
  replace H := Option.bind_eq_some_iff.mp H
  obtain ⟨t185, A20, H⟩ := H
  replace H : (some t185) = some r := H
  have A2 := Aside0.mk A20
  clear A20
  obtain rfl := Option.some.inj H
  go_enter Try.func31, Try.ntmps31
  go_wp2_with (first | ((with_reducible refine gate_callee (f := 39) rfl ?_); refine goesL_ (some 4) rfl rfl Try.func39 (by kernel_rfl) rfl #[.float .f64 a0, .float .f64 4697254411347427328] rfl (by (try simp only [List.map_toArray, List.map_cons, List.map_nil]); first | done | rfl | (simp only [List.length_drop, List.length_take]; rfl)) ?_; (with_reducible refine (metric_within.calls a0 4697254411347427328 t185 _ A2.out).mono ?_); rintro e w' ⟨rfl, ⟨nd, rfl⟩⟩; refine ⟨_, rfl, ?_⟩))
  go_ret
  exact ⟨by first | rfl | (simp; done) | (simp [*]; done), by repeat (first | exact Drawn0.refl _ | apply Drawn0.step)⟩

/-! ### gauge_Hold: function 15 -/
def gauge_Hold.j0 : Nat → Nat → Nat → Bool → Option (Nat × Int)
  | 0, _, _, _ => none
  | k + 1, x0, x1, x13 => if x13 = true then (some (0, 1)) else (if (fsubOk x1 x0) = true then ((math_Abs.f (fsub x1 x0)).bind fun t188 => (if (fmulOk t188 4620693217682128896) = true then (if (fle (fmul t188 4620693217682128896) x0) = true then (some (x0, 0)) else (some (x1, 0))) else (none))) else (none))
def gauge_Hold.f (k : Nat) (a0 : Nat) (a1 : Nat) : Option (Nat × Int) := (metric_Weight.f a0).bind fun t186 => (if t186 = 0 then ((metric_Weight.f a1).bind fun t187 => (gauge_Hold.j0 k a0 a1 (t187 != 0))) else (gauge_Hold.j0 k a0 a1 true))
theorem gauge_Hold.mono_l : ∀ k, (∀ y0 y1 y2, LeO (gauge_Hold.j0 k y0 y1 y2) (gauge_Hold.j0 (k + 1) y0 y1 y2))
  | 0 => fun _ _ _ r h => by simp [gauge_Hold.j0] at h
  | k + 1 => by
    have ih0 := gauge_Hold.mono_l k
    · intro y0 y1 y2
      unfold gauge_Hold.j0
      repeat' first
      | (with_reducible exact ih0 _ _ _)
      | (with_reducible exact LeO.refl _)
      | (with_reducible exact LeO.none _)
      | (with_reducible refine LeO.ite ?_ ?_)
      | (with_reducible refine LeO.bind ?_ (fun _ => ?_))
      | exact ih0 _ _ _
      | exact LeO.none _
      | refine LeO.ite ?_ ?_
      | refine LeO.bind ?_ (fun _ => ?_)
theorem gauge_Hold.mono : ∀ a0 a1 k, LeO (gauge_Hold.f k a0 a1) (gauge_Hold.f (k + 1) a0 a1) := by
  intro a0 a1 k
  have ih0 := gauge_Hold.mono_l k
  unfold gauge_Hold.f
  repeat' first
      | (with_reducible exact ih0 _ _ _)
      | (with_reducible exact LeO.refl _)
      | (with_reducible exact LeO.none _)
      | (with_reducible refine LeO.ite ?_ ?_)
      | (with_reducible refine LeO.bind ?_ (fun _ => ?_))
      | exact ih0 _ _ _
      | exact LeO.none _
      | refine LeO.ite ?_ ?_
      | refine LeO.bind ?_ (fun _ => ?_)
set_option maxHeartbeats 2500000 in
set_option maxRecDepth 100000 in
theorem gauge_Hold.calls (k : Nat) (a0 : Nat) (a1 : Nat) (r1 : Nat) (r2 : Int) (w : World) (h : gauge_Hold.f k a0 a1 = some (r1, r2)) :
    Calls Try.prog 15 #[.float .f64 a0, .float .f64 a1] w fun e w' => e = .returned (.tuple #[.float .f64 r1, .int .i64 r2]) ∧ Drawn0 w w' := by
  have H : ((metric_Weight.f a0).bind fun t186 => (if t186 = 0 then ((metric_Weight.f a1).bind fun t187 => (gauge_Hold.j0 k a0 a1 (t187 != 0))) else (gauge_Hold.j0 k a0 a1 true))) = some (r1, r2) := h
  clear h
  have HC3 := Aside0.mk H
  clear H
  go_enter Try.func15, Try.ntmps15
  go_upto_region 1 with (fail)
  go_cut [13] (fun v13 wc => ∃ (kq : Nat) (x13_2 : Bool), v13 = .bool x13_2 ∧ Aside0 (gauge_Hold.j0 kq a0 a1 x13_2 = some (r1, r2)) ∧ Aside0 (kq ≤ k) ∧ Drawn0 w wc)
  case first =>
    have H := HC3.out
    clear HC3
    replace H := Option.bind_eq_some_iff.mp H
    obtain ⟨t186, A40, H⟩ := H
    replace H : (if t186 = 0 then ((metric_Weight.f a1).bind fun t187 => (gauge_Hold.j0 k a0 a1 (t187 != 0))) else (gauge_Hold.j0 k a0 a1 true)) = some (r1, r2) := H
    have A4 := Aside0.mk A40
    clear A40
    by_cases c5 : t186 = 0
    · rw [if_pos c5] at H
      have c5b0 : (t186 == 0) = true := beq_iff_eq.mpr c5
      have c5b1 : (t186 != 0) = false := bne_eq_false_iff_eq.mpr c5
      clear c5
      (first | rw [c5b0] | (simp only [i64_w, i32_w]; rw [c5b0]) | skip)
      replace H := Option.bind_eq_some_iff.mp H
      obtain ⟨t187, A60, H⟩ := H
      replace H : (gauge_Hold.j0 k a0 a1 (t187 != 0)) = some (r1, r2) := H
      have A6 := Aside0.mk A60
      clear A60
      have H' := Aside0.mk H
      clear H
      go_wp2_with (first | ((with_reducible refine gate_callee (f := 31) rfl ?_); refine goesL_ (some 7) rfl rfl Try.func31 (by kernel_rfl) rfl #[.float .f64 a0] rfl (by (try simp only [List.map_toArray, List.map_cons, List.map_nil]); first | done | rfl | (simp only [List.length_drop, List.length_take]; rfl)) ?_; (with_reducible refine (metric_Weight.calls a0 t186 _ A4.out).mono ?_); rintro e w' ⟨rfl, ⟨nd, rfl⟩⟩; refine ⟨_, rfl, ?_⟩) | (go_at_call 31; (with_reducible refine (metric_Weight.calls a1 t187 _ A6.out).mono ?_); rintro e w' ⟨rfl, ⟨nd, rfl⟩⟩))
      go_meet
      case rel => exact ⟨_, ((t187 != 0)), (by first | rfl | (simp; done) | (simp [*]; done)), H', ⟨by first | omega | exact Nat.le_refl _⟩, by repeat (first | exact Drawn0.refl _ | apply Drawn0.step)⟩
    · rw [if_neg c5] at H
      have c5b0 : (t186 == 0) = false := beq_eq_false_iff_ne.mpr c5
      have c5b1 : (t186 != 0) = true := bne_iff_ne.mpr c5
      (first | rw [c5b0] | (simp only [i64_w, i32_w]; rw [c5b0]) | skip)
      have H' := Aside0.mk H
      clear H
      go_wp2_with (first | ((with_reducible refine gate_callee (f := 31) rfl ?_); refine goesL_ (some 7) rfl rfl Try.func31 (by kernel_rfl) rfl #[.float .f64 a0] rfl (by (try simp only [List.map_toArray, List.map_cons, List.map_nil]); first | done | rfl | (simp only [List.length_drop, List.length_take]; rfl)) ?_; (with_reducible refine (metric_Weight.calls a0 t186 _ A4.out).mono ?_); rintro e w' ⟨rfl, ⟨nd, rfl⟩⟩; refine ⟨_, rfl, ?_⟩))
      go_meet
      case rel => exact ⟨_, (true), (by first | rfl | (simp; done) | (simp [*]; done)), H', ⟨by first | omega | exact Nat.le_refl _⟩, by repeat (first | exact Drawn0.refl _ | apply Drawn0.step)⟩
  case rest =>
    clear HC3
    try clear c1
    try clear p2
    try clear c3
    try clear c5
    try clear c5b0
    try clear c5b1
    obtain ⟨kq, x13_2, rfl, HA, HJ2, ⟨mc2, rfl⟩⟩ := hcut
    cases kq with
    | zero => exact absurd HA.out (by simp [gauge_Hold.j0])
    | succ kj2 =>
      have H := HA.out
      clear HA
      simp only [gauge_Hold.j0] at H
      by_cases c7 : x13_2 = true
      · subst c7
        have H1 : (some (0, 1)) = some (r1, r2) := by rw [if_pos rfl] at H; exact H
        clear H
        have H := H1
        clear H1
        simp only [Option.some.injEq, Prod.mk.injEq] at H
        obtain ⟨rfl, rfl⟩ := H
        go_wp2
        go_ret2
        exact ⟨by first | rfl | (simp; done) | (simp [*]; done), by repeat (first | exact Drawn0.refl _ | apply Drawn0.step)⟩
      · replace c7 := Bool.eq_false_iff.mpr c7
        subst c7
        have H1 : (if (fsubOk a1 a0) = true then ((math_Abs.f (fsub a1 a0)).bind fun t188 => (if (fmulOk t188 4620693217682128896) = true then (if (fle (fmul t188 4620693217682128896) a0) = true then (some (a0, 0)) else (some (a1, 0))) else (none))) else (none)) = some (r1, r2) := by rw [if_neg (show ¬ (false = true) by decide)] at H; exact H
        clear H
        have H := H1
        clear H1
        by_cases c8 : (fsubOk a1 a0) = true
        · rw [if_pos c8] at H
          have c8b0 := eq_true c8
          have c8b1 : decide ((fsubOk a1 a0) = true) = true := decide_eq_true c8
          clear c8
          replace H := Option.bind_eq_some_iff.mp H
          obtain ⟨t188, A90, H⟩ := H
          replace H : (if (fmulOk t188 4620693217682128896) = true then (if (fle (fmul t188 4620693217682128896) a0) = true then (some (a0, 0)) else (some (a1, 0))) else (none)) = some (r1, r2) := H
          have A9 := Aside0.mk A90
          clear A90
          by_cases c10 : (fmulOk t188 4620693217682128896) = true
          · rw [if_pos c10] at H
            have c10b0 := eq_true c10
            have c10b1 : decide ((fmulOk t188 4620693217682128896) = true) = true := decide_eq_true c10
            clear c10
            by_cases c11 : (fle (fmul t188 4620693217682128896) a0) = true
            · rw [if_pos c11] at H
              have c11b0 : (fle (fmul t188 4620693217682128896) a0) = true := c11
              clear c11
              simp only [Option.some.injEq, Prod.mk.injEq] at H
              obtain ⟨rfl, rfl⟩ := H
              go_wp2_with (first | ((with_reducible refine gate_callee (f := 25) rfl ?_); refine goesL_ (some 17) rfl rfl Try.func25 (by kernel_rfl) rfl #[.float .f64 (fsub a1 a0)] rfl (by (try simp only [List.map_toArray, List.map_cons, List.map_nil]); first | done | rfl | (simp only [List.length_drop, List.length_take]; rfl)) ?_; (with_reducible refine (math_Abs.calls (fsub a1 a0) t188 _ A9.out).mono ?_); rintro e w' ⟨rfl, ⟨nd, rfl⟩⟩; refine ⟨_, rfl, ?_⟩))
              go_ret2
              exact ⟨by first | rfl | (simp; done) | (simp [*]; done), by repeat (first | exact Drawn0.refl _ | apply Drawn0.step)⟩
            · rw [if_neg c11] at H
              have c11b0 : (fle (fmul t188 4620693217682128896) a0) = false := by simpa using c11
              clear c11
              simp only [Option.some.injEq, Prod.mk.injEq] at H
              obtain ⟨rfl, rfl⟩ := H
              go_wp2_with (first | ((with_reducible refine gate_callee (f := 25) rfl ?_); refine goesL_ (some 17) rfl rfl Try.func25 (by kernel_rfl) rfl #[.float .f64 (fsub a1 a0)] rfl (by (try simp only [List.map_toArray, List.map_cons, List.map_nil]); first | done | rfl | (simp only [List.length_drop, List.length_take]; rfl)) ?_; (with_reducible refine (math_Abs.calls (fsub a1 a0) t188 _ A9.out).mono ?_); rintro e w' ⟨rfl, ⟨nd, rfl⟩⟩; refine ⟨_, rfl, ?_⟩))
              go_ret2
              exact ⟨by first | rfl | (simp; done) | (simp [*]; done), by repeat (first | exact Drawn0.refl _ | apply Drawn0.step)⟩
          · rw [if_neg c10] at H
            exact absurd H (by simp)
        · rw [if_neg c8] at H
          exact absurd H (by simp)

/-! ### beaconref01_nan: function 41 -/
def beaconref01_nan.f (a0 : Nat) : Option (Bool) := some (!(feq a0 a0))
set_option maxHeartbeats 2500000 in
set_option maxRecDepth 100000 in
theorem beaconref01_nan.calls (a0 : Nat) (r : Bool) (w : World) (h : beaconref01_nan.f a0 = some r) :
    Calls Try.prog 41 #[.float .f64 a0] w fun e w' => e = .returned (.bool r) ∧ Drawn0 w w' := by
  have H : (some (!(feq a0 a0))) = some r := h
  clear h
  obtain rfl := Option.some.inj H
  go_enter Try.func41, Try.ntmps41
  go_wp2
  go_ret
  exact ⟨by first | rfl | (simp; done) | (simp [*]; done), by repeat (first | exact Drawn0.refl _ | apply Drawn0.step)⟩

/-! ### beaconref01_inf: function 42 -/
def beaconref01_inf.f (a0 : Nat) : Option (Bool) := if (flt 9218868437227405311 a0) = true then (some true) else (some (flt a0 18442240474082181119))
set_option maxHeartbeats 2500000 in
set_option maxRecDepth 100000 in
theorem beaconref01_inf.calls (a0 : Nat) (r : Bool) (w : World) (h : beaconref01_inf.f a0 = some r) :
    Calls Try.prog 42 #[.float .f64 a0] w fun e w' => e = .returned (.bool r) ∧ Drawn0 w w' := by
  have H : (if (flt 9218868437227405311 a0) = true then (some true) else (some (flt a0 18442240474082181119))) = some r := h
  clear h
  by_cases c2 : (flt 9218868437227405311 a0) = true
  · rw [if_pos c2] at H
    have c2b0 : (flt 9218868437227405311 a0) = true := c2
    clear c2
    obtain rfl := Option.some.inj H
    go_enter Try.func42, Try.ntmps42
    go_wp2
    go_ret
    exact ⟨by first | rfl | (simp; done) | (simp [*]; done), by repeat (first | exact Drawn0.refl _ | apply Drawn0.step)⟩
  · rw [if_neg c2] at H
    have c2b0 : (flt 9218868437227405311 a0) = false := by simpa using c2
    clear c2
    obtain rfl := Option.some.inj H
    go_enter Try.func42, Try.ntmps42
    go_wp2
    go_ret
    exact ⟨by first | rfl | (simp; done) | (simp [*]; done), by repeat (first | exact Drawn0.refl _ | apply Drawn0.step)⟩

/-! ### beaconref01_sign: function 43 -/
def beaconref01_sign.f (a0 : Nat) : Option (Bool) := some (((fbits a0) / 9223372036854775808) == 1)
set_option maxHeartbeats 2500000 in
set_option maxRecDepth 100000 in
theorem beaconref01_sign.calls (a0 : Nat) (r : Bool) (w : World) (h : beaconref01_sign.f a0 = some r) :
    Calls Try.prog 43 #[.float .f64 a0] w fun e w' => e = .returned (.bool r) ∧ Drawn0 w w' := by
  have H : (some (((fbits a0) / 9223372036854775808) == 1)) = some r := h
  clear h
  obtain rfl := Option.some.inj H
  go_enter Try.func43, Try.ntmps43
  go_wp2
  go_ret
  exact ⟨by first | rfl | (simp; done) | (simp [*]; done), by repeat (first | exact Drawn0.refl _ | apply Drawn0.step)⟩

/-! ### beaconref01_quarter: function 44 -/
def beaconref01_quarter.f (a0 : Nat) : Option (Bool) := if (fmulOk a0 4616189618054758400) = true then ((math_Trunc.f (fmul a0 4616189618054758400)).bind fun t189 => (some (feq t189 (fmul a0 4616189618054758400)))) else (none)
set_option maxHeartbeats 2500000 in
set_option maxRecDepth 100000 in
theorem beaconref01_quarter.calls (a0 : Nat) (r : Bool) (w : World) (h : beaconref01_quarter.f a0 = some r) :
    Calls Try.prog 44 #[.float .f64 a0] w fun e w' => e = .returned (.bool r) ∧ Drawn0 w w' := by
  have H : (if (fmulOk a0 4616189618054758400) = true then ((math_Trunc.f (fmul a0 4616189618054758400)).bind fun t189 => (some (feq t189 (fmul a0 4616189618054758400)))) else (none)) = some r := h
  clear h
  by_cases c2 : (fmulOk a0 4616189618054758400) = true
  · rw [if_pos c2] at H
    have c2b0 := eq_true c2
    have c2b1 : decide ((fmulOk a0 4616189618054758400) = true) = true := decide_eq_true c2
    clear c2
    replace H := Option.bind_eq_some_iff.mp H
    obtain ⟨t189, A30, H⟩ := H
    replace H : (some (feq t189 (fmul a0 4616189618054758400))) = some r := H
    have A3 := Aside0.mk A30
    clear A30
    obtain rfl := Option.some.inj H
    go_enter Try.func44, Try.ntmps44
    go_wp2_with (first | ((with_reducible refine gate_callee (f := 48) rfl ?_); refine goesL_ (some 5) rfl rfl Try.func48 (by kernel_rfl) rfl #[.float .f64 (fmul a0 4616189618054758400)] rfl (by (try simp only [List.map_toArray, List.map_cons, List.map_nil]); first | done | rfl | (simp only [List.length_drop, List.length_take]; rfl)) ?_; (with_reducible refine (math_Trunc.calls (fmul a0 4616189618054758400) t189 _ A3.out).mono ?_); rintro e w' ⟨rfl, ⟨nd, rfl⟩⟩; refine ⟨_, rfl, ?_⟩))
    go_ret
    exact ⟨by first | rfl | (simp; done) | (simp [*]; done), by repeat (first | exact Drawn0.refl _ | apply Drawn0.step)⟩
  · rw [if_neg c2] at H
    exact absurd H (by simp)

end Go.Proofs.Ytajejidnidomgaa.XG
