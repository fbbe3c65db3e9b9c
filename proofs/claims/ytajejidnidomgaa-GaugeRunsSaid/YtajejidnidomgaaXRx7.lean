/- Go functions of this seat as Lean functions, with proofs that the calls come to them. (Written by xprint.py, a program of this session, over the kit's print.) -/
import Derived.Test.YtajejidnidomgaaXRx0
import Derived.Test.YtajejidnidomgaaXRx4
import Derived.Test.YtajejidnidomgaaXRx5
import Derived.Test.YtajejidnidomgaaXRx6
namespace Go.Proofs.Ytajejidnidomgaa.XR
open Go.RowKit Go.Proofs.YtajejidnidomgaaW.PrintWords Go.Proofs.YtajejidnidomgaaW.PrintLast Go.Proofs.YtajejidnidomgaaW.PrintMore
attribute [local go_sem] max2_int min2_int max_two min_two max_three min_three max_four min_four   -- for this text's walks alone
set_option linter.unusedVariables false
set_option linter.unusedSimpArgs false
open Go.Proofs.YtajejidnidomgaaW.PrintWords renaming blk_drewN → bN, blk_drew → bD, blk_alloc → bA, below_set → bS, blk_frozen → bF, blk_cell → bC, cell_far → cF, blk_far → bZ, blk_below → bB, pw_below_drewN → bwN, below_drew1 → bw1, below_alloc → bwA

/-! ### beaconref05_Run: function 22 -/
def beaconref05_Run.l0 : Nat → List Nat → List Nat → Int → Int → Int → Nat → Nat → Option (List Nat × Int × Nat × Nat × Int)
 | 0, _, _, _, _, _, _, _ => none
 | k + 1, x0, x6, x7, x8, x230000, x230001, x230002 => if x8 < (x0.length : Int) then (if 0 ≤ x8 then ((beaconref05_Feed.f k x230000 x230001 x230002 (rdOf (0 : Nat) x0 x8)).bind fun bt231 => (if bt231.2.2.2 = 0 then ((beaconref05_Cost.f k bt231.1 bt231.2.1 bt231.2.2.1).bind fun bt236 => (if (x6.length : Int) > 0 then (if 0 ≤ (wrap64 ((x6.length : Int) - 1)) then (if (wrap64 ((x6.length : Int) - 1)) < (x6.length : Int) then ((beaconref05_Hold.f k (rdOf (0 : Nat) x6 (wrap64 ((x6.length : Int) - 1))) bt236.1).bind fun bt239 => (if x6.length < 17592186044416 then (beaconref05_Run.l0 k x0 (x6 ++ [bt239.1]) x7 (wrap64 (x8 + 1)) bt231.1 bt231.2.1 bt231.2.2.1) else (none))) else (none)) else (none)) else (if x6.length < 17592186044416 then (beaconref05_Run.l0 k x0 (x6 ++ [bt236.1]) x7 (wrap64 (x8 + 1)) bt231.1 bt231.2.1 bt231.2.2.1) else (none)))) else (beaconref05_Run.l0 k x0 x6 (wrap64 (x7 + 1)) (wrap64 (x8 + 1)) x230000 x230001 x230002))) else (none)) else (some (x6, x230000, x230001, x230002, x7))
def beaconref05_Run.f (k : Nat) (l0 : List Nat) : Option (List Nat × Int × Nat × Nat × Int) := beaconref05_Run.l0 k l0 (([] : List Nat)) 0 0 0 0 0
theorem beaconref05_Run.mono_l : ∀ k, (∀ y0 y1 y2 y3 y4 y5 y6, LeO (beaconref05_Run.l0 k y0 y1 y2 y3 y4 y5 y6) (beaconref05_Run.l0 (k + 1) y0 y1 y2 y3 y4 y5 y6))
 | 0 => fun _ _ _ _ _ _ _ r h => by simp [beaconref05_Run.l0] at h
 | k + 1 => by
  have ih0:=beaconref05_Run.mono_l k
  ·intro y0 y1 y2 y3 y4 y5 y6
   unfold beaconref05_Run.l0
   repeat' first
   | (with_reducible exact ih0 _ _ _ _ _ _ _)
   | (with_reducible exact beaconref05_Cost.mono _ _ _ _)
   | (with_reducible exact beaconref05_Feed.mono _ _ _ _ _)
   | (with_reducible exact beaconref05_Hold.mono _ _ _)
   | (with_reducible exact LeO.refl _)
   | (with_reducible exact LeO.none _)
   | (with_reducible refine LeO.ite ?_ ?_)
   | (with_reducible refine LeO.bind ?_ (fun _ => ?_))
   | exact ih0 _ _ _ _ _ _ _
   | exact beaconref05_Cost.mono _ _ _ _
   | exact beaconref05_Feed.mono _ _ _ _ _
   | exact beaconref05_Hold.mono _ _ _
   | exact LeO.none _
   | refine LeO.ite ?_ ?_
   | refine LeO.bind ?_ (fun _ => ?_)
theorem beaconref05_Run.mono : ∀ a0 k, LeO (beaconref05_Run.f k a0) (beaconref05_Run.f (k + 1) a0) := by
 intro a0 k
 have ih0:=beaconref05_Run.mono_l k
 unfold beaconref05_Run.f
 repeat' first
   | (with_reducible exact ih0 _ _ _ _ _ _ _)
   | (with_reducible exact beaconref05_Cost.mono _ _ _ _)
   | (with_reducible exact beaconref05_Feed.mono _ _ _ _ _)
   | (with_reducible exact beaconref05_Hold.mono _ _ _)
   | (with_reducible exact LeO.refl _)
   | (with_reducible exact LeO.none _)
   | (with_reducible refine LeO.ite ?_ ?_)
   | (with_reducible refine LeO.bind ?_ (fun _ => ?_))
   | exact ih0 _ _ _ _ _ _ _
   | exact beaconref05_Cost.mono _ _ _ _
   | exact beaconref05_Feed.mono _ _ _ _ _
   | exact beaconref05_Hold.mono _ _ _
   | exact LeO.none _
   | refine LeO.ite ?_ ?_
   | refine LeO.bind ?_ (fun _ => ?_)
def beaconref05_Run.T5 : Bool × List (List Nat × List Nat) := (true, [([], []), ([], []), ([], []), ([1, 2], [1, 2]), ([3], [3]), ([0, 4], [0, 4]), ([5], [5]), ([6], [6]), ([6], [6]), ([], []), ([9, 7, 5, 0, 1, 2, 3, 4, 5, 6, 7, 9], [7, 9]), ([8, 10, 0, 1, 2, 3, 4, 5, 6, 7, 8, 9, 10], [8])])
def beaconref05_Run.B5 : List Nat := [0, 0, 0, 6, 14, 31, 63, 127, 127, 0, 767, 2047]
theorem beaconref05_Run.tab5 : rtab .any (opsOf Try.f22 5) = beaconref05_Run.T5 := by kernel_rfl
theorem beaconref05_Run.bits5 : waitsOk beaconref05_Run.T5.2 beaconref05_Run.B5 = true := by kernel_rfl
set_option maxHeartbeats 2500000 in
set_option maxRecDepth 100000 in
theorem beaconref05_Run.calls (k : Nat) (A0 : Option Addr) (c0 : Nat) (l0 : List Nat) (r1 : List Nat) (r2 : Int) (r3 : Nat) (r4 : Nat) (r5 : Int) (w : World) (hr0 : Kd.C Kd.float64 w A0 l0.length l0) (hc0 : l0.length ≤ c0) (h : beaconref05_Run.f k l0 = some (r1, r2, r3, r4, r5)) :
  Calls Try.prog 22 #[.slice A0 l0.length c0] w fun e w' => ∃ v0_ : Value,e = .returned (.tuple #[v0_,.agg #[.int .i64 r2,.float .f64 r3,.float .f64 r4],.int .i64 r5]) ∧ Kd.R Kd.float64 22 w' w.heap.size (fun _ => True) v0_ r1 ∧ Below w.heap.size w w':=by
 have hu24:=Try.underlying24
 have HR0:=Aside0.mk hr0
 have HC0:=Aside0.mk hc0
 clear hr0 hc0
 have HB:=Aside0.mk (Below.refl w.heap.size w)
 have H : (beaconref05_Run.l0 k l0 (([] : List Nat)) 0 0 0 0 0) = some (r1,r2,r3,r4,r5):=h
 clear h
 obtain ⟨y226,hy226⟩ : ∃ y_ : List Nat,y_ = (([] : List Nat)):=⟨_,rfl⟩
 replace H : (beaconref05_Run.l0 k l0 y226 0 0 0 0 0) = some (r1,r2,r3,r4,r5):=by first|(rw [hy226];with_reducible exact H)|(have H2_:=(Option.bind_some _ _).symm.trans H;rw [hy226];with_reducible exact H2_)|(have H2_:=(Option.bind_some _ _).symm.trans H;with_reducible exact H2_)|with_reducible exact H|(rw [hy226];exact H)|exact H
 have Ny226:=Aside0.mk hy226
 clear hy226
 have H':=Aside0.mk H
 clear H
 go_enter Try.func22,Try.ntmps22
 go_wp2_with (first|((with_reducible refine gate_dst (N:=3) rfl ?_);refine box_event ?hg (N:=3) ?hd (cs:=#[.int .i64 0,.float .f64 0,.float .f64 0]) (t:=24) ?hr ?_;(case hd => rfl);(case hg => rfl);(case hr => first|(go_simp;done)|(go_simp;rfl));intro G225 hg w2 hbox hb;have n0_:=Aside0.mk (below_step (by repeat (first|(with_reducible first|exact HB.1|apply bwA|apply bwN|apply bw1)|exact HB.1)) hb);have n1_:=Aside0.mk (hbox);have n2_:=Aside0.mk ((by rw [hg];exact (below_size (by repeat (first|(with_reducible first|exact HB.1|apply bwA|apply bwN|apply bw1)|exact HB.1))) : w.heap.size ≤ G225));have n3_:=Aside0.mk ((by rw [hg];exact (below_size (by repeat (first|(with_reducible first|exact HB.1|apply bwA|apply bwN|apply bw1)|exact HB.1))) : w.heap.size ≤ G225));clear HB;have HB:=n0_;have K225:=n1_;have GW225:=n2_;have GE225:=n3_;clear n0_ n1_ n2_ n3_;clear hb hbox hg)|((with_reducible refine gate_dst (N:=14) rfl ?_);refine Kd.R_lit Kd.float64 _ 22 ?hg (N:=14) ?hd (xs:=([] : List Nat)) (inner:=[]) (ok:=fun _ => True) (okp:=fun _ => True) ?hr ?hp (fun _ hk => hk) trivial (Below.refl _ _) (Nat.le_refl _) (by simp) ?_;(case hd => rfl);(case hg => rfl);(case hr => first|(go_simp;done)|(go_simp;rfl));(case hp => exact (Reps.none _ _));intro v227 w3 ho4 hb hg_ hnew_;clear hg_ hnew_;(first|rw [← Ny226.out] at ho4|(simp only [Int.reduceToNat] at ho4;rw [← Ny226.out] at ho4));have n0_:=Aside0.mk (Kd.R_lower ho4 (below_size (by repeat (first|(with_reducible first|exact HB.1|apply bwA|apply bwN|apply bw1|refine bS ?_ GE225.1)|exact HB.1))));have n1_:=Aside0.mk (bB (g:=G225) (o:=.cells #[.int .i64 0,.float .f64 0,.float .f64 0] 24 (0,0)) (by (with_reducible repeat first|apply bN|apply bD|apply bA);exact K225.1) hb);have n2_:=Aside0.mk (below_step (by repeat (first|(with_reducible first|exact HB.1|apply bwA|apply bwN|apply bw1|refine bS ?_ GE225.1)|exact HB.1)) hb);clear K225;clear HB;have HO228:=n0_;have K225:=n1_;have HB:=n2_;clear n0_ n1_ n2_;clear hb ho4)|((with_reducible refine gate_dst (N:=5) rfl ?_);refine box_event ?hg (N:=5) ?hd (cs:=#[.int .i64 0,.float .f64 0,.float .f64 0]) (t:=24) ?hr ?_;(case hd => rfl);(case hg => rfl);(case hr => first|(go_simp;done)|(go_simp;rfl));intro G229 hg w5 hbox hb;have n0_:=Aside0.mk (Kd.R_below (by (with_reducible repeat (first|apply Kd.R_alloc|apply Kd.R_drewN|apply Kd.R_drew));exact HO228.out) hb);have n1_:=Aside0.mk (bB (g:=G225) (o:=.cells #[.int .i64 0,.float .f64 0,.float .f64 0] 24 (0,0)) (by (with_reducible repeat first|apply bN|apply bD|apply bA);exact K225.1) hb);have n2_:=Aside0.mk (below_step (by repeat (first|(with_reducible first|exact HB.1|apply bwA|apply bwN|apply bw1|refine bS ?_ GE225.1)|exact HB.1)) hb);have n3_:=Aside0.mk (hbox);have n4_:=Aside0.mk ((by rw [hg];exact (below_size (by repeat (first|(with_reducible first|exact HB.1|apply bwA|apply bwN|apply bw1|refine bS ?_ GE225.1)|exact HB.1))) : w.heap.size ≤ G229));have n5_:=Aside0.mk ((by rw [hg];exact (below_size (by repeat (first|(with_reducible first|exact HB.1|apply bwA|apply bwN|apply bw1|refine bS ?_ GE225.1)|exact HB.1))) : w.heap.size ≤ G229));have n6_:=Aside0.mk ((by rw [hg];exact Nat.ne_of_lt (blk_lt (g:=G225) (o:=.cells #[.int .i64 0,.float .f64 0,.float .f64 0] 24 (0,0)) (by (with_reducible repeat first|apply bN|apply bD|apply bA);exact K225.1)) : G225 ≠ G229));have n7_:=Aside0.mk ((by rw [hg];exact Nat.ne_of_gt (blk_lt (g:=G225) (o:=.cells #[.int .i64 0,.float .f64 0,.float .f64 0] 24 (0,0)) (by (with_reducible repeat first|apply bN|apply bD|apply bA);exact K225.1)) : G229 ≠ G225));clear HO228;clear K225;clear HB;have HO228:=n0_;have K225:=n1_;have HB:=n2_;have K229:=n3_;have GW229:=n4_;have GE229:=n5_;have NB225_229:=n6_;have NB229_225:=n7_;clear n0_ n1_ n2_ n3_ n4_ n5_ n6_ n7_;clear hb hbox hg;have hnb6:=NB229_225.1;have hnc6:=NB225_229.1;have hcz7_0 : w5.cell? ⟨G229,0,none⟩ = some (.int .i64 0):=(bC K229.1 0).trans rfl;have hcz7_1 : w5.cell? ⟨G229,1,none⟩ = some (.float .f64 0):=(bC K229.1 1).trans rfl;have hcz7_2 : w5.cell? ⟨G229,2,none⟩ = some (.float .f64 0):=(bC K229.1 2).trans rfl;have hfz7_0:=bF K229.1 0;have hfz7_1:=bF K229.1 1;have hfz7_2:=bF K229.1 2)|((with_reducible refine gate_store (t:=24) (p:=5) rfl ?_);refine store_event (t:=24) (p:=5) (v:=?vo_w8) (w1:=(((w5.setCell ⟨G229,0,none⟩ (.int .i64 0)).setCell ⟨G229,1,none⟩ (.float .f64 0)).setCell ⟨G229,2,none⟩ (.float .f64 0))) ?hg ?ho ?hn ?hr ?_;(case ho => rfl);(case hg => rfl);(case hn => rfl);(case hr => first|(go_simp;done)|(go_simp;rfl));intro w8 hw;have n0_ : Aside0 (Kd.R Kd.float64 22 w8 w.heap.size (fun _ => True) v227 y226):=⟨(by rw [hw];exact (by (with_reducible repeat (first|apply Kd.R_alloc|apply Kd.R_drewN|apply Kd.R_drew));exact Kd.R_mono (Kd.R_far (p:=⟨G229,2,none⟩) (Kd.R_far (p:=⟨G229,1,none⟩) (Kd.R_far (p:=⟨G229,0,none⟩) (Kd.R_types HO228.out K229.1 (by decide)) (fun _ hk => hk.2) (.int .i64 0)) (fun _ hk => hk.2) (.float .f64 0)) (fun _ hk => hk.2) (.float .f64 0)) (fun _ hk => trivial)))⟩;have n1_ : Aside0 (w8.heap[G225]? = some (.cells #[.int .i64 0,.float .f64 0,.float .f64 0] 24 (0,0))):=⟨(by rw [hw];exact (by (with_reducible repeat first|apply bN|apply bD|apply bA);refine bZ ?_ NB225_229.1 _;(with_reducible repeat first|apply bN|apply bD|apply bA);refine bZ ?_ NB225_229.1 _;(with_reducible repeat first|apply bN|apply bD|apply bA);refine bZ ?_ NB225_229.1 _;(with_reducible repeat first|apply bN|apply bD|apply bA);exact K225.1))⟩;have n2_ : Aside0 (w8.heap[G229]? = some (.cells #[.int .i64 0,.float .f64 0,.float .f64 0] 24 (0,0))):=⟨(by rw [hw];exact (by (with_reducible repeat first|apply bN|apply bD|apply bA);refine blk_put (cs:=#[.int .i64 0,.float .f64 0,.float .f64 0]) ?_ 2 _ rfl;(with_reducible repeat first|apply bN|apply bD|apply bA);refine blk_put (cs:=#[.int .i64 0,.float .f64 0,.float .f64 0]) ?_ 1 _ rfl;(with_reducible repeat first|apply bN|apply bD|apply bA);refine blk_put (cs:=#[.int .i64 0,.float .f64 0,.float .f64 0]) ?_ 0 _ rfl;(with_reducible repeat first|apply bN|apply bD|apply bA);exact K229.1))⟩;have n3_ : Aside0 (Below w.heap.size w w8):=⟨(by rw [hw];exact (by repeat (first|(with_reducible first|exact HB.1|apply bwA|apply bwN|apply bw1|refine bS ?_ GE225.1|refine bS ?_ GE229.1)|exact HB.1)))⟩;clear hw;clear HO228;clear K225;clear K229;clear HB;have HO228:=n0_;have K225:=n1_;have K229:=n2_;have HB:=n3_;clear n0_ n1_ n2_ n3_))
 go_loopg [6,7,8] k (fun kq v6 v7 v8 w' => ∃ (x6_1 : List Nat) (x7_1 : Int) (x8_1 : Int) (x230000_1 : Int) (x230001_1 : Nat) (x230002_1 : Nat),v7 = .int .i64 x7_1 ∧ v8 = .int .i64 x8_1 ∧ Aside0 (beaconref05_Run.l0 kq l0 x6_1 x7_1 x8_1 x230000_1 x230001_1 x230002_1 = some (r1,r2,r3,r4,r5)) ∧ Aside0 (kq ≤ k) ∧ Aside0 (Kd.R Kd.float64 22 w' w.heap.size (fun _ => True) v6 x6_1) ∧ Aside0 (w'.heap[G225]? = some (.cells #[.int .i64 0,.float .f64 0,.float .f64 0] 24 (0,0))) ∧ Aside0 (w'.heap[G229]? = some (.cells #[.int .i64 x230000_1,.float .f64 x230001_1,.float .f64 x230002_1] 24 (0,0))) ∧ Aside0 (Below w.heap.size w w'))
 case atStart => exact ⟨(y226),(0),(0),(0),(0),(0),(by first|rfl|(simp;done)|(simp [*];done)),(by first|rfl|(simp;done)|(simp [*];done)),H',⟨Nat.le_refl _⟩,⟨by (with_reducible repeat (first|apply Kd.R_alloc|apply Kd.R_drewN|apply Kd.R_drew));exact HO228.out⟩,⟨by (with_reducible repeat first|apply bN|apply bD|apply bA);exact K225.1⟩,⟨by (with_reducible repeat first|apply bN|apply bD|apply bA);exact K229.1⟩,⟨by repeat (first|(with_reducible first|exact HB.1|apply bwA|apply bwN|apply bw1|refine bS ?_ GE225.1|refine bS ?_ GE229.1)|exact HB.1)⟩⟩
 case round =>
  clear H'
  try clear c2
  try clear p2
  try clear c6
  try clear hcz7_0
  try clear hcz7_1
  try clear hcz7_2
  try clear hfz7_0
  try clear hfz7_1
  try clear hfz7_2
  obtain ⟨x6_1,x7_1,x8_1,x230000_1,x230001_1,x230002_1,rfl,rfl,HA,HK1,HO_6,K225,K229,HB⟩:=hrel
  cases gk with
  | zero => exact absurd HA.out (by simp [beaconref05_Run.l0])
  | succ k1 =>
   have H:=HA.out
   clear HA
   simp only [beaconref05_Run.l0] at H
   by_cases c9 : x8_1 < (l0.length : Int)
   ·rw [if_pos c9] at H
    have c9b0 : decide (x8_1 < (l0.length : Int)) = true:=decide_eq_true c9
    clear c9
    by_cases c10 : 0 ≤ x8_1
    ·rw [if_pos c10] at H
     have c10b0 : decide (0 ≤ x8_1) = true:=decide_eq_true c10
     clear c10
     replace H:=Option.bind_eq_some_iff.mp H
     obtain ⟨⟨t231,t232,t233,t234⟩,A110,H⟩:=H
     replace H : (if t234 = 0 then ((beaconref05_Cost.f k1 t231 t232 t233).bind fun bt236 => (if (x6_1.length : Int) > 0 then (if 0 ≤ (wrap64 ((x6_1.length : Int) - 1)) then (if (wrap64 ((x6_1.length : Int) - 1)) < (x6_1.length : Int) then ((beaconref05_Hold.f k1 (rdOf (0 : Nat) x6_1 (wrap64 ((x6_1.length : Int) - 1))) bt236.1).bind fun bt239 => (if x6_1.length < 17592186044416 then (beaconref05_Run.l0 k1 l0 (x6_1 ++ [bt239.1]) x7_1 (wrap64 (x8_1 + 1)) t231 t232 t233) else (none))) else (none)) else (none)) else (if x6_1.length < 17592186044416 then (beaconref05_Run.l0 k1 l0 (x6_1 ++ [bt236.1]) x7_1 (wrap64 (x8_1 + 1)) t231 t232 t233) else (none)))) else (beaconref05_Run.l0 k1 l0 x6_1 (wrap64 (x7_1 + 1)) (wrap64 (x8_1 + 1)) x230000_1 x230001_1 x230002_1)) = some (r1,r2,r3,r4,r5):=H
     have A11:=Aside0.mk A110
     clear A110
     by_cases c12 : t234 = 0
     ·rw [if_pos c12] at H
      have c12b0 : (t234 == 0) = true:=beq_iff_eq.mpr c12
      have c12b1 : (t234 != 0) = false:=bne_eq_false_iff_eq.mpr c12
      clear c12
      replace H:=Option.bind_eq_some_iff.mp H
      obtain ⟨⟨t236,t237⟩,A130,H⟩:=H
      replace H : (if (x6_1.length : Int) > 0 then (if 0 ≤ (wrap64 ((x6_1.length : Int) - 1)) then (if (wrap64 ((x6_1.length : Int) - 1)) < (x6_1.length : Int) then ((beaconref05_Hold.f k1 (rdOf (0 : Nat) x6_1 (wrap64 ((x6_1.length : Int) - 1))) t236).bind fun bt239 => (if x6_1.length < 17592186044416 then (beaconref05_Run.l0 k1 l0 (x6_1 ++ [bt239.1]) x7_1 (wrap64 (x8_1 + 1)) t231 t232 t233) else (none))) else (none)) else (none)) else (if x6_1.length < 17592186044416 then (beaconref05_Run.l0 k1 l0 (x6_1 ++ [t236]) x7_1 (wrap64 (x8_1 + 1)) t231 t232 t233) else (none))) = some (r1,r2,r3,r4,r5):=H
      have A13:=Aside0.mk A130
      clear A130
      by_cases c14 : (x6_1.length : Int) > 0
      ·rw [if_pos c14] at H
       have c14b0 : decide (0 < (x6_1.length : Int)) = true:=decide_eq_true c14
       have c14b1 : decide (0 < x6_1.length) = true:=decide_eq_true (by omega)
       clear c14
       obtain ⟨ji15,hji15⟩ : ∃ j_ : Int,(wrap64 ((x6_1.length : Int) - 1)) = j_:=⟨_,rfl⟩
       replace H : (if 0 ≤ (ji15) then (if (ji15) < (x6_1.length : Int) then ((beaconref05_Hold.f k1 (rdOf (0 : Nat) x6_1 (ji15)) t236).bind fun bt239 => (if x6_1.length < 17592186044416 then (beaconref05_Run.l0 k1 l0 (x6_1 ++ [bt239.1]) x7_1 (wrap64 (x8_1 + 1)) t231 t232 t233) else (none))) else (none)) else (none)) = some (r1,r2,r3,r4,r5):=by first|(rw [hji15] at H;exact H)|(simp only [hji15] at H ⊢;exact H)
       (try rw [hji15] at A11)
       (try rw [hji15] at A13)
       have hji15w : (IntKind.i64.wrap ((x6_1.length : Int) - 1)) = ji15:=(i64_w _).trans hji15
       by_cases c16 : 0 ≤ (ji15)
       ·rw [if_pos c16] at H
        have c16b0 : decide (0 ≤ (ji15)) = true:=decide_eq_true c16
        clear c16
        by_cases c17 : (ji15) < (x6_1.length : Int)
        ·rw [if_pos c17] at H
         have c17b0 : decide ((ji15) < (x6_1.length : Int)) = true:=decide_eq_true c17
         clear c17
         replace H:=Option.bind_eq_some_iff.mp H
         obtain ⟨⟨t239,t240⟩,A180,H⟩:=H
         replace H : (if x6_1.length < 17592186044416 then (beaconref05_Run.l0 k1 l0 (x6_1 ++ [t239]) x7_1 (wrap64 (x8_1 + 1)) t231 t232 t233) else (none)) = some (r1,r2,r3,r4,r5):=H
         have A18:=Aside0.mk A180
         clear A180
         by_cases c19 : x6_1.length < 17592186044416
         ·rw [if_pos c19] at H
          have LMc19:=Aside0.mk c19
          clear c19
          obtain ⟨y241,hy241⟩ : ∃ y_ : List Nat,y_ = (x6_1 ++ [t239]):=⟨_,rfl⟩
          replace H : (beaconref05_Run.l0 k1 l0 y241 x7_1 (wrap64 (x8_1 + 1)) t231 t232 t233) = some (r1,r2,r3,r4,r5):=by first|(rw [hy241];with_reducible exact H)|(have H2_:=(Option.bind_some _ _).symm.trans H;rw [hy241];with_reducible exact H2_)|(have H2_:=(Option.bind_some _ _).symm.trans H;with_reducible exact H2_)|with_reducible exact H|(rw [hy241];exact H)|exact H
          have Ny241:=Aside0.mk hy241
          clear hy241
          have H':=Aside0.mk H
          clear H
          try go_wp2
          have n0_:=Aside0.mk (Kd.R_drew HO_6.out)
          have n1_:=Aside0.mk (bD K225.1)
          have n2_:=Aside0.mk (bD K229.1)
          have n3_:=Aside0.mk (bw1 HB.1)
          clear HO_6
          clear K225
          clear K229
          clear HB
          have HO_6:=n0_
          have K225:=n1_
          have K229:=n2_
          have HB:=n3_
          clear n0_ n1_ n2_ n3_
          have p230 : 0 ≤ (x8_1 : Int):=of_decide_eq_true (by first|(with_reducible assumption)|assumption)
          have q230 : x8_1 < (l0.length : Int):=of_decide_eq_true (by first|(with_reducible assumption)|assumption)
          obtain ⟨ad230,e230,hx230_0⟩:=Kd.at_float64 HR0.out x8_1 p230 q230
          have hw230_0:=hx230_0
          cases e230
          replace hx230_0:=(HB.1.cell (World.block_lt_of_cell? w _ hx230_0)).trans hx230_0
          replace p230:=eq_true p230
          replace q230:=eq_true q230
          refine start_ (n:=12) (S:=fun w' => w'.cell? ⟨G229,0,none⟩ = some (.int .i64 x230000_1) ∧ w'.cell? ⟨G229,1,none⟩ = some (.float .f64 x230001_1) ∧ w'.cell? ⟨G229,2,none⟩ = some (.float .f64 x230002_1) ∧ w'.cell? (ad230.add (x8_1).toNat) = some (.float .f64 (rdOf (0 : Nat) l0 x8_1))) (ds:=[]) #[false,false,false,false,false,false,false,false,false,false,false,false] (by kernel_rfl) rfl rfl ⟨(bC K229.1 0).trans rfl,(bC K229.1 1).trans rfl,(bC K229.1 2).trans rfl,((HB.1.cell (World.block_lt_of_cell? w _ hw230_0)).trans hw230_0)⟩ (fun hHeld => ?_);refine with_tabW beaconref05_Run.tab5 beaconref05_Run.bits5 (fun HT_ HW_ => ?_)
          generalize wr.drew = w20 at HO_6 K225 K229 HB hx230_0 hHeld ⊢
          refine pure_ (i:=1) (N:=some 23) (v:=?_) (a':=?_) #[false,true,false,false,false,false,false,false,false,false,false,false] rfl rfl (any_of HT_.out (by kernel_rfl)) (fun _ _ _ h => h) (Or.inl ⟨by rfl,?_⟩) ?_ ?_
          rotate_left
          ·intro w'
           go_simp
           with_reducible rfl
          rotate_left
          ·simp only [Act.put,List.setIfInBounds_toArray,List.set_cons_zero,List.set_cons_succ,i64_w,i32_w]
           rfl
          refine pure_ (i:=2) (N:=some 24) (v:=?_) (a':=?_) #[false,true,true,false,false,false,false,false,false,false,false,false] rfl rfl (any_of HT_.out (by kernel_rfl)) (fun _ _ _ h => h) (Or.inl ⟨by rfl,?_⟩) ?_ ?_
          rotate_left
          ·intro w'
           go_simp
           with_reducible rfl
          rotate_left
          ·simp only [Act.put,List.setIfInBounds_toArray,List.set_cons_zero,List.set_cons_succ,i64_w,i32_w]
           rfl
          refine pure_ (i:=3) (N:=some 25) (v:=?_) (a':=?_) #[false,true,true,true,false,false,false,false,false,false,false,false] rfl rfl (any_of HT_.out (by kernel_rfl)) (fun _ _ _ h => h) (Or.inl ⟨by rfl,?_⟩) ?_ ?_
          rotate_left
          ·intro w'
           go_simp
           with_reducible rfl
          rotate_left
          ·simp only [Act.put,List.setIfInBounds_toArray,List.set_cons_zero,List.set_cons_succ,i64_w,i32_w]
           rfl
          refine take_ (i:=0) (N:=some 22) (v:=?_) (a':=?_) #[true,true,true,true,false,false,false,false,false,false,false,false] rfl rfl (take_ofW HT_.out HW_.out (by kernel_rfl)) (fun _ _ _ h => h) (Or.inl ⟨by rfl,?_⟩) hHeld ?_ ?_
          rotate_left
          ·rintro w' ⟨s0,s1,s2,s3⟩
           go_simp
           with_reducible rfl
          rotate_left
          ·simp only [Act.put,List.setIfInBounds_toArray,List.set_cons_zero,List.set_cons_succ,i64_w,i32_w]
           rfl
          refine take_ (i:=4) (N:=some 26) (v:=?_) (a':=?_) #[true,true,true,true,true,false,false,false,false,false,false,false] rfl rfl (take_ofW HT_.out HW_.out (by kernel_rfl)) (fun _ _ _ h => h) (Or.inl ⟨by rfl,?_⟩) hHeld ?_ ?_
          rotate_left
          ·rintro w' ⟨s0,s1,s2,s3⟩
           go_simp
           with_reducible rfl
          rotate_left
          ·simp only [Act.put,List.setIfInBounds_toArray,List.set_cons_zero,List.set_cons_succ,i64_w,i32_w]
           rfl
          refine join_ (σ:=Nat) 2 #[true,true,true,true,true,true,true,true,true,true,false,false] (fun s_ => [(27,.tuple #[.agg #[.int .i64 t231,.float .f64 t232,.float .f64 t233],.int .i64 t234]),(9,.pointer (some ⟨s_,0,none⟩)),(21,.tuple #[.agg #[.int .i64 t231,.float .f64 t232,.float .f64 t233],.int .i64 t234]),(28,.agg #[.int .i64 t231,.float .f64 t232,.float .f64 t233]),(29,.int .i64 t234)]) (fun s_ w' => (w'.cell? ⟨G229,0,none⟩ = some (.int .i64 x230000_1) ∧ w'.cell? ⟨G229,1,none⟩ = some (.float .f64 x230001_1) ∧ w'.cell? ⟨G229,2,none⟩ = some (.float .f64 x230002_1) ∧ w'.cell? (ad230.add (x8_1).toNat) = some (.float .f64 (rdOf (0 : Nat) l0 x8_1))) ∧ (Kd.R Kd.float64 22 w' w.heap.size (fun _ => True) u6 x6_1) ∧ (w'.heap[G225]? = some (.cells #[.int .i64 0,.float .f64 0,.float .f64 0] 24 (0,0))) ∧ (w'.heap[G229]? = some (.cells #[.int .i64 x230000_1,.float .f64 x230001_1,.float .f64 x230002_1] 24 (0,0))) ∧ (w'.heap[s_]? = some (.cells #[.int .i64 0,.float .f64 0,.float .f64 0] 24 (0,0))) ∧ (w.heap.size ≤ s_) ∧ (w.heap.size ≤ s_) ∧ (G225 ≠ s_) ∧ (s_ ≠ G225) ∧ (G229 ≠ s_) ∧ (s_ ≠ G229) ∧ (Below w.heap.size w w')) ?_ ?_
          rotate_left
          ·intro hCont
           refine two_ (i:=5) (j:=9) (Ni:=some 27) (Nj:=some 9) #[true,true,true,true,true,true,false,false,false,false,false,false] #[true,true,true,true,true,false,false,false,false,true,false,false] rfl rfl rfl rfl (two_of HT_.out (by kernel_rfl)) (by decide) (by decide) (fun K hK => ?_) (fun K hK => ?_)
           ·skip
            refine goes_ Try.func10 (by kernel_rfl) rfl #[.agg #[.int .i64 x230000_1,.float .f64 x230001_1,.float .f64 x230002_1],.float .f64 (rdOf (0 : Nat) l0 x8_1)] (by rfl) rfl rfl (by (try simp only [List.map_toArray,List.map_cons,List.map_nil]);first|done|rfl|(simp only [List.length_drop,List.length_take];rfl)) ?_
            with_reducible refine (beaconref05_Feed.calls k1 x230000_1 x230001_1 x230002_1 (rdOf (0 : Nat) l0 x8_1) t231 t232 t233 t234 _ A11.out).mono ?_
            rintro e w21 ⟨rfl,hb⟩
            refine ⟨_,rfl,?_⟩
            have n0_:=Aside0.mk (Kd.R_below (by (with_reducible repeat (first|apply Kd.R_alloc|apply Kd.R_drewN|apply Kd.R_drew));exact HO_6.out) hb)
            have n1_:=Aside0.mk (bB (g:=G225) (o:=.cells #[.int .i64 0,.float .f64 0,.float .f64 0] 24 (0,0)) (by (with_reducible repeat first|apply bN|apply bD|apply bA);exact K225.1) hb)
            have n2_:=Aside0.mk (bB (g:=G229) (o:=.cells #[.int .i64 x230000_1,.float .f64 x230001_1,.float .f64 x230002_1] 24 (0,0)) (by (with_reducible repeat first|apply bN|apply bD|apply bA);exact K229.1) hb)
            have n3_:=Aside0.mk (below_step (by repeat (first|(with_reducible first|exact HB.1|apply bwA|apply bwN|apply bw1|refine bS ?_ GE225.1|refine bS ?_ GE229.1)|exact HB.1)) hb)
            clear HO_6
            clear K225
            clear K229
            clear HB
            have HO_6:=n0_
            have K225:=n1_
            have K229:=n2_
            have HB:=n3_
            clear n0_ n1_ n2_ n3_
            (try clear hb)
            (try clear hb2)
            (try clear hk)
            (try clear hi)
            refine hK.out _ _ ⟨(bC K229.1 0).trans rfl,(bC K229.1 1).trans rfl,(bC K229.1 2).trans rfl,((HB.1.cell (World.block_lt_of_cell? w _ hw230_0)).trans hw230_0)⟩ (fun hHeld => ?_)
            clear hK K
            refine norm_ (a':=?_) ?_ ?_
            rotate_left
            ·show Act.put _ (some 27) _ = _
             simp only [Act.put,List.setIfInBounds_toArray,List.set_cons_zero,List.set_cons_succ,i64_w,i32_w]
             rfl
            refine pure_ (i:=6) (N:=some 21) (v:=?_) (a':=?_) #[true,true,true,true,true,true,true,false,false,false,false,false] rfl rfl (any_of HT_.out (by kernel_rfl)) (fun _ _ _ h => h) (Or.inl ⟨by rfl,?_⟩) ?_ ?_
            rotate_left
            ·intro w'
             go_simp
             with_reducible rfl
            rotate_left
            ·simp only [Act.put,List.setIfInBounds_toArray,List.set_cons_zero,List.set_cons_succ,i64_w,i32_w]
             rfl
            refine pure_ (i:=7) (N:=some 28) (v:=?_) (a':=?_) #[true,true,true,true,true,true,true,true,false,false,false,false] rfl rfl (any_of HT_.out (by kernel_rfl)) (fun _ _ _ h => h) (Or.inl ⟨by rfl,?_⟩) ?_ ?_
            rotate_left
            ·intro w'
             go_simp
             with_reducible rfl
            rotate_left
            ·simp only [Act.put,List.setIfInBounds_toArray,List.set_cons_zero,List.set_cons_succ,i64_w,i32_w]
             rfl
            refine pure_ (i:=8) (N:=some 29) (v:=?_) (a':=?_) #[true,true,true,true,true,true,true,true,true,false,false,false] rfl rfl (any_of HT_.out (by kernel_rfl)) (fun _ _ _ h => h) (Or.inl ⟨by rfl,?_⟩) ?_ ?_
            rotate_left
            ·intro w'
             go_simp
             with_reducible rfl
            rotate_left
            ·simp only [Act.put,List.setIfInBounds_toArray,List.set_cons_zero,List.set_cons_succ,i64_w,i32_w]
             rfl
            refine one_ (i:=9) (N:=some 9) #[true,true,true,true,true,true,true,true,true,true,false,false] rfl rfl (one_of HT_.out (by kernel_rfl)) (by decide) (fun K hK => ?_)
            refine box_step ?hg (N:=9) ?hd (cs:=#[.int .i64 0,.float .f64 0,.float .f64 0]) (t:=24) ?hr ?_;(case hd => rfl);(case hg => rfl);(case hr => first|(go_simp;done)|(go_simp;rfl))
            intro G235 hg w22 hbox hb
            have n0_:=Aside0.mk (Kd.R_below (by (with_reducible repeat (first|apply Kd.R_alloc|apply Kd.R_drewN|apply Kd.R_drew));exact HO_6.out) hb)
            have n1_:=Aside0.mk (bB (g:=G225) (o:=.cells #[.int .i64 0,.float .f64 0,.float .f64 0] 24 (0,0)) (by (with_reducible repeat first|apply bN|apply bD|apply bA);exact K225.1) hb)
            have n2_:=Aside0.mk (bB (g:=G229) (o:=.cells #[.int .i64 x230000_1,.float .f64 x230001_1,.float .f64 x230002_1] 24 (0,0)) (by (with_reducible repeat first|apply bN|apply bD|apply bA);exact K229.1) hb)
            have n3_:=Aside0.mk (below_step (by repeat (first|(with_reducible first|exact HB.1|apply bwA|apply bwN|apply bw1|refine bS ?_ GE225.1|refine bS ?_ GE229.1)|exact HB.1)) hb)
            have n4_:=Aside0.mk (hbox)
            have n5_:=Aside0.mk ((by rw [hg];exact (below_size (by repeat (first|(with_reducible first|exact HB.1|apply bwA|apply bwN|apply bw1|refine bS ?_ GE225.1|refine bS ?_ GE229.1)|exact HB.1))) : w.heap.size ≤ G235))
            have n6_:=Aside0.mk ((by rw [hg];exact (below_size (by repeat (first|(with_reducible first|exact HB.1|apply bwA|apply bwN|apply bw1|refine bS ?_ GE225.1|refine bS ?_ GE229.1)|exact HB.1))) : w.heap.size ≤ G235))
            have n7_:=Aside0.mk ((by rw [hg];exact Nat.ne_of_lt (blk_lt (g:=G225) (o:=.cells #[.int .i64 0,.float .f64 0,.float .f64 0] 24 (0,0)) (by (with_reducible repeat first|apply bN|apply bD|apply bA);exact K225.1)) : G225 ≠ G235))
            have n8_:=Aside0.mk ((by rw [hg];exact Nat.ne_of_gt (blk_lt (g:=G225) (o:=.cells #[.int .i64 0,.float .f64 0,.float .f64 0] 24 (0,0)) (by (with_reducible repeat first|apply bN|apply bD|apply bA);exact K225.1)) : G235 ≠ G225))
            have n9_:=Aside0.mk ((by rw [hg];exact Nat.ne_of_lt (blk_lt (g:=G229) (o:=.cells #[.int .i64 x230000_1,.float .f64 x230001_1,.float .f64 x230002_1] 24 (0,0)) (by (with_reducible repeat first|apply bN|apply bD|apply bA);exact K229.1)) : G229 ≠ G235))
            have n10_:=Aside0.mk ((by rw [hg];exact Nat.ne_of_gt (blk_lt (g:=G229) (o:=.cells #[.int .i64 x230000_1,.float .f64 x230001_1,.float .f64 x230002_1] 24 (0,0)) (by (with_reducible repeat first|apply bN|apply bD|apply bA);exact K229.1)) : G235 ≠ G229))
            clear HO_6
            clear K225
            clear K229
            clear HB
            have HO_6:=n0_
            have K225:=n1_
            have K229:=n2_
            have HB:=n3_
            have K235:=n4_
            have GW235:=n5_
            have GE235:=n6_
            have NB225_235:=n7_
            have NB235_225:=n8_
            have NB229_235:=n9_
            have NB235_229:=n10_
            clear n0_ n1_ n2_ n3_ n4_ n5_ n6_ n7_ n8_ n9_ n10_
            clear hb hbox hg
            refine hK.out _ _ ⟨(bC K229.1 0).trans rfl,(bC K229.1 1).trans rfl,(bC K229.1 2).trans rfl,((HB.1.cell (World.block_lt_of_cell? w _ hw230_0)).trans hw230_0)⟩ (fun hHeld => ?_)
            clear hK K
            refine norm_ (a':=?_) ?_ ?_
            rotate_left
            ·show Act.put _ (some 9) _ = _
             simp only [Act.put,List.setIfInBounds_toArray,List.set_cons_zero,List.set_cons_succ,i64_w,i32_w]
             rfl
            exact norm_ (by simp only [putAll,Act.put,List.setIfInBounds_toArray,List.set_cons_zero,List.set_cons_succ]) (hCont (G235) _ ⟨hHeld,(by (with_reducible repeat (first|apply Kd.R_alloc|apply Kd.R_drewN|apply Kd.R_drew));exact HO_6.out),(by (with_reducible repeat first|apply bN|apply bD|apply bA);exact K225.1),(by (with_reducible repeat first|apply bN|apply bD|apply bA);exact K229.1),(by (with_reducible repeat first|apply bN|apply bD|apply bA);exact K235.1),GW235.1,GE235.1,NB225_235.1,NB235_225.1,NB229_235.1,NB235_229.1,(by repeat (first|(with_reducible first|exact HB.1|apply bwA|apply bwN|apply bw1|refine bS ?_ GE225.1|refine bS ?_ GE229.1|refine bS ?_ GE235.1)|exact HB.1))⟩)
           ·skip
            refine box_step ?hg (N:=9) ?hd (cs:=#[.int .i64 0,.float .f64 0,.float .f64 0]) (t:=24) ?hr ?_;(case hd => rfl);(case hg => rfl);(case hr => first|(go_simp;done)|(go_simp;rfl))
            intro G235 hg w21 hbox hb
            have n0_:=Aside0.mk (Kd.R_below (by (with_reducible repeat (first|apply Kd.R_alloc|apply Kd.R_drewN|apply Kd.R_drew));exact HO_6.out) hb)
            have n1_:=Aside0.mk (bB (g:=G225) (o:=.cells #[.int .i64 0,.float .f64 0,.float .f64 0] 24 (0,0)) (by (with_reducible repeat first|apply bN|apply bD|apply bA);exact K225.1) hb)
            have n2_:=Aside0.mk (bB (g:=G229) (o:=.cells #[.int .i64 x230000_1,.float .f64 x230001_1,.float .f64 x230002_1] 24 (0,0)) (by (with_reducible repeat first|apply bN|apply bD|apply bA);exact K229.1) hb)
            have n3_:=Aside0.mk (below_step (by repeat (first|(with_reducible first|exact HB.1|apply bwA|apply bwN|apply bw1|refine bS ?_ GE225.1|refine bS ?_ GE229.1)|exact HB.1)) hb)
            have n4_:=Aside0.mk (hbox)
            have n5_:=Aside0.mk ((by rw [hg];exact (below_size (by repeat (first|(with_reducible first|exact HB.1|apply bwA|apply bwN|apply bw1|refine bS ?_ GE225.1|refine bS ?_ GE229.1)|exact HB.1))) : w.heap.size ≤ G235))
            have n6_:=Aside0.mk ((by rw [hg];exact (below_size (by repeat (first|(with_reducible first|exact HB.1|apply bwA|apply bwN|apply bw1|refine bS ?_ GE225.1|refine bS ?_ GE229.1)|exact HB.1))) : w.heap.size ≤ G235))
            have n7_:=Aside0.mk ((by rw [hg];exact Nat.ne_of_lt (blk_lt (g:=G225) (o:=.cells #[.int .i64 0,.float .f64 0,.float .f64 0] 24 (0,0)) (by (with_reducible repeat first|apply bN|apply bD|apply bA);exact K225.1)) : G225 ≠ G235))
            have n8_:=Aside0.mk ((by rw [hg];exact Nat.ne_of_gt (blk_lt (g:=G225) (o:=.cells #[.int .i64 0,.float .f64 0,.float .f64 0] 24 (0,0)) (by (with_reducible repeat first|apply bN|apply bD|apply bA);exact K225.1)) : G235 ≠ G225))
            have n9_:=Aside0.mk ((by rw [hg];exact Nat.ne_of_lt (blk_lt (g:=G229) (o:=.cells #[.int .i64 x230000_1,.float .f64 x230001_1,.float .f64 x230002_1] 24 (0,0)) (by (with_reducible repeat first|apply bN|apply bD|apply bA);exact K229.1)) : G229 ≠ G235))
            have n10_:=Aside0.mk ((by rw [hg];exact Nat.ne_of_gt (blk_lt (g:=G229) (o:=.cells #[.int .i64 x230000_1,.float .f64 x230001_1,.float .f64 x230002_1] 24 (0,0)) (by (with_reducible repeat first|apply bN|apply bD|apply bA);exact K229.1)) : G235 ≠ G229))
            clear HO_6
            clear K225
            clear K229
            clear HB
            have HO_6:=n0_
            have K225:=n1_
            have K229:=n2_
            have HB:=n3_
            have K235:=n4_
            have GW235:=n5_
            have GE235:=n6_
            have NB225_235:=n7_
            have NB235_225:=n8_
            have NB229_235:=n9_
            have NB235_229:=n10_
            clear n0_ n1_ n2_ n3_ n4_ n5_ n6_ n7_ n8_ n9_ n10_
            clear hb hbox hg
            refine hK.out _ _ ⟨(bC K229.1 0).trans rfl,(bC K229.1 1).trans rfl,(bC K229.1 2).trans rfl,((HB.1.cell (World.block_lt_of_cell? w _ hw230_0)).trans hw230_0)⟩ (fun hHeld => ?_)
            clear hK K
            refine norm_ (a':=?_) ?_ ?_
            rotate_left
            ·show Act.put _ (some 9) _ = _
             simp only [Act.put,List.setIfInBounds_toArray,List.set_cons_zero,List.set_cons_succ,i64_w,i32_w]
             rfl
            refine one_ (i:=5) (N:=some 27) #[true,true,true,true,true,true,false,false,false,true,false,false] rfl rfl (one_of HT_.out (by kernel_rfl)) (by decide) (fun K hK => ?_)
            refine goes_ Try.func10 (by kernel_rfl) rfl #[.agg #[.int .i64 x230000_1,.float .f64 x230001_1,.float .f64 x230002_1],.float .f64 (rdOf (0 : Nat) l0 x8_1)] (by rfl) rfl rfl (by (try simp only [List.map_toArray,List.map_cons,List.map_nil]);first|done|rfl|(simp only [List.length_drop,List.length_take];rfl)) ?_
            with_reducible refine (beaconref05_Feed.calls k1 x230000_1 x230001_1 x230002_1 (rdOf (0 : Nat) l0 x8_1) t231 t232 t233 t234 _ A11.out).mono ?_
            rintro e w22 ⟨rfl,hb⟩
            refine ⟨_,rfl,?_⟩
            have n0_:=Aside0.mk (Kd.R_below (by (with_reducible repeat (first|apply Kd.R_alloc|apply Kd.R_drewN|apply Kd.R_drew));exact HO_6.out) hb)
            have n1_:=Aside0.mk (bB (g:=G225) (o:=.cells #[.int .i64 0,.float .f64 0,.float .f64 0] 24 (0,0)) (by (with_reducible repeat first|apply bN|apply bD|apply bA);exact K225.1) hb)
            have n2_:=Aside0.mk (bB (g:=G229) (o:=.cells #[.int .i64 x230000_1,.float .f64 x230001_1,.float .f64 x230002_1] 24 (0,0)) (by (with_reducible repeat first|apply bN|apply bD|apply bA);exact K229.1) hb)
            have n3_:=Aside0.mk (bB (g:=G235) (o:=.cells #[.int .i64 0,.float .f64 0,.float .f64 0] 24 (0,0)) (by (with_reducible repeat first|apply bN|apply bD|apply bA);exact K235.1) hb)
            have n4_:=Aside0.mk (below_step (by repeat (first|(with_reducible first|exact HB.1|apply bwA|apply bwN|apply bw1|refine bS ?_ GE225.1|refine bS ?_ GE229.1|refine bS ?_ GE235.1)|exact HB.1)) hb)
            clear HO_6
            clear K225
            clear K229
            clear K235
            clear HB
            have HO_6:=n0_
            have K225:=n1_
            have K229:=n2_
            have K235:=n3_
            have HB:=n4_
            clear n0_ n1_ n2_ n3_ n4_
            (try clear hb)
            (try clear hb2)
            (try clear hk)
            (try clear hi)
            refine hK.out _ _ ⟨(bC K229.1 0).trans rfl,(bC K229.1 1).trans rfl,(bC K229.1 2).trans rfl,((HB.1.cell (World.block_lt_of_cell? w _ hw230_0)).trans hw230_0)⟩ (fun hHeld => ?_)
            clear hK K
            refine norm_ (a':=?_) ?_ ?_
            rotate_left
            ·show Act.put _ (some 27) _ = _
             simp only [Act.put,List.setIfInBounds_toArray,List.set_cons_zero,List.set_cons_succ,i64_w,i32_w]
             rfl
            refine pure_ (i:=6) (N:=some 21) (v:=?_) (a':=?_) #[true,true,true,true,true,true,true,false,false,true,false,false] rfl rfl (any_of HT_.out (by kernel_rfl)) (fun _ _ _ h => h) (Or.inl ⟨by rfl,?_⟩) ?_ ?_
            rotate_left
            ·intro w'
             go_simp
             with_reducible rfl
            rotate_left
            ·simp only [Act.put,List.setIfInBounds_toArray,List.set_cons_zero,List.set_cons_succ,i64_w,i32_w]
             rfl
            refine pure_ (i:=7) (N:=some 28) (v:=?_) (a':=?_) #[true,true,true,true,true,true,true,true,false,true,false,false] rfl rfl (any_of HT_.out (by kernel_rfl)) (fun _ _ _ h => h) (Or.inl ⟨by rfl,?_⟩) ?_ ?_
            rotate_left
            ·intro w'
             go_simp
             with_reducible rfl
            rotate_left
            ·simp only [Act.put,List.setIfInBounds_toArray,List.set_cons_zero,List.set_cons_succ,i64_w,i32_w]
             rfl
            refine pure_ (i:=8) (N:=some 29) (v:=?_) (a':=?_) #[true,true,true,true,true,true,true,true,true,true,false,false] rfl rfl (any_of HT_.out (by kernel_rfl)) (fun _ _ _ h => h) (Or.inl ⟨by rfl,?_⟩) ?_ ?_
            rotate_left
            ·intro w'
             go_simp
             with_reducible rfl
            rotate_left
            ·simp only [Act.put,List.setIfInBounds_toArray,List.set_cons_zero,List.set_cons_succ,i64_w,i32_w]
             rfl
            exact norm_ (by simp only [putAll,Act.put,List.setIfInBounds_toArray,List.set_cons_zero,List.set_cons_succ]) (hCont (G235) _ ⟨hHeld,(by (with_reducible repeat (first|apply Kd.R_alloc|apply Kd.R_drewN|apply Kd.R_drew));exact HO_6.out),(by (with_reducible repeat first|apply bN|apply bD|apply bA);exact K225.1),(by (with_reducible repeat first|apply bN|apply bD|apply bA);exact K229.1),(by (with_reducible repeat first|apply bN|apply bD|apply bA);exact K235.1),GW235.1,GE235.1,NB225_235.1,NB235_225.1,NB229_235.1,NB235_229.1,(by repeat (first|(with_reducible first|exact HB.1|apply bwA|apply bwN|apply bw1|refine bS ?_ GE225.1|refine bS ?_ GE229.1|refine bS ?_ GE235.1)|exact HB.1))⟩)
          rintro G235 w23 ⟨hS_,h0_,h1_,h2_,h3_,h4_,h5_,h6_,h7_,h8_,h9_,h10_⟩
          have n0_ : Aside0 (Kd.R Kd.float64 22 w23 w.heap.size (fun _ => True) u6 x6_1):=⟨h0_⟩
          have n1_ : Aside0 (w23.heap[G225]? = some (.cells #[.int .i64 0,.float .f64 0,.float .f64 0] 24 (0,0))):=⟨h1_⟩
          have n2_ : Aside0 (w23.heap[G229]? = some (.cells #[.int .i64 x230000_1,.float .f64 x230001_1,.float .f64 x230002_1] 24 (0,0))):=⟨h2_⟩
          have n3_ : Aside0 (w23.heap[G235]? = some (.cells #[.int .i64 0,.float .f64 0,.float .f64 0] 24 (0,0))):=⟨h3_⟩
          have n4_ : Aside0 (w.heap.size ≤ G235):=⟨h4_⟩
          have n5_ : Aside0 (w.heap.size ≤ G235):=⟨h5_⟩
          have n6_ : Aside0 (G225 ≠ G235):=⟨h6_⟩
          have n7_ : Aside0 (G235 ≠ G225):=⟨h7_⟩
          have n8_ : Aside0 (G229 ≠ G235):=⟨h8_⟩
          have n9_ : Aside0 (G235 ≠ G229):=⟨h9_⟩
          have n10_ : Aside0 (Below w.heap.size w w23):=⟨h10_⟩
          clear HO_6
          clear K225
          clear K229
          clear HB
          clear h0_ h1_ h2_ h3_ h4_ h5_ h6_ h7_ h8_ h9_ h10_
          have HO_6:=n0_
          have K225:=n1_
          have K229:=n2_
          have K235:=n3_
          have GW235:=n4_
          have GE235:=n5_
          have NB225_235:=n6_
          have NB235_225:=n7_
          have NB229_235:=n8_
          have NB235_229:=n9_
          have HB:=n10_
          clear n0_ n1_ n2_ n3_ n4_ n5_ n6_ n7_ n8_ n9_ n10_
          have hHeld : w23.cell? ⟨G229,0,none⟩ = some (.int .i64 x230000_1) ∧ w23.cell? ⟨G229,1,none⟩ = some (.float .f64 x230001_1) ∧ w23.cell? ⟨G229,2,none⟩ = some (.float .f64 x230002_1) ∧ w23.cell? (ad230.add (x8_1).toNat) = some (.float .f64 (rdOf (0 : Nat) l0 x8_1)):=hS_
          refine norm_ (a':=?_) ?_ ?_
          rotate_left
          ·simp only [putAll,Act.put,List.setIfInBounds_toArray,List.set_cons_zero,List.set_cons_succ]
           rfl
          refine one_ (i:=10) (N:=none) #[true,true,true,true,true,true,true,true,true,true,true,false] rfl rfl (one_of HT_.out (by kernel_rfl)) (by decide) (fun K hK => ?_)
          have hs24 : w23.cell? ⟨G235,0,none⟩ = some (.int .i64 0):=(bC K235.1 0).trans rfl
          have hfs24:=bF K235.1 0
          have hns24_0:=NB225_235.1
          have hns24_1:=NB229_235.1
          have hms24_0:=NB235_225.1
          have hms24_1:=NB235_229.1
          have hs25 : w23.cell? ⟨G235,1,none⟩ = some (.float .f64 0):=(bC K235.1 1).trans rfl
          have hfs25:=bF K235.1 1
          have hns25_0:=NB225_235.1
          have hns25_1:=NB229_235.1
          have hms25_0:=NB235_225.1
          have hms25_1:=NB235_229.1
          have hs26 : w23.cell? ⟨G235,2,none⟩ = some (.float .f64 0):=(bC K235.1 2).trans rfl
          have hfs26:=bF K235.1 2
          have hns26_0:=NB225_235.1
          have hns26_1:=NB229_235.1
          have hms26_0:=NB235_225.1
          have hms26_1:=NB235_229.1
          refine skip_ (w1:=?_) (by rfl) rfl ?_ ?_
          rotate_left
          ·go_simp
           rfl
          refine hK.out _ _ ⟨((cF (p:=⟨G235,_,none⟩) NB229_235.1 _).trans (((cF (p:=⟨G235,_,none⟩) NB229_235.1 _).trans (((cF (p:=⟨G235,_,none⟩) NB229_235.1 _).trans (hHeld.1)))))),((cF (p:=⟨G235,_,none⟩) NB229_235.1 _).trans (((cF (p:=⟨G235,_,none⟩) NB229_235.1 _).trans (((cF (p:=⟨G235,_,none⟩) NB229_235.1 _).trans (hHeld.2.1)))))),((cF (p:=⟨G235,_,none⟩) NB229_235.1 _).trans (((cF (p:=⟨G235,_,none⟩) NB229_235.1 _).trans (((cF (p:=⟨G235,_,none⟩) NB229_235.1 _).trans (hHeld.2.2.1)))))),((cF (p:=⟨G235,_,none⟩) (by first|exact Nat.ne_of_lt (Nat.lt_of_lt_of_le (by have:=World.block_lt_of_cell? _ _ hw230_0;first|rwa [add_block] at this|exact this) GW235.1)|(rw [add_block];exact Nat.ne_of_lt (Nat.lt_of_lt_of_le (by have:=World.block_lt_of_cell? _ _ hw230_0;first|rwa [add_block] at this|exact this) GW235.1))|(show (Addr.add _ _).block ≠ _;rw [add_block];exact Nat.ne_of_lt (Nat.lt_of_lt_of_le (by have:=World.block_lt_of_cell? _ _ hw230_0;first|rwa [add_block] at this|exact this) GW235.1))|(dsimp only;exact Nat.ne_of_lt (Nat.lt_of_lt_of_le (by have:=World.block_lt_of_cell? _ _ hw230_0;first|rwa [add_block] at this|exact this) GW235.1))) _).trans (((cF (p:=⟨G235,_,none⟩) (by first|exact Nat.ne_of_lt (Nat.lt_of_lt_of_le (by have:=World.block_lt_of_cell? _ _ hw230_0;first|rwa [add_block] at this|exact this) GW235.1)|(rw [add_block];exact Nat.ne_of_lt (Nat.lt_of_lt_of_le (by have:=World.block_lt_of_cell? _ _ hw230_0;first|rwa [add_block] at this|exact this) GW235.1))|(show (Addr.add _ _).block ≠ _;rw [add_block];exact Nat.ne_of_lt (Nat.lt_of_lt_of_le (by have:=World.block_lt_of_cell? _ _ hw230_0;first|rwa [add_block] at this|exact this) GW235.1))|(dsimp only;exact Nat.ne_of_lt (Nat.lt_of_lt_of_le (by have:=World.block_lt_of_cell? _ _ hw230_0;first|rwa [add_block] at this|exact this) GW235.1))) _).trans (((cF (p:=⟨G235,_,none⟩) (by first|exact Nat.ne_of_lt (Nat.lt_of_lt_of_le (by have:=World.block_lt_of_cell? _ _ hw230_0;first|rwa [add_block] at this|exact this) GW235.1)|(rw [add_block];exact Nat.ne_of_lt (Nat.lt_of_lt_of_le (by have:=World.block_lt_of_cell? _ _ hw230_0;first|rwa [add_block] at this|exact this) GW235.1))|(show (Addr.add _ _).block ≠ _;rw [add_block];exact Nat.ne_of_lt (Nat.lt_of_lt_of_le (by have:=World.block_lt_of_cell? _ _ hw230_0;first|rwa [add_block] at this|exact this) GW235.1))|(dsimp only;exact Nat.ne_of_lt (Nat.lt_of_lt_of_le (by have:=World.block_lt_of_cell? _ _ hw230_0;first|rwa [add_block] at this|exact this) GW235.1))) _).trans (hHeld.2.2.2))))))⟩ (fun hHeld => ?_)
          clear hK K
          refine pure_ (i:=11) (N:=some 10) (v:=?_) (a':=?_) #[true,true,true,true,true,true,true,true,true,true,true,true] rfl rfl (any_of HT_.out (by kernel_rfl)) (fun _ _ _ h => h) (Or.inl ⟨by rfl,?_⟩) ?_ ?_
          rotate_left
          ·intro w'
           go_simp
           with_reducible rfl
          rotate_left
          ·simp only [Act.put,List.setIfInBounds_toArray,List.set_cons_zero,List.set_cons_succ,i64_w,i32_w]
           rfl
          refine done_ (done_of HT_.out (by kernel_rfl)) ?_
          have hnb27:=NB235_225.1
          have hnc27:=NB225_235.1
          have hnb28:=NB235_229.1
          have hnc28:=NB229_235.1
          have hcz29_0 : w23.cell? ⟨G235,0,none⟩ = some (.int .i64 0):=(bC K235.1 0).trans rfl
          have hcz29_1 : w23.cell? ⟨G235,1,none⟩ = some (.float .f64 0):=(bC K235.1 1).trans rfl
          have hcz29_2 : w23.cell? ⟨G235,2,none⟩ = some (.float .f64 0):=(bC K235.1 2).trans rfl
          have hfz29_0:=bF K235.1 0
          have hfz29_1:=bF K235.1 1
          have hfz29_2:=bF K235.1 2
          have hnb30:=NB229_225.1
          have hnc30:=NB225_229.1
          have hcz31_0 : w23.cell? ⟨G229,0,none⟩ = some (.int .i64 x230000_1):=(bC K229.1 0).trans rfl
          have hcz31_1 : w23.cell? ⟨G229,1,none⟩ = some (.float .f64 x230001_1):=(bC K229.1 1).trans rfl
          have hcz31_2 : w23.cell? ⟨G229,2,none⟩ = some (.float .f64 x230002_1):=(bC K229.1 2).trans rfl
          have hfz31_0:=bF K229.1 0
          have hfz31_1:=bF K229.1 1
          have hfz31_2:=bF K229.1 2
          try go_wp2_with (first|((with_reducible refine gate_store (t:=24) (p:=5) rfl ?_);refine store_event (t:=24) (p:=5) (v:=?vo_w32) (w1:=((((((w23.setCell ⟨G235,0,none⟩ (.int .i64 t231)).setCell ⟨G235,1,none⟩ (.float .f64 t232)).setCell ⟨G235,2,none⟩ (.float .f64 t233)).setCell ⟨G229,0,none⟩ (.int .i64 t231)).setCell ⟨G229,1,none⟩ (.float .f64 t232)).setCell ⟨G229,2,none⟩ (.float .f64 t233))) ?hg ?ho ?hn ?hr ?_;(case ho => rfl);(case hg => rfl);(case hn => rfl);(case hr => first|(go_simp;done)|(go_simp;rfl));intro w32 hw;have n0_ : Aside0 (Kd.R Kd.float64 22 w32 w.heap.size (fun _ => True) u6 x6_1):=⟨(by rw [hw];exact (by (with_reducible repeat (first|apply Kd.R_alloc|apply Kd.R_drewN|apply Kd.R_drew));exact Kd.R_mono (Kd.R_far (p:=⟨G229,2,none⟩) (Kd.R_far (p:=⟨G229,1,none⟩) (Kd.R_far (p:=⟨G229,0,none⟩) (Kd.R_far (p:=⟨G235,2,none⟩) (Kd.R_far (p:=⟨G235,1,none⟩) (Kd.R_far (p:=⟨G235,0,none⟩) (Kd.R_types (Kd.R_types HO_6.out K235.1 (by decide)) K229.1 (by decide)) (fun _ hk => hk.1.2) (.int .i64 t231)) (fun _ hk => hk.1.2) (.float .f64 t232)) (fun _ hk => hk.1.2) (.float .f64 t233)) (fun _ hk => hk.2) (.int .i64 t231)) (fun _ hk => hk.2) (.float .f64 t232)) (fun _ hk => hk.2) (.float .f64 t233)) (fun _ hk => trivial)))⟩;have n1_ : Aside0 (w32.heap[G225]? = some (.cells #[.int .i64 0,.float .f64 0,.float .f64 0] 24 (0,0))):=⟨(by rw [hw];exact (by (with_reducible repeat first|apply bN|apply bD|apply bA);refine bZ ?_ NB225_229.1 _;(with_reducible repeat first|apply bN|apply bD|apply bA);refine bZ ?_ NB225_229.1 _;(with_reducible repeat first|apply bN|apply bD|apply bA);refine bZ ?_ NB225_229.1 _;(with_reducible repeat first|apply bN|apply bD|apply bA);refine bZ ?_ NB225_235.1 _;(with_reducible repeat first|apply bN|apply bD|apply bA);refine bZ ?_ NB225_235.1 _;(with_reducible repeat first|apply bN|apply bD|apply bA);refine bZ ?_ NB225_235.1 _;(with_reducible repeat first|apply bN|apply bD|apply bA);exact K225.1))⟩;have n2_ : Aside0 (w32.heap[G229]? = some (.cells #[.int .i64 t231,.float .f64 t232,.float .f64 t233] 24 (0,0))):=⟨(by rw [hw];exact (by (with_reducible repeat first|apply bN|apply bD|apply bA);refine blk_put (cs:=#[.int .i64 t231,.float .f64 t232,.float .f64 x230002_1]) ?_ 2 _ rfl;(with_reducible repeat first|apply bN|apply bD|apply bA);refine blk_put (cs:=#[.int .i64 t231,.float .f64 x230001_1,.float .f64 x230002_1]) ?_ 1 _ rfl;(with_reducible repeat first|apply bN|apply bD|apply bA);refine blk_put (cs:=#[.int .i64 x230000_1,.float .f64 x230001_1,.float .f64 x230002_1]) ?_ 0 _ rfl;(with_reducible repeat first|apply bN|apply bD|apply bA);refine bZ ?_ NB229_235.1 _;(with_reducible repeat first|apply bN|apply bD|apply bA);refine bZ ?_ NB229_235.1 _;(with_reducible repeat first|apply bN|apply bD|apply bA);refine bZ ?_ NB229_235.1 _;(with_reducible repeat first|apply bN|apply bD|apply bA);exact K229.1))⟩;have n3_ : Aside0 (w32.heap[G235]? = some (.cells #[.int .i64 t231,.float .f64 t232,.float .f64 t233] 24 (0,0))):=⟨(by rw [hw];exact (by (with_reducible repeat first|apply bN|apply bD|apply bA);refine bZ ?_ NB235_229.1 _;(with_reducible repeat first|apply bN|apply bD|apply bA);refine bZ ?_ NB235_229.1 _;(with_reducible repeat first|apply bN|apply bD|apply bA);refine bZ ?_ NB235_229.1 _;(with_reducible repeat first|apply bN|apply bD|apply bA);refine blk_put (cs:=#[.int .i64 t231,.float .f64 t232,.float .f64 0]) ?_ 2 _ rfl;(with_reducible repeat first|apply bN|apply bD|apply bA);refine blk_put (cs:=#[.int .i64 t231,.float .f64 0,.float .f64 0]) ?_ 1 _ rfl;(with_reducible repeat first|apply bN|apply bD|apply bA);refine blk_put (cs:=#[.int .i64 0,.float .f64 0,.float .f64 0]) ?_ 0 _ rfl;(with_reducible repeat first|apply bN|apply bD|apply bA);exact K235.1))⟩;have n4_ : Aside0 (Below w.heap.size w w32):=⟨(by rw [hw];exact (by repeat (first|(with_reducible first|exact HB.1|apply bwA|apply bwN|apply bw1|refine bS ?_ GE225.1|refine bS ?_ GE229.1|refine bS ?_ GE235.1)|exact HB.1)))⟩;clear hw;clear HO_6;clear K225;clear K229;clear K235;clear HB;have HO_6:=n0_;have K225:=n1_;have K229:=n2_;have K235:=n3_;have HB:=n4_;clear n0_ n1_ n2_ n3_ n4_;have hcz33_0 : w32.cell? ⟨G229,0,none⟩ = some (.int .i64 t231):=(bC K229.1 0).trans rfl;have hcz33_1 : w32.cell? ⟨G229,1,none⟩ = some (.float .f64 t232):=(bC K229.1 1).trans rfl;have hcz33_2 : w32.cell? ⟨G229,2,none⟩ = some (.float .f64 t233):=(bC K229.1 2).trans rfl;have hfz33_0:=bF K229.1 0;have hfz33_1:=bF K229.1 1;have hfz33_2:=bF K229.1 2)|((with_reducible refine gate_callee (f:=20) rfl ?_);refine goesL_ (some 37) rfl rfl Try.func20 (by kernel_rfl) rfl #[.agg #[.int .i64 t231,.float .f64 t232,.float .f64 t233]] rfl (by (try simp only [List.map_toArray,List.map_cons,List.map_nil]);first|done|rfl|(simp only [List.length_drop,List.length_take];rfl)) ?_;(with_reducible refine (beaconref05_Cost.calls k1 t231 t232 t233 t236 t237 _ A13.out).mono ?_);rintro e w34 ⟨rfl,hb⟩;refine ⟨_,rfl,?_⟩;have n0_:=Aside0.mk (Kd.R_below (by (with_reducible repeat (first|apply Kd.R_alloc|apply Kd.R_drewN|apply Kd.R_drew));exact HO_6.out) hb);have n1_:=Aside0.mk (bB (g:=G225) (o:=.cells #[.int .i64 0,.float .f64 0,.float .f64 0] 24 (0,0)) (by (with_reducible repeat first|apply bN|apply bD|apply bA);exact K225.1) hb);have n2_:=Aside0.mk (bB (g:=G229) (o:=.cells #[.int .i64 t231,.float .f64 t232,.float .f64 t233] 24 (0,0)) (by (with_reducible repeat first|apply bN|apply bD|apply bA);exact K229.1) hb);have n3_:=Aside0.mk (bB (g:=G235) (o:=.cells #[.int .i64 t231,.float .f64 t232,.float .f64 t233] 24 (0,0)) (by (with_reducible repeat first|apply bN|apply bD|apply bA);exact K235.1) hb);have n4_:=Aside0.mk (below_step (by repeat (first|(with_reducible first|exact HB.1|apply bwA|apply bwN|apply bw1|refine bS ?_ GE225.1|refine bS ?_ GE229.1|refine bS ?_ GE235.1)|exact HB.1)) hb);clear HO_6;clear K225;clear K229;clear K235;clear HB;have HO_6:=n0_;have K225:=n1_;have K229:=n2_;have K235:=n3_;have HB:=n4_;clear n0_ n1_ n2_ n3_ n4_;(try clear hb);(try clear hb2);(try clear hk);(try clear hi);obtain ⟨Ao35,co35,eo35⟩:=Kd.R_slice HO_6.out;subst eo35;have p238 : 0 ≤ ((ji15) : Int):=of_decide_eq_true (by first|(with_reducible assumption)|assumption);have q238 : (ji15) < (x6_1.length : Int):=of_decide_eq_true (by first|(with_reducible assumption)|assumption);obtain ⟨ad238,e238,hx238_0⟩:=Kd.at_float64 (Kd.R_reads' HO_6.out).2.2 (ji15) p238 q238;cases e238;replace p238:=eq_true p238;replace q238:=eq_true q238)|((with_reducible refine gate_callee (f:=16) rfl ?_);refine goesL_ (some 51) rfl rfl Try.func16 (by kernel_rfl) rfl #[.float .f64 (rdOf (0 : Nat) x6_1 (ji15)),.float .f64 t236] rfl (by (try simp only [List.map_toArray,List.map_cons,List.map_nil]);first|done|(simp only [hji15];rfl)|rfl|(simp only [List.length_drop,List.length_take];rfl)) ?_;(with_reducible refine (beaconref05_Hold.calls k1 (rdOf (0 : Nat) x6_1 (ji15)) t236 t239 t240 _ A18.out).mono ?_);rintro e w' ⟨rfl,⟨nd,rfl⟩⟩;refine ⟨_,rfl,?_⟩)|((with_reducible refine gate_builtin (b:=.append) (xs:=#[.tmp 54,.tmp 56]) rfl ?_);at_builtin;refine Kd.R_append Kd.float64 (w0:=w) w.heap.size rfl (.tmp 54) (.tmp 56) 38 22 (.float .f64 0) 8 rfl Try.underlying38 info22 rfl (by decide) (by omega) (.slice (some ad238) x6_1.length co35) x6_1 t239 [.float .f64 t239] (fun _ => True) (fun _ => False) rfl rfl ?aP (fun _ hk => hk.elim) ?aF ?aO ?aB ?aS ?aL ?_;(case aP => exact rfl);(case aB => exact (by repeat (first|(with_reducible first|exact HB.1|apply bwA|apply bwN|apply bw1|refine bS ?_ GE225.1|refine bS ?_ GE229.1|refine bS ?_ GE235.1)|exact HB.1)));(case aF => exact (fun _ _ => trivial));(case aO => exact (by (with_reducible repeat (first|apply Kd.R_alloc|apply Kd.R_drewN|apply Kd.R_drew));exact HO_6.out));(case aS => exact (below_size (by repeat (first|(with_reducible first|exact HB.1|apply bwA|apply bwN|apply bw1|refine bS ?_ GE225.1|refine bS ?_ GE229.1|refine bS ?_ GE235.1)|exact HB.1))));(case aL => have:=LMc19.out;omega);intro v242 w36 ho hb hg hat;rw [← Ny241.out] at ho;have n0_:=Aside0.mk (blk_grown (g:=G225) (o:=.cells #[.int .i64 0,.float .f64 0,.float .f64 0] 24 (0,0)) (by (with_reducible repeat first|apply bN|apply bD|apply bA);exact K225.1) hg (Kd.R_ne HO_6.out K225.1 (by decide)));have n1_:=Aside0.mk (blk_grown (g:=G229) (o:=.cells #[.int .i64 t231,.float .f64 t232,.float .f64 t233] 24 (0,0)) (by (with_reducible repeat first|apply bN|apply bD|apply bA);exact K229.1) hg (Kd.R_ne HO_6.out K229.1 (by decide)));have n2_:=Aside0.mk (blk_grown (g:=G235) (o:=.cells #[.int .i64 t231,.float .f64 t232,.float .f64 t233] 24 (0,0)) (by (with_reducible repeat first|apply bN|apply bD|apply bA);exact K235.1) hg (Kd.R_ne HO_6.out K235.1 (by decide)));have n3_:=Aside0.mk (hb);have n4_:=Aside0.mk (ho);clear K225;clear K229;clear K235;clear HB;clear HO_6;have K225:=n0_;have K229:=n1_;have K235:=n2_;have HB:=n3_;have HO243:=n4_;clear n0_ n1_ n2_ n3_ n4_;clear ho hb hg hat))
          go_roundg k1
          case measure => have:=HK1.out;omega
          case rel => exact ⟨(y241),(x7_1),(wrap64 (x8_1 + 1)),(t231),(t232),(t233),(by first|rfl|(simp;done)|(simp [*];done)),(by first|rfl|(simp;done)|(simp [*];done)),H',⟨by have:=HK1.out;omega⟩,⟨by (with_reducible repeat (first|apply Kd.R_alloc|apply Kd.R_drewN|apply Kd.R_drew));exact HO243.out⟩,⟨by (with_reducible repeat first|apply bN|apply bD|apply bA);exact K225.1⟩,⟨by (with_reducible repeat first|apply bN|apply bD|apply bA);exact K229.1⟩,⟨by repeat (first|(with_reducible first|exact HB.1|apply bwA|apply bwN|apply bw1|refine bS ?_ GE225.1|refine bS ?_ GE229.1|refine bS ?_ GE235.1)|exact HB.1)⟩⟩
         ·rw [if_neg c19] at H
          exact absurd H (by simp)
        ·rw [if_neg c17] at H
         exact absurd H (by simp)
       ·rw [if_neg c16] at H
        exact absurd H (by simp)
      ·rw [if_neg c14] at H
       have c14b0 : decide (0 < (x6_1.length : Int)) = false:=decide_eq_false c14
       have c14b1 : decide (0 < x6_1.length) = false:=decide_eq_false (by omega)
       clear c14
       by_cases c37 : x6_1.length < 17592186044416
       ·rw [if_pos c37] at H
        have LMc37:=Aside0.mk c37
        clear c37
        obtain ⟨y244,hy244⟩ : ∃ y_ : List Nat,y_ = (x6_1 ++ [t236]):=⟨_,rfl⟩
        replace H : (beaconref05_Run.l0 k1 l0 y244 x7_1 (wrap64 (x8_1 + 1)) t231 t232 t233) = some (r1,r2,r3,r4,r5):=by first|(rw [hy244];with_reducible exact H)|(have H2_:=(Option.bind_some _ _).symm.trans H;rw [hy244];with_reducible exact H2_)|(have H2_:=(Option.bind_some _ _).symm.trans H;with_reducible exact H2_)|with_reducible exact H|(rw [hy244];exact H)|exact H
        have Ny244:=Aside0.mk hy244
        clear hy244
        have H':=Aside0.mk H
        clear H
        try go_wp2
        have n0_:=Aside0.mk (Kd.R_drew HO_6.out)
        have n1_:=Aside0.mk (bD K225.1)
        have n2_:=Aside0.mk (bD K229.1)
        have n3_:=Aside0.mk (bw1 HB.1)
        clear HO_6
        clear K225
        clear K229
        clear HB
        have HO_6:=n0_
        have K225:=n1_
        have K229:=n2_
        have HB:=n3_
        clear n0_ n1_ n2_ n3_
        have p230 : 0 ≤ (x8_1 : Int):=of_decide_eq_true (by first|(with_reducible assumption)|assumption)
        have q230 : x8_1 < (l0.length : Int):=of_decide_eq_true (by first|(with_reducible assumption)|assumption)
        obtain ⟨ad230,e230,hx230_0⟩:=Kd.at_float64 HR0.out x8_1 p230 q230
        have hw230_0:=hx230_0
        cases e230
        replace hx230_0:=(HB.1.cell (World.block_lt_of_cell? w _ hx230_0)).trans hx230_0
        replace p230:=eq_true p230
        replace q230:=eq_true q230
        refine start_ (n:=12) (S:=fun w' => w'.cell? ⟨G229,0,none⟩ = some (.int .i64 x230000_1) ∧ w'.cell? ⟨G229,1,none⟩ = some (.float .f64 x230001_1) ∧ w'.cell? ⟨G229,2,none⟩ = some (.float .f64 x230002_1) ∧ w'.cell? (ad230.add (x8_1).toNat) = some (.float .f64 (rdOf (0 : Nat) l0 x8_1))) (ds:=[]) #[false,false,false,false,false,false,false,false,false,false,false,false] (by kernel_rfl) rfl rfl ⟨(bC K229.1 0).trans rfl,(bC K229.1 1).trans rfl,(bC K229.1 2).trans rfl,((HB.1.cell (World.block_lt_of_cell? w _ hw230_0)).trans hw230_0)⟩ (fun hHeld => ?_);refine with_tabW beaconref05_Run.tab5 beaconref05_Run.bits5 (fun HT_ HW_ => ?_)
        generalize wr.drew = w38 at HO_6 K225 K229 HB hx230_0 hHeld ⊢
        refine pure_ (i:=1) (N:=some 23) (v:=?_) (a':=?_) #[false,true,false,false,false,false,false,false,false,false,false,false] rfl rfl (any_of HT_.out (by kernel_rfl)) (fun _ _ _ h => h) (Or.inl ⟨by rfl,?_⟩) ?_ ?_
        rotate_left
        ·intro w'
         go_simp
         with_reducible rfl
        rotate_left
        ·simp only [Act.put,List.setIfInBounds_toArray,List.set_cons_zero,List.set_cons_succ,i64_w,i32_w]
         rfl
        refine pure_ (i:=2) (N:=some 24) (v:=?_) (a':=?_) #[false,true,true,false,false,false,false,false,false,false,false,false] rfl rfl (any_of HT_.out (by kernel_rfl)) (fun _ _ _ h => h) (Or.inl ⟨by rfl,?_⟩) ?_ ?_
        rotate_left
        ·intro w'
         go_simp
         with_reducible rfl
        rotate_left
        ·simp only [Act.put,List.setIfInBounds_toArray,List.set_cons_zero,List.set_cons_succ,i64_w,i32_w]
         rfl
        refine pure_ (i:=3) (N:=some 25) (v:=?_) (a':=?_) #[false,true,true,true,false,false,false,false,false,false,false,false] rfl rfl (any_of HT_.out (by kernel_rfl)) (fun _ _ _ h => h) (Or.inl ⟨by rfl,?_⟩) ?_ ?_
        rotate_left
        ·intro w'
         go_simp
         with_reducible rfl
        rotate_left
        ·simp only [Act.put,List.setIfInBounds_toArray,List.set_cons_zero,List.set_cons_succ,i64_w,i32_w]
         rfl
        refine take_ (i:=0) (N:=some 22) (v:=?_) (a':=?_) #[true,true,true,true,false,false,false,false,false,false,false,false] rfl rfl (take_ofW HT_.out HW_.out (by kernel_rfl)) (fun _ _ _ h => h) (Or.inl ⟨by rfl,?_⟩) hHeld ?_ ?_
        rotate_left
        ·rintro w' ⟨s0,s1,s2,s3⟩
         go_simp
         with_reducible rfl
        rotate_left
        ·simp only [Act.put,List.setIfInBounds_toArray,List.set_cons_zero,List.set_cons_succ,i64_w,i32_w]
         rfl
        refine take_ (i:=4) (N:=some 26) (v:=?_) (a':=?_) #[true,true,true,true,true,false,false,false,false,false,false,false] rfl rfl (take_ofW HT_.out HW_.out (by kernel_rfl)) (fun _ _ _ h => h) (Or.inl ⟨by rfl,?_⟩) hHeld ?_ ?_
        rotate_left
        ·rintro w' ⟨s0,s1,s2,s3⟩
         go_simp
         with_reducible rfl
        rotate_left
        ·simp only [Act.put,List.setIfInBounds_toArray,List.set_cons_zero,List.set_cons_succ,i64_w,i32_w]
         rfl
        refine join_ (σ:=Nat) 2 #[true,true,true,true,true,true,true,true,true,true,false,false] (fun s_ => [(27,.tuple #[.agg #[.int .i64 t231,.float .f64 t232,.float .f64 t233],.int .i64 t234]),(9,.pointer (some ⟨s_,0,none⟩)),(21,.tuple #[.agg #[.int .i64 t231,.float .f64 t232,.float .f64 t233],.int .i64 t234]),(28,.agg #[.int .i64 t231,.float .f64 t232,.float .f64 t233]),(29,.int .i64 t234)]) (fun s_ w' => (w'.cell? ⟨G229,0,none⟩ = some (.int .i64 x230000_1) ∧ w'.cell? ⟨G229,1,none⟩ = some (.float .f64 x230001_1) ∧ w'.cell? ⟨G229,2,none⟩ = some (.float .f64 x230002_1) ∧ w'.cell? (ad230.add (x8_1).toNat) = some (.float .f64 (rdOf (0 : Nat) l0 x8_1))) ∧ (Kd.R Kd.float64 22 w' w.heap.size (fun _ => True) u6 x6_1) ∧ (w'.heap[G225]? = some (.cells #[.int .i64 0,.float .f64 0,.float .f64 0] 24 (0,0))) ∧ (w'.heap[G229]? = some (.cells #[.int .i64 x230000_1,.float .f64 x230001_1,.float .f64 x230002_1] 24 (0,0))) ∧ (w'.heap[s_]? = some (.cells #[.int .i64 0,.float .f64 0,.float .f64 0] 24 (0,0))) ∧ (w.heap.size ≤ s_) ∧ (w.heap.size ≤ s_) ∧ (G225 ≠ s_) ∧ (s_ ≠ G225) ∧ (G229 ≠ s_) ∧ (s_ ≠ G229) ∧ (Below w.heap.size w w')) ?_ ?_
        rotate_left
        ·intro hCont
         refine two_ (i:=5) (j:=9) (Ni:=some 27) (Nj:=some 9) #[true,true,true,true,true,true,false,false,false,false,false,false] #[true,true,true,true,true,false,false,false,false,true,false,false] rfl rfl rfl rfl (two_of HT_.out (by kernel_rfl)) (by decide) (by decide) (fun K hK => ?_) (fun K hK => ?_)
         ·skip
          refine goes_ Try.func10 (by kernel_rfl) rfl #[.agg #[.int .i64 x230000_1,.float .f64 x230001_1,.float .f64 x230002_1],.float .f64 (rdOf (0 : Nat) l0 x8_1)] (by rfl) rfl rfl (by (try simp only [List.map_toArray,List.map_cons,List.map_nil]);first|done|rfl|(simp only [List.length_drop,List.length_take];rfl)) ?_
          with_reducible refine (beaconref05_Feed.calls k1 x230000_1 x230001_1 x230002_1 (rdOf (0 : Nat) l0 x8_1) t231 t232 t233 t234 _ A11.out).mono ?_
          rintro e w39 ⟨rfl,hb⟩
          refine ⟨_,rfl,?_⟩
          have n0_:=Aside0.mk (Kd.R_below (by (with_reducible repeat (first|apply Kd.R_alloc|apply Kd.R_drewN|apply Kd.R_drew));exact HO_6.out) hb)
          have n1_:=Aside0.mk (bB (g:=G225) (o:=.cells #[.int .i64 0,.float .f64 0,.float .f64 0] 24 (0,0)) (by (with_reducible repeat first|apply bN|apply bD|apply bA);exact K225.1) hb)
          have n2_:=Aside0.mk (bB (g:=G229) (o:=.cells #[.int .i64 x230000_1,.float .f64 x230001_1,.float .f64 x230002_1] 24 (0,0)) (by (with_reducible repeat first|apply bN|apply bD|apply bA);exact K229.1) hb)
          have n3_:=Aside0.mk (below_step (by repeat (first|(with_reducible first|exact HB.1|apply bwA|apply bwN|apply bw1|refine bS ?_ GE225.1|refine bS ?_ GE229.1)|exact HB.1)) hb)
          clear HO_6
          clear K225
          clear K229
          clear HB
          have HO_6:=n0_
          have K225:=n1_
          have K229:=n2_
          have HB:=n3_
          clear n0_ n1_ n2_ n3_
          (try clear hb)
          (try clear hb2)
          (try clear hk)
          (try clear hi)
          refine hK.out _ _ ⟨(bC K229.1 0).trans rfl,(bC K229.1 1).trans rfl,(bC K229.1 2).trans rfl,((HB.1.cell (World.block_lt_of_cell? w _ hw230_0)).trans hw230_0)⟩ (fun hHeld => ?_)
          clear hK K
          refine norm_ (a':=?_) ?_ ?_
          rotate_left
          ·show Act.put _ (some 27) _ = _
           simp only [Act.put,List.setIfInBounds_toArray,List.set_cons_zero,List.set_cons_succ,i64_w,i32_w]
           rfl
          refine pure_ (i:=6) (N:=some 21) (v:=?_) (a':=?_) #[true,true,true,true,true,true,true,false,false,false,false,false] rfl rfl (any_of HT_.out (by kernel_rfl)) (fun _ _ _ h => h) (Or.inl ⟨by rfl,?_⟩) ?_ ?_
          rotate_left
          ·intro w'
           go_simp
           with_reducible rfl
          rotate_left
          ·simp only [Act.put,List.setIfInBounds_toArray,List.set_cons_zero,List.set_cons_succ,i64_w,i32_w]
           rfl
          refine pure_ (i:=7) (N:=some 28) (v:=?_) (a':=?_) #[true,true,true,true,true,true,true,true,false,false,false,false] rfl rfl (any_of HT_.out (by kernel_rfl)) (fun _ _ _ h => h) (Or.inl ⟨by rfl,?_⟩) ?_ ?_
          rotate_left
          ·intro w'
           go_simp
           with_reducible rfl
          rotate_left
          ·simp only [Act.put,List.setIfInBounds_toArray,List.set_cons_zero,List.set_cons_succ,i64_w,i32_w]
           rfl
          refine pure_ (i:=8) (N:=some 29) (v:=?_) (a':=?_) #[true,true,true,true,true,true,true,true,true,false,false,false] rfl rfl (any_of HT_.out (by kernel_rfl)) (fun _ _ _ h => h) (Or.inl ⟨by rfl,?_⟩) ?_ ?_
          rotate_left
          ·intro w'
           go_simp
           with_reducible rfl
          rotate_left
          ·simp only [Act.put,List.setIfInBounds_toArray,List.set_cons_zero,List.set_cons_succ,i64_w,i32_w]
           rfl
          refine one_ (i:=9) (N:=some 9) #[true,true,true,true,true,true,true,true,true,true,false,false] rfl rfl (one_of HT_.out (by kernel_rfl)) (by decide) (fun K hK => ?_)
          refine box_step ?hg (N:=9) ?hd (cs:=#[.int .i64 0,.float .f64 0,.float .f64 0]) (t:=24) ?hr ?_;(case hd => rfl);(case hg => rfl);(case hr => first|(go_simp;done)|(go_simp;rfl))
          intro G235 hg w40 hbox hb
          have n0_:=Aside0.mk (Kd.R_below (by (with_reducible repeat (first|apply Kd.R_alloc|apply Kd.R_drewN|apply Kd.R_drew));exact HO_6.out) hb)
          have n1_:=Aside0.mk (bB (g:=G225) (o:=.cells #[.int .i64 0,.float .f64 0,.float .f64 0] 24 (0,0)) (by (with_reducible repeat first|apply bN|apply bD|apply bA);exact K225.1) hb)
          have n2_:=Aside0.mk (bB (g:=G229) (o:=.cells #[.int .i64 x230000_1,.float .f64 x230001_1,.float .f64 x230002_1] 24 (0,0)) (by (with_reducible repeat first|apply bN|apply bD|apply bA);exact K229.1) hb)
          have n3_:=Aside0.mk (below_step (by repeat (first|(with_reducible first|exact HB.1|apply bwA|apply bwN|apply bw1|refine bS ?_ GE225.1|refine bS ?_ GE229.1)|exact HB.1)) hb)
          have n4_:=Aside0.mk (hbox)
          have n5_:=Aside0.mk ((by rw [hg];exact (below_size (by repeat (first|(with_reducible first|exact HB.1|apply bwA|apply bwN|apply bw1|refine bS ?_ GE225.1|refine bS ?_ GE229.1)|exact HB.1))) : w.heap.size ≤ G235))
          have n6_:=Aside0.mk ((by rw [hg];exact (below_size (by repeat (first|(with_reducible first|exact HB.1|apply bwA|apply bwN|apply bw1|refine bS ?_ GE225.1|refine bS ?_ GE229.1)|exact HB.1))) : w.heap.size ≤ G235))
          have n7_:=Aside0.mk ((by rw [hg];exact Nat.ne_of_lt (blk_lt (g:=G225) (o:=.cells #[.int .i64 0,.float .f64 0,.float .f64 0] 24 (0,0)) (by (with_reducible repeat first|apply bN|apply bD|apply bA);exact K225.1)) : G225 ≠ G235))
          have n8_:=Aside0.mk ((by rw [hg];exact Nat.ne_of_gt (blk_lt (g:=G225) (o:=.cells #[.int .i64 0,.float .f64 0,.float .f64 0] 24 (0,0)) (by (with_reducible repeat first|apply bN|apply bD|apply bA);exact K225.1)) : G235 ≠ G225))
          have n9_:=Aside0.mk ((by rw [hg];exact Nat.ne_of_lt (blk_lt (g:=G229) (o:=.cells #[.int .i64 x230000_1,.float .f64 x230001_1,.float .f64 x230002_1] 24 (0,0)) (by (with_reducible repeat first|apply bN|apply bD|apply bA);exact K229.1)) : G229 ≠ G235))
          have n10_:=Aside0.mk ((by rw [hg];exact Nat.ne_of_gt (blk_lt (g:=G229) (o:=.cells #[.int .i64 x230000_1,.float .f64 x230001_1,.float .f64 x230002_1] 24 (0,0)) (by (with_reducible repeat first|apply bN|apply bD|apply bA);exact K229.1)) : G235 ≠ G229))
          clear HO_6
          clear K225
          clear K229
          clear HB
          have HO_6:=n0_
          have K225:=n1_
          have K229:=n2_
          have HB:=n3_
          have K235:=n4_
          have GW235:=n5_
          have GE235:=n6_
          have NB225_235:=n7_
          have NB235_225:=n8_
          have NB229_235:=n9_
          have NB235_229:=n10_
          clear n0_ n1_ n2_ n3_ n4_ n5_ n6_ n7_ n8_ n9_ n10_
          clear hb hbox hg
          refine hK.out _ _ ⟨(bC K229.1 0).trans rfl,(bC K229.1 1).trans rfl,(bC K229.1 2).trans rfl,((HB.1.cell (World.block_lt_of_cell? w _ hw230_0)).trans hw230_0)⟩ (fun hHeld => ?_)
          clear hK K
          refine norm_ (a':=?_) ?_ ?_
          rotate_left
          ·show Act.put _ (some 9) _ = _
           simp only [Act.put,List.setIfInBounds_toArray,List.set_cons_zero,List.set_cons_succ,i64_w,i32_w]
           rfl
          exact norm_ (by simp only [putAll,Act.put,List.setIfInBounds_toArray,List.set_cons_zero,List.set_cons_succ]) (hCont (G235) _ ⟨hHeld,(by (with_reducible repeat (first|apply Kd.R_alloc|apply Kd.R_drewN|apply Kd.R_drew));exact HO_6.out),(by (with_reducible repeat first|apply bN|apply bD|apply bA);exact K225.1),(by (with_reducible repeat first|apply bN|apply bD|apply bA);exact K229.1),(by (with_reducible repeat first|apply bN|apply bD|apply bA);exact K235.1),GW235.1,GE235.1,NB225_235.1,NB235_225.1,NB229_235.1,NB235_229.1,(by repeat (first|(with_reducible first|exact HB.1|apply bwA|apply bwN|apply bw1|refine bS ?_ GE225.1|refine bS ?_ GE229.1|refine bS ?_ GE235.1)|exact HB.1))⟩)
         ·skip
          refine box_step ?hg (N:=9) ?hd (cs:=#[.int .i64 0,.float .f64 0,.float .f64 0]) (t:=24) ?hr ?_;(case hd => rfl);(case hg => rfl);(case hr => first|(go_simp;done)|(go_simp;rfl))
          intro G235 hg w39 hbox hb
          have n0_:=Aside0.mk (Kd.R_below (by (with_reducible repeat (first|apply Kd.R_alloc|apply Kd.R_drewN|apply Kd.R_drew));exact HO_6.out) hb)
          have n1_:=Aside0.mk (bB (g:=G225) (o:=.cells #[.int .i64 0,.float .f64 0,.float .f64 0] 24 (0,0)) (by (with_reducible repeat first|apply bN|apply bD|apply bA);exact K225.1) hb)
          have n2_:=Aside0.mk (bB (g:=G229) (o:=.cells #[.int .i64 x230000_1,.float .f64 x230001_1,.float .f64 x230002_1] 24 (0,0)) (by (with_reducible repeat first|apply bN|apply bD|apply bA);exact K229.1) hb)
          have n3_:=Aside0.mk (below_step (by repeat (first|(with_reducible first|exact HB.1|apply bwA|apply bwN|apply bw1|refine bS ?_ GE225.1|refine bS ?_ GE229.1)|exact HB.1)) hb)
          have n4_:=Aside0.mk (hbox)
          have n5_:=Aside0.mk ((by rw [hg];exact (below_size (by repeat (first|(with_reducible first|exact HB.1|apply bwA|apply bwN|apply bw1|refine bS ?_ GE225.1|refine bS ?_ GE229.1)|exact HB.1))) : w.heap.size ≤ G235))
          have n6_:=Aside0.mk ((by rw [hg];exact (below_size (by repeat (first|(with_reducible first|exact HB.1|apply bwA|apply bwN|apply bw1|refine bS ?_ GE225.1|refine bS ?_ GE229.1)|exact HB.1))) : w.heap.size ≤ G235))
          have n7_:=Aside0.mk ((by rw [hg];exact Nat.ne_of_lt (blk_lt (g:=G225) (o:=.cells #[.int .i64 0,.float .f64 0,.float .f64 0] 24 (0,0)) (by (with_reducible repeat first|apply bN|apply bD|apply bA);exact K225.1)) : G225 ≠ G235))
          have n8_:=Aside0.mk ((by rw [hg];exact Nat.ne_of_gt (blk_lt (g:=G225) (o:=.cells #[.int .i64 0,.float .f64 0,.float .f64 0] 24 (0,0)) (by (with_reducible repeat first|apply bN|apply bD|apply bA);exact K225.1)) : G235 ≠ G225))
          have n9_:=Aside0.mk ((by rw [hg];exact Nat.ne_of_lt (blk_lt (g:=G229) (o:=.cells #[.int .i64 x230000_1,.float .f64 x230001_1,.float .f64 x230002_1] 24 (0,0)) (by (with_reducible repeat first|apply bN|apply bD|apply bA);exact K229.1)) : G229 ≠ G235))
          have n10_:=Aside0.mk ((by rw [hg];exact Nat.ne_of_gt (blk_lt (g:=G229) (o:=.cells #[.int .i64 x230000_1,.float .f64 x230001_1,.float .f64 x230002_1] 24 (0,0)) (by (with_reducible repeat first|apply bN|apply bD|apply bA);exact K229.1)) : G235 ≠ G229))
          clear HO_6
          clear K225
          clear K229
          clear HB
          have HO_6:=n0_
          have K225:=n1_
          have K229:=n2_
          have HB:=n3_
          have K235:=n4_
          have GW235:=n5_
          have GE235:=n6_
          have NB225_235:=n7_
          have NB235_225:=n8_
          have NB229_235:=n9_
          have NB235_229:=n10_
          clear n0_ n1_ n2_ n3_ n4_ n5_ n6_ n7_ n8_ n9_ n10_
          clear hb hbox hg
          refine hK.out _ _ ⟨(bC K229.1 0).trans rfl,(bC K229.1 1).trans rfl,(bC K229.1 2).trans rfl,((HB.1.cell (World.block_lt_of_cell? w _ hw230_0)).trans hw230_0)⟩ (fun hHeld => ?_)
          clear hK K
          refine norm_ (a':=?_) ?_ ?_
          rotate_left
          ·show Act.put _ (some 9) _ = _
           simp only [Act.put,List.setIfInBounds_toArray,List.set_cons_zero,List.set_cons_succ,i64_w,i32_w]
           rfl
          refine one_ (i:=5) (N:=some 27) #[true,true,true,true,true,true,false,false,false,true,false,false] rfl rfl (one_of HT_.out (by kernel_rfl)) (by decide) (fun K hK => ?_)
          refine goes_ Try.func10 (by kernel_rfl) rfl #[.agg #[.int .i64 x230000_1,.float .f64 x230001_1,.float .f64 x230002_1],.float .f64 (rdOf (0 : Nat) l0 x8_1)] (by rfl) rfl rfl (by (try simp only [List.map_toArray,List.map_cons,List.map_nil]);first|done|rfl|(simp only [List.length_drop,List.length_take];rfl)) ?_
          with_reducible refine (beaconref05_Feed.calls k1 x230000_1 x230001_1 x230002_1 (rdOf (0 : Nat) l0 x8_1) t231 t232 t233 t234 _ A11.out).mono ?_
          rintro e w40 ⟨rfl,hb⟩
          refine ⟨_,rfl,?_⟩
          have n0_:=Aside0.mk (Kd.R_below (by (with_reducible repeat (first|apply Kd.R_alloc|apply Kd.R_drewN|apply Kd.R_drew));exact HO_6.out) hb)
          have n1_:=Aside0.mk (bB (g:=G225) (o:=.cells #[.int .i64 0,.float .f64 0,.float .f64 0] 24 (0,0)) (by (with_reducible repeat first|apply bN|apply bD|apply bA);exact K225.1) hb)
          have n2_:=Aside0.mk (bB (g:=G229) (o:=.cells #[.int .i64 x230000_1,.float .f64 x230001_1,.float .f64 x230002_1] 24 (0,0)) (by (with_reducible repeat first|apply bN|apply bD|apply bA);exact K229.1) hb)
          have n3_:=Aside0.mk (bB (g:=G235) (o:=.cells #[.int .i64 0,.float .f64 0,.float .f64 0] 24 (0,0)) (by (with_reducible repeat first|apply bN|apply bD|apply bA);exact K235.1) hb)
          have n4_:=Aside0.mk (below_step (by repeat (first|(with_reducible first|exact HB.1|apply bwA|apply bwN|apply bw1|refine bS ?_ GE225.1|refine bS ?_ GE229.1|refine bS ?_ GE235.1)|exact HB.1)) hb)
          clear HO_6
          clear K225
          clear K229
          clear K235
          clear HB
          have HO_6:=n0_
          have K225:=n1_
          have K229:=n2_
          have K235:=n3_
          have HB:=n4_
          clear n0_ n1_ n2_ n3_ n4_
          (try clear hb)
          (try clear hb2)
          (try clear hk)
          (try clear hi)
          refine hK.out _ _ ⟨(bC K229.1 0).trans rfl,(bC K229.1 1).trans rfl,(bC K229.1 2).trans rfl,((HB.1.cell (World.block_lt_of_cell? w _ hw230_0)).trans hw230_0)⟩ (fun hHeld => ?_)
          clear hK K
          refine norm_ (a':=?_) ?_ ?_
          rotate_left
          ·show Act.put _ (some 27) _ = _
           simp only [Act.put,List.setIfInBounds_toArray,List.set_cons_zero,List.set_cons_succ,i64_w,i32_w]
           rfl
          refine pure_ (i:=6) (N:=some 21) (v:=?_) (a':=?_) #[true,true,true,true,true,true,true,false,false,true,false,false] rfl rfl (any_of HT_.out (by kernel_rfl)) (fun _ _ _ h => h) (Or.inl ⟨by rfl,?_⟩) ?_ ?_
          rotate_left
          ·intro w'
           go_simp
           with_reducible rfl
          rotate_left
          ·simp only [Act.put,List.setIfInBounds_toArray,List.set_cons_zero,List.set_cons_succ,i64_w,i32_w]
           rfl
          refine pure_ (i:=7) (N:=some 28) (v:=?_) (a':=?_) #[true,true,true,true,true,true,true,true,false,true,false,false] rfl rfl (any_of HT_.out (by kernel_rfl)) (fun _ _ _ h => h) (Or.inl ⟨by rfl,?_⟩) ?_ ?_
          rotate_left
          ·intro w'
           go_simp
           with_reducible rfl
          rotate_left
          ·simp only [Act.put,List.setIfInBounds_toArray,List.set_cons_zero,List.set_cons_succ,i64_w,i32_w]
           rfl
          refine pure_ (i:=8) (N:=some 29) (v:=?_) (a':=?_) #[true,true,true,true,true,true,true,true,true,true,false,false] rfl rfl (any_of HT_.out (by kernel_rfl)) (fun _ _ _ h => h) (Or.inl ⟨by rfl,?_⟩) ?_ ?_
          rotate_left
          ·intro w'
           go_simp
           with_reducible rfl
          rotate_left
          ·simp only [Act.put,List.setIfInBounds_toArray,List.set_cons_zero,List.set_cons_succ,i64_w,i32_w]
           rfl
          exact norm_ (by simp only [putAll,Act.put,List.setIfInBounds_toArray,List.set_cons_zero,List.set_cons_succ]) (hCont (G235) _ ⟨hHeld,(by (with_reducible repeat (first|apply Kd.R_alloc|apply Kd.R_drewN|apply Kd.R_drew));exact HO_6.out),(by (with_reducible repeat first|apply bN|apply bD|apply bA);exact K225.1),(by (with_reducible repeat first|apply bN|apply bD|apply bA);exact K229.1),(by (with_reducible repeat first|apply bN|apply bD|apply bA);exact K235.1),GW235.1,GE235.1,NB225_235.1,NB235_225.1,NB229_235.1,NB235_229.1,(by repeat (first|(with_reducible first|exact HB.1|apply bwA|apply bwN|apply bw1|refine bS ?_ GE225.1|refine bS ?_ GE229.1|refine bS ?_ GE235.1)|exact HB.1))⟩)
        rintro G235 w41 ⟨hS_,h0_,h1_,h2_,h3_,h4_,h5_,h6_,h7_,h8_,h9_,h10_⟩
        have n0_ : Aside0 (Kd.R Kd.float64 22 w41 w.heap.size (fun _ => True) u6 x6_1):=⟨h0_⟩
        have n1_ : Aside0 (w41.heap[G225]? = some (.cells #[.int .i64 0,.float .f64 0,.float .f64 0] 24 (0,0))):=⟨h1_⟩
        have n2_ : Aside0 (w41.heap[G229]? = some (.cells #[.int .i64 x230000_1,.float .f64 x230001_1,.float .f64 x230002_1] 24 (0,0))):=⟨h2_⟩
        have n3_ : Aside0 (w41.heap[G235]? = some (.cells #[.int .i64 0,.float .f64 0,.float .f64 0] 24 (0,0))):=⟨h3_⟩
        have n4_ : Aside0 (w.heap.size ≤ G235):=⟨h4_⟩
        have n5_ : Aside0 (w.heap.size ≤ G235):=⟨h5_⟩
        have n6_ : Aside0 (G225 ≠ G235):=⟨h6_⟩
        have n7_ : Aside0 (G235 ≠ G225):=⟨h7_⟩
        have n8_ : Aside0 (G229 ≠ G235):=⟨h8_⟩
        have n9_ : Aside0 (G235 ≠ G229):=⟨h9_⟩
        have n10_ : Aside0 (Below w.heap.size w w41):=⟨h10_⟩
        clear HO_6
        clear K225
        clear K229
        clear HB
        clear h0_ h1_ h2_ h3_ h4_ h5_ h6_ h7_ h8_ h9_ h10_
        have HO_6:=n0_
        have K225:=n1_
        have K229:=n2_
        have K235:=n3_
        have GW235:=n4_
        have GE235:=n5_
        have NB225_235:=n6_
        have NB235_225:=n7_
        have NB229_235:=n8_
        have NB235_229:=n9_
        have HB:=n10_
        clear n0_ n1_ n2_ n3_ n4_ n5_ n6_ n7_ n8_ n9_ n10_
        have hHeld : w41.cell? ⟨G229,0,none⟩ = some (.int .i64 x230000_1) ∧ w41.cell? ⟨G229,1,none⟩ = some (.float .f64 x230001_1) ∧ w41.cell? ⟨G229,2,none⟩ = some (.float .f64 x230002_1) ∧ w41.cell? (ad230.add (x8_1).toNat) = some (.float .f64 (rdOf (0 : Nat) l0 x8_1)):=hS_
        refine norm_ (a':=?_) ?_ ?_
        rotate_left
        ·simp only [putAll,Act.put,List.setIfInBounds_toArray,List.set_cons_zero,List.set_cons_succ]
         rfl
        refine one_ (i:=10) (N:=none) #[true,true,true,true,true,true,true,true,true,true,true,false] rfl rfl (one_of HT_.out (by kernel_rfl)) (by decide) (fun K hK => ?_)
        have hs42 : w41.cell? ⟨G235,0,none⟩ = some (.int .i64 0):=(bC K235.1 0).trans rfl
        have hfs42:=bF K235.1 0
        have hns42_0:=NB225_235.1
        have hns42_1:=NB229_235.1
        have hms42_0:=NB235_225.1
        have hms42_1:=NB235_229.1
        have hs43 : w41.cell? ⟨G235,1,none⟩ = some (.float .f64 0):=(bC K235.1 1).trans rfl
        have hfs43:=bF K235.1 1
        have hns43_0:=NB225_235.1
        have hns43_1:=NB229_235.1
        have hms43_0:=NB235_225.1
        have hms43_1:=NB235_229.1
        have hs44 : w41.cell? ⟨G235,2,none⟩ = some (.float .f64 0):=(bC K235.1 2).trans rfl
        have hfs44:=bF K235.1 2
        have hns44_0:=NB225_235.1
        have hns44_1:=NB229_235.1
        have hms44_0:=NB235_225.1
        have hms44_1:=NB235_229.1
        refine skip_ (w1:=?_) (by rfl) rfl ?_ ?_
        rotate_left
        ·go_simp
         rfl
        refine hK.out _ _ ⟨((cF (p:=⟨G235,_,none⟩) NB229_235.1 _).trans (((cF (p:=⟨G235,_,none⟩) NB229_235.1 _).trans (((cF (p:=⟨G235,_,none⟩) NB229_235.1 _).trans (hHeld.1)))))),((cF (p:=⟨G235,_,none⟩) NB229_235.1 _).trans (((cF (p:=⟨G235,_,none⟩) NB229_235.1 _).trans (((cF (p:=⟨G235,_,none⟩) NB229_235.1 _).trans (hHeld.2.1)))))),((cF (p:=⟨G235,_,none⟩) NB229_235.1 _).trans (((cF (p:=⟨G235,_,none⟩) NB229_235.1 _).trans (((cF (p:=⟨G235,_,none⟩) NB229_235.1 _).trans (hHeld.2.2.1)))))),((cF (p:=⟨G235,_,none⟩) (by first|exact Nat.ne_of_lt (Nat.lt_of_lt_of_le (by have:=World.block_lt_of_cell? _ _ hw230_0;first|rwa [add_block] at this|exact this) GW235.1)|(rw [add_block];exact Nat.ne_of_lt (Nat.lt_of_lt_of_le (by have:=World.block_lt_of_cell? _ _ hw230_0;first|rwa [add_block] at this|exact this) GW235.1))|(show (Addr.add _ _).block ≠ _;rw [add_block];exact Nat.ne_of_lt (Nat.lt_of_lt_of_le (by have:=World.block_lt_of_cell? _ _ hw230_0;first|rwa [add_block] at this|exact this) GW235.1))|(dsimp only;exact Nat.ne_of_lt (Nat.lt_of_lt_of_le (by have:=World.block_lt_of_cell? _ _ hw230_0;first|rwa [add_block] at this|exact this) GW235.1))) _).trans (((cF (p:=⟨G235,_,none⟩) (by first|exact Nat.ne_of_lt (Nat.lt_of_lt_of_le (by have:=World.block_lt_of_cell? _ _ hw230_0;first|rwa [add_block] at this|exact this) GW235.1)|(rw [add_block];exact Nat.ne_of_lt (Nat.lt_of_lt_of_le (by have:=World.block_lt_of_cell? _ _ hw230_0;first|rwa [add_block] at this|exact this) GW235.1))|(show (Addr.add _ _).block ≠ _;rw [add_block];exact Nat.ne_of_lt (Nat.lt_of_lt_of_le (by have:=World.block_lt_of_cell? _ _ hw230_0;first|rwa [add_block] at this|exact this) GW235.1))|(dsimp only;exact Nat.ne_of_lt (Nat.lt_of_lt_of_le (by have:=World.block_lt_of_cell? _ _ hw230_0;first|rwa [add_block] at this|exact this) GW235.1))) _).trans (((cF (p:=⟨G235,_,none⟩) (by first|exact Nat.ne_of_lt (Nat.lt_of_lt_of_le (by have:=World.block_lt_of_cell? _ _ hw230_0;first|rwa [add_block] at this|exact this) GW235.1)|(rw [add_block];exact Nat.ne_of_lt (Nat.lt_of_lt_of_le (by have:=World.block_lt_of_cell? _ _ hw230_0;first|rwa [add_block] at this|exact this) GW235.1))|(show (Addr.add _ _).block ≠ _;rw [add_block];exact Nat.ne_of_lt (Nat.lt_of_lt_of_le (by have:=World.block_lt_of_cell? _ _ hw230_0;first|rwa [add_block] at this|exact this) GW235.1))|(dsimp only;exact Nat.ne_of_lt (Nat.lt_of_lt_of_le (by have:=World.block_lt_of_cell? _ _ hw230_0;first|rwa [add_block] at this|exact this) GW235.1))) _).trans (hHeld.2.2.2))))))⟩ (fun hHeld => ?_)
        clear hK K
        refine pure_ (i:=11) (N:=some 10) (v:=?_) (a':=?_) #[true,true,true,true,true,true,true,true,true,true,true,true] rfl rfl (any_of HT_.out (by kernel_rfl)) (fun _ _ _ h => h) (Or.inl ⟨by rfl,?_⟩) ?_ ?_
        rotate_left
        ·intro w'
         go_simp
         with_reducible rfl
        rotate_left
        ·simp only [Act.put,List.setIfInBounds_toArray,List.set_cons_zero,List.set_cons_succ,i64_w,i32_w]
         rfl
        refine done_ (done_of HT_.out (by kernel_rfl)) ?_
        have hnb45:=NB235_225.1
        have hnc45:=NB225_235.1
        have hnb46:=NB235_229.1
        have hnc46:=NB229_235.1
        have hcz47_0 : w41.cell? ⟨G235,0,none⟩ = some (.int .i64 0):=(bC K235.1 0).trans rfl
        have hcz47_1 : w41.cell? ⟨G235,1,none⟩ = some (.float .f64 0):=(bC K235.1 1).trans rfl
        have hcz47_2 : w41.cell? ⟨G235,2,none⟩ = some (.float .f64 0):=(bC K235.1 2).trans rfl
        have hfz47_0:=bF K235.1 0
        have hfz47_1:=bF K235.1 1
        have hfz47_2:=bF K235.1 2
        have hnb48:=NB229_225.1
        have hnc48:=NB225_229.1
        have hcz49_0 : w41.cell? ⟨G229,0,none⟩ = some (.int .i64 x230000_1):=(bC K229.1 0).trans rfl
        have hcz49_1 : w41.cell? ⟨G229,1,none⟩ = some (.float .f64 x230001_1):=(bC K229.1 1).trans rfl
        have hcz49_2 : w41.cell? ⟨G229,2,none⟩ = some (.float .f64 x230002_1):=(bC K229.1 2).trans rfl
        have hfz49_0:=bF K229.1 0
        have hfz49_1:=bF K229.1 1
        have hfz49_2:=bF K229.1 2
        try go_wp2_with (first|((with_reducible refine gate_store (t:=24) (p:=5) rfl ?_);refine store_event (t:=24) (p:=5) (v:=?vo_w50) (w1:=((((((w41.setCell ⟨G235,0,none⟩ (.int .i64 t231)).setCell ⟨G235,1,none⟩ (.float .f64 t232)).setCell ⟨G235,2,none⟩ (.float .f64 t233)).setCell ⟨G229,0,none⟩ (.int .i64 t231)).setCell ⟨G229,1,none⟩ (.float .f64 t232)).setCell ⟨G229,2,none⟩ (.float .f64 t233))) ?hg ?ho ?hn ?hr ?_;(case ho => rfl);(case hg => rfl);(case hn => rfl);(case hr => first|(go_simp;done)|(go_simp;rfl));intro w50 hw;have n0_ : Aside0 (Kd.R Kd.float64 22 w50 w.heap.size (fun _ => True) u6 x6_1):=⟨(by rw [hw];exact (by (with_reducible repeat (first|apply Kd.R_alloc|apply Kd.R_drewN|apply Kd.R_drew));exact Kd.R_mono (Kd.R_far (p:=⟨G229,2,none⟩) (Kd.R_far (p:=⟨G229,1,none⟩) (Kd.R_far (p:=⟨G229,0,none⟩) (Kd.R_far (p:=⟨G235,2,none⟩) (Kd.R_far (p:=⟨G235,1,none⟩) (Kd.R_far (p:=⟨G235,0,none⟩) (Kd.R_types (Kd.R_types HO_6.out K235.1 (by decide)) K229.1 (by decide)) (fun _ hk => hk.1.2) (.int .i64 t231)) (fun _ hk => hk.1.2) (.float .f64 t232)) (fun _ hk => hk.1.2) (.float .f64 t233)) (fun _ hk => hk.2) (.int .i64 t231)) (fun _ hk => hk.2) (.float .f64 t232)) (fun _ hk => hk.2) (.float .f64 t233)) (fun _ hk => trivial)))⟩;have n1_ : Aside0 (w50.heap[G225]? = some (.cells #[.int .i64 0,.float .f64 0,.float .f64 0] 24 (0,0))):=⟨(by rw [hw];exact (by (with_reducible repeat first|apply bN|apply bD|apply bA);refine bZ ?_ NB225_229.1 _;(with_reducible repeat first|apply bN|apply bD|apply bA);refine bZ ?_ NB225_229.1 _;(with_reducible repeat first|apply bN|apply bD|apply bA);refine bZ ?_ NB225_229.1 _;(with_reducible repeat first|apply bN|apply bD|apply bA);refine bZ ?_ NB225_235.1 _;(with_reducible repeat first|apply bN|apply bD|apply bA);refine bZ ?_ NB225_235.1 _;(with_reducible repeat first|apply bN|apply bD|apply bA);refine bZ ?_ NB225_235.1 _;(with_reducible repeat first|apply bN|apply bD|apply bA);exact K225.1))⟩;have n2_ : Aside0 (w50.heap[G229]? = some (.cells #[.int .i64 t231,.float .f64 t232,.float .f64 t233] 24 (0,0))):=⟨(by rw [hw];exact (by (with_reducible repeat first|apply bN|apply bD|apply bA);refine blk_put (cs:=#[.int .i64 t231,.float .f64 t232,.float .f64 x230002_1]) ?_ 2 _ rfl;(with_reducible repeat first|apply bN|apply bD|apply bA);refine blk_put (cs:=#[.int .i64 t231,.float .f64 x230001_1,.float .f64 x230002_1]) ?_ 1 _ rfl;(with_reducible repeat first|apply bN|apply bD|apply bA);refine blk_put (cs:=#[.int .i64 x230000_1,.float .f64 x230001_1,.float .f64 x230002_1]) ?_ 0 _ rfl;(with_reducible repeat first|apply bN|apply bD|apply bA);refine bZ ?_ NB229_235.1 _;(with_reducible repeat first|apply bN|apply bD|apply bA);refine bZ ?_ NB229_235.1 _;(with_reducible repeat first|apply bN|apply bD|apply bA);refine bZ ?_ NB229_235.1 _;(with_reducible repeat first|apply bN|apply bD|apply bA);exact K229.1))⟩;have n3_ : Aside0 (w50.heap[G235]? = some (.cells #[.int .i64 t231,.float .f64 t232,.float .f64 t233] 24 (0,0))):=⟨(by rw [hw];exact (by (with_reducible repeat first|apply bN|apply bD|apply bA);refine bZ ?_ NB235_229.1 _;(with_reducible repeat first|apply bN|apply bD|apply bA);refine bZ ?_ NB235_229.1 _;(with_reducible repeat first|apply bN|apply bD|apply bA);refine bZ ?_ NB235_229.1 _;(with_reducible repeat first|apply bN|apply bD|apply bA);refine blk_put (cs:=#[.int .i64 t231,.float .f64 t232,.float .f64 0]) ?_ 2 _ rfl;(with_reducible repeat first|apply bN|apply bD|apply bA);refine blk_put (cs:=#[.int .i64 t231,.float .f64 0,.float .f64 0]) ?_ 1 _ rfl;(with_reducible repeat first|apply bN|apply bD|apply bA);refine blk_put (cs:=#[.int .i64 0,.float .f64 0,.float .f64 0]) ?_ 0 _ rfl;(with_reducible repeat first|apply bN|apply bD|apply bA);exact K235.1))⟩;have n4_ : Aside0 (Below w.heap.size w w50):=⟨(by rw [hw];exact (by repeat (first|(with_reducible first|exact HB.1|apply bwA|apply bwN|apply bw1|refine bS ?_ GE225.1|refine bS ?_ GE229.1|refine bS ?_ GE235.1)|exact HB.1)))⟩;clear hw;clear HO_6;clear K225;clear K229;clear K235;clear HB;have HO_6:=n0_;have K225:=n1_;have K229:=n2_;have K235:=n3_;have HB:=n4_;clear n0_ n1_ n2_ n3_ n4_;have hcz51_0 : w50.cell? ⟨G229,0,none⟩ = some (.int .i64 t231):=(bC K229.1 0).trans rfl;have hcz51_1 : w50.cell? ⟨G229,1,none⟩ = some (.float .f64 t232):=(bC K229.1 1).trans rfl;have hcz51_2 : w50.cell? ⟨G229,2,none⟩ = some (.float .f64 t233):=(bC K229.1 2).trans rfl;have hfz51_0:=bF K229.1 0;have hfz51_1:=bF K229.1 1;have hfz51_2:=bF K229.1 2)|((with_reducible refine gate_callee (f:=20) rfl ?_);refine goesL_ (some 37) rfl rfl Try.func20 (by kernel_rfl) rfl #[.agg #[.int .i64 t231,.float .f64 t232,.float .f64 t233]] rfl (by (try simp only [List.map_toArray,List.map_cons,List.map_nil]);first|done|rfl|(simp only [List.length_drop,List.length_take];rfl)) ?_;(with_reducible refine (beaconref05_Cost.calls k1 t231 t232 t233 t236 t237 _ A13.out).mono ?_);rintro e w52 ⟨rfl,hb⟩;refine ⟨_,rfl,?_⟩;have n0_:=Aside0.mk (Kd.R_below (by (with_reducible repeat (first|apply Kd.R_alloc|apply Kd.R_drewN|apply Kd.R_drew));exact HO_6.out) hb);have n1_:=Aside0.mk (bB (g:=G225) (o:=.cells #[.int .i64 0,.float .f64 0,.float .f64 0] 24 (0,0)) (by (with_reducible repeat first|apply bN|apply bD|apply bA);exact K225.1) hb);have n2_:=Aside0.mk (bB (g:=G229) (o:=.cells #[.int .i64 t231,.float .f64 t232,.float .f64 t233] 24 (0,0)) (by (with_reducible repeat first|apply bN|apply bD|apply bA);exact K229.1) hb);have n3_:=Aside0.mk (bB (g:=G235) (o:=.cells #[.int .i64 t231,.float .f64 t232,.float .f64 t233] 24 (0,0)) (by (with_reducible repeat first|apply bN|apply bD|apply bA);exact K235.1) hb);have n4_:=Aside0.mk (below_step (by repeat (first|(with_reducible first|exact HB.1|apply bwA|apply bwN|apply bw1|refine bS ?_ GE225.1|refine bS ?_ GE229.1|refine bS ?_ GE235.1)|exact HB.1)) hb);clear HO_6;clear K225;clear K229;clear K235;clear HB;have HO_6:=n0_;have K225:=n1_;have K229:=n2_;have K235:=n3_;have HB:=n4_;clear n0_ n1_ n2_ n3_ n4_;(try clear hb);(try clear hb2);(try clear hk);(try clear hi);obtain ⟨Ao53,co53,eo53⟩:=Kd.R_slice HO_6.out;subst eo53)|((with_reducible refine gate_builtin (b:=.append) (xs:=#[.tmp 54,.tmp 56]) rfl ?_);at_builtin;refine Kd.R_append Kd.float64 (w0:=w) w.heap.size rfl (.tmp 54) (.tmp 56) 38 22 (.float .f64 0) 8 rfl Try.underlying38 info22 rfl (by decide) (by omega) (.slice Ao53 x6_1.length co53) x6_1 t236 [.float .f64 t236] (fun _ => True) (fun _ => False) rfl rfl ?aP (fun _ hk => hk.elim) ?aF ?aO ?aB ?aS ?aL ?_;(case aP => exact rfl);(case aB => exact (by repeat (first|(with_reducible first|exact HB.1|apply bwA|apply bwN|apply bw1|refine bS ?_ GE225.1|refine bS ?_ GE229.1|refine bS ?_ GE235.1)|exact HB.1)));(case aF => exact (fun _ _ => trivial));(case aO => exact (by (with_reducible repeat (first|apply Kd.R_alloc|apply Kd.R_drewN|apply Kd.R_drew));exact HO_6.out));(case aS => exact (below_size (by repeat (first|(with_reducible first|exact HB.1|apply bwA|apply bwN|apply bw1|refine bS ?_ GE225.1|refine bS ?_ GE229.1|refine bS ?_ GE235.1)|exact HB.1))));(case aL => have:=LMc37.out;omega);intro v245 w54 ho hb hg hat;rw [← Ny244.out] at ho;have n0_:=Aside0.mk (blk_grown (g:=G225) (o:=.cells #[.int .i64 0,.float .f64 0,.float .f64 0] 24 (0,0)) (by (with_reducible repeat first|apply bN|apply bD|apply bA);exact K225.1) hg (Kd.R_ne HO_6.out K225.1 (by decide)));have n1_:=Aside0.mk (blk_grown (g:=G229) (o:=.cells #[.int .i64 t231,.float .f64 t232,.float .f64 t233] 24 (0,0)) (by (with_reducible repeat first|apply bN|apply bD|apply bA);exact K229.1) hg (Kd.R_ne HO_6.out K229.1 (by decide)));have n2_:=Aside0.mk (blk_grown (g:=G235) (o:=.cells #[.int .i64 t231,.float .f64 t232,.float .f64 t233] 24 (0,0)) (by (with_reducible repeat first|apply bN|apply bD|apply bA);exact K235.1) hg (Kd.R_ne HO_6.out K235.1 (by decide)));have n3_:=Aside0.mk (hb);have n4_:=Aside0.mk (ho);clear K225;clear K229;clear K235;clear HB;clear HO_6;have K225:=n0_;have K229:=n1_;have K235:=n2_;have HB:=n3_;have HO246:=n4_;clear n0_ n1_ n2_ n3_ n4_;clear ho hb hg hat))
        go_roundg k1
        case measure => have:=HK1.out;omega
        case rel => exact ⟨(y244),(x7_1),(wrap64 (x8_1 + 1)),(t231),(t232),(t233),(by first|rfl|(simp;done)|(simp [*];done)),(by first|rfl|(simp;done)|(simp [*];done)),H',⟨by have:=HK1.out;omega⟩,⟨by (with_reducible repeat (first|apply Kd.R_alloc|apply Kd.R_drewN|apply Kd.R_drew));exact HO246.out⟩,⟨by (with_reducible repeat first|apply bN|apply bD|apply bA);exact K225.1⟩,⟨by (with_reducible repeat first|apply bN|apply bD|apply bA);exact K229.1⟩,⟨by repeat (first|(with_reducible first|exact HB.1|apply bwA|apply bwN|apply bw1|refine bS ?_ GE225.1|refine bS ?_ GE229.1|refine bS ?_ GE235.1)|exact HB.1)⟩⟩
       ·rw [if_neg c37] at H
        exact absurd H (by simp)
     ·rw [if_neg c12] at H
      have c12b0 : (t234 == 0) = false:=beq_eq_false_iff_ne.mpr c12
      have c12b1 : (t234 != 0) = true:=bne_iff_ne.mpr c12
      have H':=Aside0.mk H
      clear H
      try go_wp2
      have n0_:=Aside0.mk (Kd.R_drew HO_6.out)
      have n1_:=Aside0.mk (bD K225.1)
      have n2_:=Aside0.mk (bD K229.1)
      have n3_:=Aside0.mk (bw1 HB.1)
      clear HO_6
      clear K225
      clear K229
      clear HB
      have HO_6:=n0_
      have K225:=n1_
      have K229:=n2_
      have HB:=n3_
      clear n0_ n1_ n2_ n3_
      have p230 : 0 ≤ (x8_1 : Int):=of_decide_eq_true (by first|(with_reducible assumption)|assumption)
      have q230 : x8_1 < (l0.length : Int):=of_decide_eq_true (by first|(with_reducible assumption)|assumption)
      obtain ⟨ad230,e230,hx230_0⟩:=Kd.at_float64 HR0.out x8_1 p230 q230
      have hw230_0:=hx230_0
      cases e230
      replace hx230_0:=(HB.1.cell (World.block_lt_of_cell? w _ hx230_0)).trans hx230_0
      replace p230:=eq_true p230
      replace q230:=eq_true q230
      refine start_ (n:=12) (S:=fun w' => w'.cell? ⟨G229,0,none⟩ = some (.int .i64 x230000_1) ∧ w'.cell? ⟨G229,1,none⟩ = some (.float .f64 x230001_1) ∧ w'.cell? ⟨G229,2,none⟩ = some (.float .f64 x230002_1) ∧ w'.cell? (ad230.add (x8_1).toNat) = some (.float .f64 (rdOf (0 : Nat) l0 x8_1))) (ds:=[]) #[false,false,false,false,false,false,false,false,false,false,false,false] (by kernel_rfl) rfl rfl ⟨(bC K229.1 0).trans rfl,(bC K229.1 1).trans rfl,(bC K229.1 2).trans rfl,((HB.1.cell (World.block_lt_of_cell? w _ hw230_0)).trans hw230_0)⟩ (fun hHeld => ?_);refine with_tabW beaconref05_Run.tab5 beaconref05_Run.bits5 (fun HT_ HW_ => ?_)
      generalize wr.drew = w55 at HO_6 K225 K229 HB hx230_0 hHeld ⊢
      refine pure_ (i:=1) (N:=some 23) (v:=?_) (a':=?_) #[false,true,false,false,false,false,false,false,false,false,false,false] rfl rfl (any_of HT_.out (by kernel_rfl)) (fun _ _ _ h => h) (Or.inl ⟨by rfl,?_⟩) ?_ ?_
      rotate_left
      ·intro w'
       go_simp
       with_reducible rfl
      rotate_left
      ·simp only [Act.put,List.setIfInBounds_toArray,List.set_cons_zero,List.set_cons_succ,i64_w,i32_w]
       rfl
      refine pure_ (i:=2) (N:=some 24) (v:=?_) (a':=?_) #[false,true,true,false,false,false,false,false,false,false,false,false] rfl rfl (any_of HT_.out (by kernel_rfl)) (fun _ _ _ h => h) (Or.inl ⟨by rfl,?_⟩) ?_ ?_
      rotate_left
      ·intro w'
       go_simp
       with_reducible rfl
      rotate_left
      ·simp only [Act.put,List.setIfInBounds_toArray,List.set_cons_zero,List.set_cons_succ,i64_w,i32_w]
       rfl
      refine pure_ (i:=3) (N:=some 25) (v:=?_) (a':=?_) #[false,true,true,true,false,false,false,false,false,false,false,false] rfl rfl (any_of HT_.out (by kernel_rfl)) (fun _ _ _ h => h) (Or.inl ⟨by rfl,?_⟩) ?_ ?_
      rotate_left
      ·intro w'
       go_simp
       with_reducible rfl
      rotate_left
      ·simp only [Act.put,List.setIfInBounds_toArray,List.set_cons_zero,List.set_cons_succ,i64_w,i32_w]
       rfl
      refine take_ (i:=0) (N:=some 22) (v:=?_) (a':=?_) #[true,true,true,true,false,false,false,false,false,false,false,false] rfl rfl (take_ofW HT_.out HW_.out (by kernel_rfl)) (fun _ _ _ h => h) (Or.inl ⟨by rfl,?_⟩) hHeld ?_ ?_
      rotate_left
      ·rintro w' ⟨s0,s1,s2,s3⟩
       go_simp
       with_reducible rfl
      rotate_left
      ·simp only [Act.put,List.setIfInBounds_toArray,List.set_cons_zero,List.set_cons_succ,i64_w,i32_w]
       rfl
      refine take_ (i:=4) (N:=some 26) (v:=?_) (a':=?_) #[true,true,true,true,true,false,false,false,false,false,false,false] rfl rfl (take_ofW HT_.out HW_.out (by kernel_rfl)) (fun _ _ _ h => h) (Or.inl ⟨by rfl,?_⟩) hHeld ?_ ?_
      rotate_left
      ·rintro w' ⟨s0,s1,s2,s3⟩
       go_simp
       with_reducible rfl
      rotate_left
      ·simp only [Act.put,List.setIfInBounds_toArray,List.set_cons_zero,List.set_cons_succ,i64_w,i32_w]
       rfl
      refine join_ (σ:=Nat) 2 #[true,true,true,true,true,true,true,true,true,true,false,false] (fun s_ => [(27,.tuple #[.agg #[.int .i64 t231,.float .f64 t232,.float .f64 t233],.int .i64 t234]),(9,.pointer (some ⟨s_,0,none⟩)),(21,.tuple #[.agg #[.int .i64 t231,.float .f64 t232,.float .f64 t233],.int .i64 t234]),(28,.agg #[.int .i64 t231,.float .f64 t232,.float .f64 t233]),(29,.int .i64 t234)]) (fun s_ w' => (w'.cell? ⟨G229,0,none⟩ = some (.int .i64 x230000_1) ∧ w'.cell? ⟨G229,1,none⟩ = some (.float .f64 x230001_1) ∧ w'.cell? ⟨G229,2,none⟩ = some (.float .f64 x230002_1) ∧ w'.cell? (ad230.add (x8_1).toNat) = some (.float .f64 (rdOf (0 : Nat) l0 x8_1))) ∧ (Kd.R Kd.float64 22 w' w.heap.size (fun _ => True) u6 x6_1) ∧ (w'.heap[G225]? = some (.cells #[.int .i64 0,.float .f64 0,.float .f64 0] 24 (0,0))) ∧ (w'.heap[G229]? = some (.cells #[.int .i64 x230000_1,.float .f64 x230001_1,.float .f64 x230002_1] 24 (0,0))) ∧ (w'.heap[s_]? = some (.cells #[.int .i64 0,.float .f64 0,.float .f64 0] 24 (0,0))) ∧ (w.heap.size ≤ s_) ∧ (w.heap.size ≤ s_) ∧ (G225 ≠ s_) ∧ (s_ ≠ G225) ∧ (G229 ≠ s_) ∧ (s_ ≠ G229) ∧ (Below w.heap.size w w')) ?_ ?_
      rotate_left
      ·intro hCont
       refine two_ (i:=5) (j:=9) (Ni:=some 27) (Nj:=some 9) #[true,true,true,true,true,true,false,false,false,false,false,false] #[true,true,true,true,true,false,false,false,false,true,false,false] rfl rfl rfl rfl (two_of HT_.out (by kernel_rfl)) (by decide) (by decide) (fun K hK => ?_) (fun K hK => ?_)
       ·skip
        refine goes_ Try.func10 (by kernel_rfl) rfl #[.agg #[.int .i64 x230000_1,.float .f64 x230001_1,.float .f64 x230002_1],.float .f64 (rdOf (0 : Nat) l0 x8_1)] (by rfl) rfl rfl (by (try simp only [List.map_toArray,List.map_cons,List.map_nil]);first|done|rfl|(simp only [List.length_drop,List.length_take];rfl)) ?_
        with_reducible refine (beaconref05_Feed.calls k1 x230000_1 x230001_1 x230002_1 (rdOf (0 : Nat) l0 x8_1) t231 t232 t233 t234 _ A11.out).mono ?_
        rintro e w56 ⟨rfl,hb⟩
        refine ⟨_,rfl,?_⟩
        have n0_:=Aside0.mk (Kd.R_below (by (with_reducible repeat (first|apply Kd.R_alloc|apply Kd.R_drewN|apply Kd.R_drew));exact HO_6.out) hb)
        have n1_:=Aside0.mk (bB (g:=G225) (o:=.cells #[.int .i64 0,.float .f64 0,.float .f64 0] 24 (0,0)) (by (with_reducible repeat first|apply bN|apply bD|apply bA);exact K225.1) hb)
        have n2_:=Aside0.mk (bB (g:=G229) (o:=.cells #[.int .i64 x230000_1,.float .f64 x230001_1,.float .f64 x230002_1] 24 (0,0)) (by (with_reducible repeat first|apply bN|apply bD|apply bA);exact K229.1) hb)
        have n3_:=Aside0.mk (below_step (by repeat (first|(with_reducible first|exact HB.1|apply bwA|apply bwN|apply bw1|refine bS ?_ GE225.1|refine bS ?_ GE229.1)|exact HB.1)) hb)
        clear HO_6
        clear K225
        clear K229
        clear HB
        have HO_6:=n0_
        have K225:=n1_
        have K229:=n2_
        have HB:=n3_
        clear n0_ n1_ n2_ n3_
        (try clear hb)
        (try clear hb2)
        (try clear hk)
        (try clear hi)
        refine hK.out _ _ ⟨(bC K229.1 0).trans rfl,(bC K229.1 1).trans rfl,(bC K229.1 2).trans rfl,((HB.1.cell (World.block_lt_of_cell? w _ hw230_0)).trans hw230_0)⟩ (fun hHeld => ?_)
        clear hK K
        refine norm_ (a':=?_) ?_ ?_
        rotate_left
        ·show Act.put _ (some 27) _ = _
         simp only [Act.put,List.setIfInBounds_toArray,List.set_cons_zero,List.set_cons_succ,i64_w,i32_w]
         rfl
        refine pure_ (i:=6) (N:=some 21) (v:=?_) (a':=?_) #[true,true,true,true,true,true,true,false,false,false,false,false] rfl rfl (any_of HT_.out (by kernel_rfl)) (fun _ _ _ h => h) (Or.inl ⟨by rfl,?_⟩) ?_ ?_
        rotate_left
        ·intro w'
         go_simp
         with_reducible rfl
        rotate_left
        ·simp only [Act.put,List.setIfInBounds_toArray,List.set_cons_zero,List.set_cons_succ,i64_w,i32_w]
         rfl
        refine pure_ (i:=7) (N:=some 28) (v:=?_) (a':=?_) #[true,true,true,true,true,true,true,true,false,false,false,false] rfl rfl (any_of HT_.out (by kernel_rfl)) (fun _ _ _ h => h) (Or.inl ⟨by rfl,?_⟩) ?_ ?_
        rotate_left
        ·intro w'
         go_simp
         with_reducible rfl
        rotate_left
        ·simp only [Act.put,List.setIfInBounds_toArray,List.set_cons_zero,List.set_cons_succ,i64_w,i32_w]
         rfl
        refine pure_ (i:=8) (N:=some 29) (v:=?_) (a':=?_) #[true,true,true,true,true,true,true,true,true,false,false,false] rfl rfl (any_of HT_.out (by kernel_rfl)) (fun _ _ _ h => h) (Or.inl ⟨by rfl,?_⟩) ?_ ?_
        rotate_left
        ·intro w'
         go_simp
         with_reducible rfl
        rotate_left
        ·simp only [Act.put,List.setIfInBounds_toArray,List.set_cons_zero,List.set_cons_succ,i64_w,i32_w]
         rfl
        refine one_ (i:=9) (N:=some 9) #[true,true,true,true,true,true,true,true,true,true,false,false] rfl rfl (one_of HT_.out (by kernel_rfl)) (by decide) (fun K hK => ?_)
        refine box_step ?hg (N:=9) ?hd (cs:=#[.int .i64 0,.float .f64 0,.float .f64 0]) (t:=24) ?hr ?_;(case hd => rfl);(case hg => rfl);(case hr => first|(go_simp;done)|(go_simp;rfl))
        intro G235 hg w57 hbox hb
        have n0_:=Aside0.mk (Kd.R_below (by (with_reducible repeat (first|apply Kd.R_alloc|apply Kd.R_drewN|apply Kd.R_drew));exact HO_6.out) hb)
        have n1_:=Aside0.mk (bB (g:=G225) (o:=.cells #[.int .i64 0,.float .f64 0,.float .f64 0] 24 (0,0)) (by (with_reducible repeat first|apply bN|apply bD|apply bA);exact K225.1) hb)
        have n2_:=Aside0.mk (bB (g:=G229) (o:=.cells #[.int .i64 x230000_1,.float .f64 x230001_1,.float .f64 x230002_1] 24 (0,0)) (by (with_reducible repeat first|apply bN|apply bD|apply bA);exact K229.1) hb)
        have n3_:=Aside0.mk (below_step (by repeat (first|(with_reducible first|exact HB.1|apply bwA|apply bwN|apply bw1|refine bS ?_ GE225.1|refine bS ?_ GE229.1)|exact HB.1)) hb)
        have n4_:=Aside0.mk (hbox)
        have n5_:=Aside0.mk ((by rw [hg];exact (below_size (by repeat (first|(with_reducible first|exact HB.1|apply bwA|apply bwN|apply bw1|refine bS ?_ GE225.1|refine bS ?_ GE229.1)|exact HB.1))) : w.heap.size ≤ G235))
        have n6_:=Aside0.mk ((by rw [hg];exact (below_size (by repeat (first|(with_reducible first|exact HB.1|apply bwA|apply bwN|apply bw1|refine bS ?_ GE225.1|refine bS ?_ GE229.1)|exact HB.1))) : w.heap.size ≤ G235))
        have n7_:=Aside0.mk ((by rw [hg];exact Nat.ne_of_lt (blk_lt (g:=G225) (o:=.cells #[.int .i64 0,.float .f64 0,.float .f64 0] 24 (0,0)) (by (with_reducible repeat first|apply bN|apply bD|apply bA);exact K225.1)) : G225 ≠ G235))
        have n8_:=Aside0.mk ((by rw [hg];exact Nat.ne_of_gt (blk_lt (g:=G225) (o:=.cells #[.int .i64 0,.float .f64 0,.float .f64 0] 24 (0,0)) (by (with_reducible repeat first|apply bN|apply bD|apply bA);exact K225.1)) : G235 ≠ G225))
        have n9_:=Aside0.mk ((by rw [hg];exact Nat.ne_of_lt (blk_lt (g:=G229) (o:=.cells #[.int .i64 x230000_1,.float .f64 x230001_1,.float .f64 x230002_1] 24 (0,0)) (by (with_reducible repeat first|apply bN|apply bD|apply bA);exact K229.1)) : G229 ≠ G235))
        have n10_:=Aside0.mk ((by rw [hg];exact Nat.ne_of_gt (blk_lt (g:=G229) (o:=.cells #[.int .i64 x230000_1,.float .f64 x230001_1,.float .f64 x230002_1] 24 (0,0)) (by (with_reducible repeat first|apply bN|apply bD|apply bA);exact K229.1)) : G235 ≠ G229))
        clear HO_6
        clear K225
        clear K229
        clear HB
        have HO_6:=n0_
        have K225:=n1_
        have K229:=n2_
        have HB:=n3_
        have K235:=n4_
        have GW235:=n5_
        have GE235:=n6_
        have NB225_235:=n7_
        have NB235_225:=n8_
        have NB229_235:=n9_
        have NB235_229:=n10_
        clear n0_ n1_ n2_ n3_ n4_ n5_ n6_ n7_ n8_ n9_ n10_
        clear hb hbox hg
        refine hK.out _ _ ⟨(bC K229.1 0).trans rfl,(bC K229.1 1).trans rfl,(bC K229.1 2).trans rfl,((HB.1.cell (World.block_lt_of_cell? w _ hw230_0)).trans hw230_0)⟩ (fun hHeld => ?_)
        clear hK K
        refine norm_ (a':=?_) ?_ ?_
        rotate_left
        ·show Act.put _ (some 9) _ = _
         simp only [Act.put,List.setIfInBounds_toArray,List.set_cons_zero,List.set_cons_succ,i64_w,i32_w]
         rfl
        exact norm_ (by simp only [putAll,Act.put,List.setIfInBounds_toArray,List.set_cons_zero,List.set_cons_succ]) (hCont (G235) _ ⟨hHeld,(by (with_reducible repeat (first|apply Kd.R_alloc|apply Kd.R_drewN|apply Kd.R_drew));exact HO_6.out),(by (with_reducible repeat first|apply bN|apply bD|apply bA);exact K225.1),(by (with_reducible repeat first|apply bN|apply bD|apply bA);exact K229.1),(by (with_reducible repeat first|apply bN|apply bD|apply bA);exact K235.1),GW235.1,GE235.1,NB225_235.1,NB235_225.1,NB229_235.1,NB235_229.1,(by repeat (first|(with_reducible first|exact HB.1|apply bwA|apply bwN|apply bw1|refine bS ?_ GE225.1|refine bS ?_ GE229.1|refine bS ?_ GE235.1)|exact HB.1))⟩)
       ·skip
        refine box_step ?hg (N:=9) ?hd (cs:=#[.int .i64 0,.float .f64 0,.float .f64 0]) (t:=24) ?hr ?_;(case hd => rfl);(case hg => rfl);(case hr => first|(go_simp;done)|(go_simp;rfl))
        intro G235 hg w56 hbox hb
        have n0_:=Aside0.mk (Kd.R_below (by (with_reducible repeat (first|apply Kd.R_alloc|apply Kd.R_drewN|apply Kd.R_drew));exact HO_6.out) hb)
        have n1_:=Aside0.mk (bB (g:=G225) (o:=.cells #[.int .i64 0,.float .f64 0,.float .f64 0] 24 (0,0)) (by (with_reducible repeat first|apply bN|apply bD|apply bA);exact K225.1) hb)
        have n2_:=Aside0.mk (bB (g:=G229) (o:=.cells #[.int .i64 x230000_1,.float .f64 x230001_1,.float .f64 x230002_1] 24 (0,0)) (by (with_reducible repeat first|apply bN|apply bD|apply bA);exact K229.1) hb)
        have n3_:=Aside0.mk (below_step (by repeat (first|(with_reducible first|exact HB.1|apply bwA|apply bwN|apply bw1|refine bS ?_ GE225.1|refine bS ?_ GE229.1)|exact HB.1)) hb)
        have n4_:=Aside0.mk (hbox)
        have n5_:=Aside0.mk ((by rw [hg];exact (below_size (by repeat (first|(with_reducible first|exact HB.1|apply bwA|apply bwN|apply bw1|refine bS ?_ GE225.1|refine bS ?_ GE229.1)|exact HB.1))) : w.heap.size ≤ G235))
        have n6_:=Aside0.mk ((by rw [hg];exact (below_size (by repeat (first|(with_reducible first|exact HB.1|apply bwA|apply bwN|apply bw1|refine bS ?_ GE225.1|refine bS ?_ GE229.1)|exact HB.1))) : w.heap.size ≤ G235))
        have n7_:=Aside0.mk ((by rw [hg];exact Nat.ne_of_lt (blk_lt (g:=G225) (o:=.cells #[.int .i64 0,.float .f64 0,.float .f64 0] 24 (0,0)) (by (with_reducible repeat first|apply bN|apply bD|apply bA);exact K225.1)) : G225 ≠ G235))
        have n8_:=Aside0.mk ((by rw [hg];exact Nat.ne_of_gt (blk_lt (g:=G225) (o:=.cells #[.int .i64 0,.float .f64 0,.float .f64 0] 24 (0,0)) (by (with_reducible repeat first|apply bN|apply bD|apply bA);exact K225.1)) : G235 ≠ G225))
        have n9_:=Aside0.mk ((by rw [hg];exact Nat.ne_of_lt (blk_lt (g:=G229) (o:=.cells #[.int .i64 x230000_1,.float .f64 x230001_1,.float .f64 x230002_1] 24 (0,0)) (by (with_reducible repeat first|apply bN|apply bD|apply bA);exact K229.1)) : G229 ≠ G235))
        have n10_:=Aside0.mk ((by rw [hg];exact Nat.ne_of_gt (blk_lt (g:=G229) (o:=.cells #[.int .i64 x230000_1,.float .f64 x230001_1,.float .f64 x230002_1] 24 (0,0)) (by (with_reducible repeat first|apply bN|apply bD|apply bA);exact K229.1)) : G235 ≠ G229))
        clear HO_6
        clear K225
        clear K229
        clear HB
        have HO_6:=n0_
        have K225:=n1_
        have K229:=n2_
        have HB:=n3_
        have K235:=n4_
        have GW235:=n5_
        have GE235:=n6_
        have NB225_235:=n7_
        have NB235_225:=n8_
        have NB229_235:=n9_
        have NB235_229:=n10_
        clear n0_ n1_ n2_ n3_ n4_ n5_ n6_ n7_ n8_ n9_ n10_
        clear hb hbox hg
        refine hK.out _ _ ⟨(bC K229.1 0).trans rfl,(bC K229.1 1).trans rfl,(bC K229.1 2).trans rfl,((HB.1.cell (World.block_lt_of_cell? w _ hw230_0)).trans hw230_0)⟩ (fun hHeld => ?_)
        clear hK K
        refine norm_ (a':=?_) ?_ ?_
        rotate_left
        ·show Act.put _ (some 9) _ = _
         simp only [Act.put,List.setIfInBounds_toArray,List.set_cons_zero,List.set_cons_succ,i64_w,i32_w]
         rfl
        refine one_ (i:=5) (N:=some 27) #[true,true,true,true,true,true,false,false,false,true,false,false] rfl rfl (one_of HT_.out (by kernel_rfl)) (by decide) (fun K hK => ?_)
        refine goes_ Try.func10 (by kernel_rfl) rfl #[.agg #[.int .i64 x230000_1,.float .f64 x230001_1,.float .f64 x230002_1],.float .f64 (rdOf (0 : Nat) l0 x8_1)] (by rfl) rfl rfl (by (try simp only [List.map_toArray,List.map_cons,List.map_nil]);first|done|rfl|(simp only [List.length_drop,List.length_take];rfl)) ?_
        with_reducible refine (beaconref05_Feed.calls k1 x230000_1 x230001_1 x230002_1 (rdOf (0 : Nat) l0 x8_1) t231 t232 t233 t234 _ A11.out).mono ?_
        rintro e w57 ⟨rfl,hb⟩
        refine ⟨_,rfl,?_⟩
        have n0_:=Aside0.mk (Kd.R_below (by (with_reducible repeat (first|apply Kd.R_alloc|apply Kd.R_drewN|apply Kd.R_drew));exact HO_6.out) hb)
        have n1_:=Aside0.mk (bB (g:=G225) (o:=.cells #[.int .i64 0,.float .f64 0,.float .f64 0] 24 (0,0)) (by (with_reducible repeat first|apply bN|apply bD|apply bA);exact K225.1) hb)
        have n2_:=Aside0.mk (bB (g:=G229) (o:=.cells #[.int .i64 x230000_1,.float .f64 x230001_1,.float .f64 x230002_1] 24 (0,0)) (by (with_reducible repeat first|apply bN|apply bD|apply bA);exact K229.1) hb)
        have n3_:=Aside0.mk (bB (g:=G235) (o:=.cells #[.int .i64 0,.float .f64 0,.float .f64 0] 24 (0,0)) (by (with_reducible repeat first|apply bN|apply bD|apply bA);exact K235.1) hb)
        have n4_:=Aside0.mk (below_step (by repeat (first|(with_reducible first|exact HB.1|apply bwA|apply bwN|apply bw1|refine bS ?_ GE225.1|refine bS ?_ GE229.1|refine bS ?_ GE235.1)|exact HB.1)) hb)
        clear HO_6
        clear K225
        clear K229
        clear K235
        clear HB
        have HO_6:=n0_
        have K225:=n1_
        have K229:=n2_
        have K235:=n3_
        have HB:=n4_
        clear n0_ n1_ n2_ n3_ n4_
        (try clear hb)
        (try clear hb2)
        (try clear hk)
        (try clear hi)
        refine hK.out _ _ ⟨(bC K229.1 0).trans rfl,(bC K229.1 1).trans rfl,(bC K229.1 2).trans rfl,((HB.1.cell (World.block_lt_of_cell? w _ hw230_0)).trans hw230_0)⟩ (fun hHeld => ?_)
        clear hK K
        refine norm_ (a':=?_) ?_ ?_
        rotate_left
        ·show Act.put _ (some 27) _ = _
         simp only [Act.put,List.setIfInBounds_toArray,List.set_cons_zero,List.set_cons_succ,i64_w,i32_w]
         rfl
        refine pure_ (i:=6) (N:=some 21) (v:=?_) (a':=?_) #[true,true,true,true,true,true,true,false,false,true,false,false] rfl rfl (any_of HT_.out (by kernel_rfl)) (fun _ _ _ h => h) (Or.inl ⟨by rfl,?_⟩) ?_ ?_
        rotate_left
        ·intro w'
         go_simp
         with_reducible rfl
        rotate_left
        ·simp only [Act.put,List.setIfInBounds_toArray,List.set_cons_zero,List.set_cons_succ,i64_w,i32_w]
         rfl
        refine pure_ (i:=7) (N:=some 28) (v:=?_) (a':=?_) #[true,true,true,true,true,true,true,true,false,true,false,false] rfl rfl (any_of HT_.out (by kernel_rfl)) (fun _ _ _ h => h) (Or.inl ⟨by rfl,?_⟩) ?_ ?_
        rotate_left
        ·intro w'
         go_simp
         with_reducible rfl
        rotate_left
        ·simp only [Act.put,List.setIfInBounds_toArray,List.set_cons_zero,List.set_cons_succ,i64_w,i32_w]
         rfl
        refine pure_ (i:=8) (N:=some 29) (v:=?_) (a':=?_) #[true,true,true,true,true,true,true,true,true,true,false,false] rfl rfl (any_of HT_.out (by kernel_rfl)) (fun _ _ _ h => h) (Or.inl ⟨by rfl,?_⟩) ?_ ?_
        rotate_left
        ·intro w'
         go_simp
         with_reducible rfl
        rotate_left
        ·simp only [Act.put,List.setIfInBounds_toArray,List.set_cons_zero,List.set_cons_succ,i64_w,i32_w]
         rfl
        exact norm_ (by simp only [putAll,Act.put,List.setIfInBounds_toArray,List.set_cons_zero,List.set_cons_succ]) (hCont (G235) _ ⟨hHeld,(by (with_reducible repeat (first|apply Kd.R_alloc|apply Kd.R_drewN|apply Kd.R_drew));exact HO_6.out),(by (with_reducible repeat first|apply bN|apply bD|apply bA);exact K225.1),(by (with_reducible repeat first|apply bN|apply bD|apply bA);exact K229.1),(by (with_reducible repeat first|apply bN|apply bD|apply bA);exact K235.1),GW235.1,GE235.1,NB225_235.1,NB235_225.1,NB229_235.1,NB235_229.1,(by repeat (first|(with_reducible first|exact HB.1|apply bwA|apply bwN|apply bw1|refine bS ?_ GE225.1|refine bS ?_ GE229.1|refine bS ?_ GE235.1)|exact HB.1))⟩)
      rintro G235 w58 ⟨hS_,h0_,h1_,h2_,h3_,h4_,h5_,h6_,h7_,h8_,h9_,h10_⟩
      have n0_ : Aside0 (Kd.R Kd.float64 22 w58 w.heap.size (fun _ => True) u6 x6_1):=⟨h0_⟩
      have n1_ : Aside0 (w58.heap[G225]? = some (.cells #[.int .i64 0,.float .f64 0,.float .f64 0] 24 (0,0))):=⟨h1_⟩
      have n2_ : Aside0 (w58.heap[G229]? = some (.cells #[.int .i64 x230000_1,.float .f64 x230001_1,.float .f64 x230002_1] 24 (0,0))):=⟨h2_⟩
      have n3_ : Aside0 (w58.heap[G235]? = some (.cells #[.int .i64 0,.float .f64 0,.float .f64 0] 24 (0,0))):=⟨h3_⟩
      have n4_ : Aside0 (w.heap.size ≤ G235):=⟨h4_⟩
      have n5_ : Aside0 (w.heap.size ≤ G235):=⟨h5_⟩
      have n6_ : Aside0 (G225 ≠ G235):=⟨h6_⟩
      have n7_ : Aside0 (G235 ≠ G225):=⟨h7_⟩
      have n8_ : Aside0 (G229 ≠ G235):=⟨h8_⟩
      have n9_ : Aside0 (G235 ≠ G229):=⟨h9_⟩
      have n10_ : Aside0 (Below w.heap.size w w58):=⟨h10_⟩
      clear HO_6
      clear K225
      clear K229
      clear HB
      clear h0_ h1_ h2_ h3_ h4_ h5_ h6_ h7_ h8_ h9_ h10_
      have HO_6:=n0_
      have K225:=n1_
      have K229:=n2_
      have K235:=n3_
      have GW235:=n4_
      have GE235:=n5_
      have NB225_235:=n6_
      have NB235_225:=n7_
      have NB229_235:=n8_
      have NB235_229:=n9_
      have HB:=n10_
      clear n0_ n1_ n2_ n3_ n4_ n5_ n6_ n7_ n8_ n9_ n10_
      have hHeld : w58.cell? ⟨G229,0,none⟩ = some (.int .i64 x230000_1) ∧ w58.cell? ⟨G229,1,none⟩ = some (.float .f64 x230001_1) ∧ w58.cell? ⟨G229,2,none⟩ = some (.float .f64 x230002_1) ∧ w58.cell? (ad230.add (x8_1).toNat) = some (.float .f64 (rdOf (0 : Nat) l0 x8_1)):=hS_
      refine norm_ (a':=?_) ?_ ?_
      rotate_left
      ·simp only [putAll,Act.put,List.setIfInBounds_toArray,List.set_cons_zero,List.set_cons_succ]
       rfl
      refine one_ (i:=10) (N:=none) #[true,true,true,true,true,true,true,true,true,true,true,false] rfl rfl (one_of HT_.out (by kernel_rfl)) (by decide) (fun K hK => ?_)
      have hs59 : w58.cell? ⟨G235,0,none⟩ = some (.int .i64 0):=(bC K235.1 0).trans rfl
      have hfs59:=bF K235.1 0
      have hns59_0:=NB225_235.1
      have hns59_1:=NB229_235.1
      have hms59_0:=NB235_225.1
      have hms59_1:=NB235_229.1
      have hs60 : w58.cell? ⟨G235,1,none⟩ = some (.float .f64 0):=(bC K235.1 1).trans rfl
      have hfs60:=bF K235.1 1
      have hns60_0:=NB225_235.1
      have hns60_1:=NB229_235.1
      have hms60_0:=NB235_225.1
      have hms60_1:=NB235_229.1
      have hs61 : w58.cell? ⟨G235,2,none⟩ = some (.float .f64 0):=(bC K235.1 2).trans rfl
      have hfs61:=bF K235.1 2
      have hns61_0:=NB225_235.1
      have hns61_1:=NB229_235.1
      have hms61_0:=NB235_225.1
      have hms61_1:=NB235_229.1
      refine skip_ (w1:=?_) (by rfl) rfl ?_ ?_
      rotate_left
      ·go_simp
       rfl
      refine hK.out _ _ ⟨((cF (p:=⟨G235,_,none⟩) NB229_235.1 _).trans (((cF (p:=⟨G235,_,none⟩) NB229_235.1 _).trans (((cF (p:=⟨G235,_,none⟩) NB229_235.1 _).trans (hHeld.1)))))),((cF (p:=⟨G235,_,none⟩) NB229_235.1 _).trans (((cF (p:=⟨G235,_,none⟩) NB229_235.1 _).trans (((cF (p:=⟨G235,_,none⟩) NB229_235.1 _).trans (hHeld.2.1)))))),((cF (p:=⟨G235,_,none⟩) NB229_235.1 _).trans (((cF (p:=⟨G235,_,none⟩) NB229_235.1 _).trans (((cF (p:=⟨G235,_,none⟩) NB229_235.1 _).trans (hHeld.2.2.1)))))),((cF (p:=⟨G235,_,none⟩) (by first|exact Nat.ne_of_lt (Nat.lt_of_lt_of_le (by have:=World.block_lt_of_cell? _ _ hw230_0;first|rwa [add_block] at this|exact this) GW235.1)|(rw [add_block];exact Nat.ne_of_lt (Nat.lt_of_lt_of_le (by have:=World.block_lt_of_cell? _ _ hw230_0;first|rwa [add_block] at this|exact this) GW235.1))|(show (Addr.add _ _).block ≠ _;rw [add_block];exact Nat.ne_of_lt (Nat.lt_of_lt_of_le (by have:=World.block_lt_of_cell? _ _ hw230_0;first|rwa [add_block] at this|exact this) GW235.1))|(dsimp only;exact Nat.ne_of_lt (Nat.lt_of_lt_of_le (by have:=World.block_lt_of_cell? _ _ hw230_0;first|rwa [add_block] at this|exact this) GW235.1))) _).trans (((cF (p:=⟨G235,_,none⟩) (by first|exact Nat.ne_of_lt (Nat.lt_of_lt_of_le (by have:=World.block_lt_of_cell? _ _ hw230_0;first|rwa [add_block] at this|exact this) GW235.1)|(rw [add_block];exact Nat.ne_of_lt (Nat.lt_of_lt_of_le (by have:=World.block_lt_of_cell? _ _ hw230_0;first|rwa [add_block] at this|exact this) GW235.1))|(show (Addr.add _ _).block ≠ _;rw [add_block];exact Nat.ne_of_lt (Nat.lt_of_lt_of_le (by have:=World.block_lt_of_cell? _ _ hw230_0;first|rwa [add_block] at this|exact this) GW235.1))|(dsimp only;exact Nat.ne_of_lt (Nat.lt_of_lt_of_le (by have:=World.block_lt_of_cell? _ _ hw230_0;first|rwa [add_block] at this|exact this) GW235.1))) _).trans (((cF (p:=⟨G235,_,none⟩) (by first|exact Nat.ne_of_lt (Nat.lt_of_lt_of_le (by have:=World.block_lt_of_cell? _ _ hw230_0;first|rwa [add_block] at this|exact this) GW235.1)|(rw [add_block];exact Nat.ne_of_lt (Nat.lt_of_lt_of_le (by have:=World.block_lt_of_cell? _ _ hw230_0;first|rwa [add_block] at this|exact this) GW235.1))|(show (Addr.add _ _).block ≠ _;rw [add_block];exact Nat.ne_of_lt (Nat.lt_of_lt_of_le (by have:=World.block_lt_of_cell? _ _ hw230_0;first|rwa [add_block] at this|exact this) GW235.1))|(dsimp only;exact Nat.ne_of_lt (Nat.lt_of_lt_of_le (by have:=World.block_lt_of_cell? _ _ hw230_0;first|rwa [add_block] at this|exact this) GW235.1))) _).trans (hHeld.2.2.2))))))⟩ (fun hHeld => ?_)
      clear hK K
      refine pure_ (i:=11) (N:=some 10) (v:=?_) (a':=?_) #[true,true,true,true,true,true,true,true,true,true,true,true] rfl rfl (any_of HT_.out (by kernel_rfl)) (fun _ _ _ h => h) (Or.inl ⟨by rfl,?_⟩) ?_ ?_
      rotate_left
      ·intro w'
       go_simp
       with_reducible rfl
      rotate_left
      ·simp only [Act.put,List.setIfInBounds_toArray,List.set_cons_zero,List.set_cons_succ,i64_w,i32_w]
       rfl
      refine done_ (done_of HT_.out (by kernel_rfl)) ?_
      try go_wp2
      go_roundg k1
      case measure => have:=HK1.out;omega
      case rel => exact ⟨(x6_1),(wrap64 (x7_1 + 1)),(wrap64 (x8_1 + 1)),(x230000_1),(x230001_1),(x230002_1),(by first|rfl|(simp;done)|(simp [*];done)),(by first|rfl|(simp;done)|(simp [*];done)),H',⟨by have:=HK1.out;omega⟩,⟨by (with_reducible repeat (first|apply Kd.R_alloc|apply Kd.R_drewN|apply Kd.R_drew));exact Kd.R_mono (Kd.R_far (p:=⟨G235,2,none⟩) (Kd.R_far (p:=⟨G235,1,none⟩) (Kd.R_far (p:=⟨G235,0,none⟩) (Kd.R_types HO_6.out K235.1 (by decide)) (fun _ hk => hk.2) (.int .i64 t231)) (fun _ hk => hk.2) (.float .f64 t232)) (fun _ hk => hk.2) (.float .f64 t233)) (fun _ hk => trivial)⟩,⟨by (with_reducible repeat first|apply bN|apply bD|apply bA);refine bZ ?_ NB225_235.1 _;(with_reducible repeat first|apply bN|apply bD|apply bA);refine bZ ?_ NB225_235.1 _;(with_reducible repeat first|apply bN|apply bD|apply bA);refine bZ ?_ NB225_235.1 _;(with_reducible repeat first|apply bN|apply bD|apply bA);exact K225.1⟩,⟨by (with_reducible repeat first|apply bN|apply bD|apply bA);refine bZ ?_ NB229_235.1 _;(with_reducible repeat first|apply bN|apply bD|apply bA);refine bZ ?_ NB229_235.1 _;(with_reducible repeat first|apply bN|apply bD|apply bA);refine bZ ?_ NB229_235.1 _;(with_reducible repeat first|apply bN|apply bD|apply bA);exact K229.1⟩,⟨by repeat (first|(with_reducible first|exact HB.1|apply bwA|apply bwN|apply bw1|refine bS ?_ GE225.1|refine bS ?_ GE229.1|refine bS ?_ GE235.1)|exact HB.1)⟩⟩
    ·rw [if_neg c10] at H
     exact absurd H (by simp)
   ·rw [if_neg c9] at H
    have c9b0 : decide (x8_1 < (l0.length : Int)) = false:=decide_eq_false c9
    clear c9
    simp only [Option.some.injEq,Prod.mk.injEq] at H
    obtain ⟨rfl,rfl,rfl,rfl,rfl⟩:=H
    try go_wp2
    have n0_:=Aside0.mk (Kd.R_drew HO_6.out)
    have n1_:=Aside0.mk (bD K225.1)
    have n2_:=Aside0.mk (bD K229.1)
    have n3_:=Aside0.mk (bw1 HB.1)
    clear HO_6
    clear K225
    clear K229
    clear HB
    have HO_6:=n0_
    have K225:=n1_
    have K229:=n2_
    have HB:=n3_
    clear n0_ n1_ n2_ n3_
    refine start_ (n:=6) (S:=fun w' => w'.cell? ⟨G229,0,none⟩ = some (.int .i64 x230000_1) ∧ w'.cell? ⟨G229,1,none⟩ = some (.float .f64 x230001_1) ∧ w'.cell? ⟨G229,2,none⟩ = some (.float .f64 x230002_1)) (ds:=[]) #[false,false,false,false,false,false] (by kernel_rfl) rfl rfl ⟨(bC K229.1 0).trans rfl,(bC K229.1 1).trans rfl,(bC K229.1 2).trans rfl⟩ (fun hHeld => ?_)
    generalize wr.drew = w62 at HO_6 K225 K229 HB hHeld ⊢
    refine pure_ (i:=0) (N:=some 58) (v:=?_) (a':=?_) #[true,false,false,false,false,false] rfl rfl (by kernel_rfl) (fun _ _ _ h => h) (Or.inl ⟨by rfl,?_⟩) ?_ ?_
    rotate_left
    ·intro w'
     go_simp
     with_reducible rfl
    rotate_left
    ·simp only [Act.put,List.setIfInBounds_toArray,List.set_cons_zero,List.set_cons_succ,i64_w,i32_w]
     rfl
    refine pure_ (i:=2) (N:=some 60) (v:=?_) (a':=?_) #[true,false,true,false,false,false] rfl rfl (by kernel_rfl) (fun _ _ _ h => h) (Or.inl ⟨by rfl,?_⟩) ?_ ?_
    rotate_left
    ·intro w'
     go_simp
     with_reducible rfl
    rotate_left
    ·simp only [Act.put,List.setIfInBounds_toArray,List.set_cons_zero,List.set_cons_succ,i64_w,i32_w]
     rfl
    refine pure_ (i:=3) (N:=some 2) (v:=?_) (a':=?_) #[true,false,true,true,false,false] rfl rfl (by kernel_rfl) (fun _ _ _ h => h) (Or.inl ⟨by rfl,?_⟩) ?_ ?_
    rotate_left
    ·intro w'
     go_simp
     with_reducible rfl
    rotate_left
    ·simp only [Act.put,List.setIfInBounds_toArray,List.set_cons_zero,List.set_cons_succ,i64_w,i32_w]
     rfl
    refine take_ (i:=1) (N:=some 59) (v:=?_) (a':=?_) #[true,true,true,true,false,false] rfl rfl (by kernel_rfl) (fun _ _ _ h => h) (Or.inl ⟨by rfl,?_⟩) hHeld ?_ ?_
    rotate_left
    ·rintro w' ⟨s0,s1,s2⟩
     go_simp
     with_reducible rfl
    rotate_left
    ·simp only [Act.put,List.setIfInBounds_toArray,List.set_cons_zero,List.set_cons_succ,i64_w,i32_w]
     rfl
    refine one_ (i:=4) (N:=none) #[true,true,true,true,true,false] rfl rfl (by kernel_rfl) (by decide) (fun K hK => ?_)
    have hs63 : w62.cell? ⟨G225,0,none⟩ = some (.int .i64 0):=(bC K225.1 0).trans rfl
    have hfs63:=bF K225.1 0
    have hns63_1:=NB229_225.1
    have hms63_1:=NB225_229.1
    have hs64 : w62.cell? ⟨G225,1,none⟩ = some (.float .f64 0):=(bC K225.1 1).trans rfl
    have hfs64:=bF K225.1 1
    have hns64_1:=NB229_225.1
    have hms64_1:=NB225_229.1
    have hs65 : w62.cell? ⟨G225,2,none⟩ = some (.float .f64 0):=(bC K225.1 2).trans rfl
    have hfs65:=bF K225.1 2
    have hns65_1:=NB229_225.1
    have hms65_1:=NB225_229.1
    refine skip_ (w1:=?_) (by rfl) rfl ?_ ?_
    rotate_left
    ·go_simp
     rfl
    refine hK.out _ _ ⟨((cF (p:=⟨G225,_,none⟩) NB229_225.1 _).trans (((cF (p:=⟨G225,_,none⟩) NB229_225.1 _).trans (((cF (p:=⟨G225,_,none⟩) NB229_225.1 _).trans (hHeld.1)))))),((cF (p:=⟨G225,_,none⟩) NB229_225.1 _).trans (((cF (p:=⟨G225,_,none⟩) NB229_225.1 _).trans (((cF (p:=⟨G225,_,none⟩) NB229_225.1 _).trans (hHeld.2.1)))))),((cF (p:=⟨G225,_,none⟩) NB229_225.1 _).trans (((cF (p:=⟨G225,_,none⟩) NB229_225.1 _).trans (((cF (p:=⟨G225,_,none⟩) NB229_225.1 _).trans (hHeld.2.2))))))⟩ (fun hHeld => ?_)
    clear hK K
    refine pure_ (i:=5) (N:=some 4) (v:=?_) (a':=?_) #[true,true,true,true,true,true] rfl rfl (by kernel_rfl) (fun _ _ _ h => h) (Or.inl ⟨by rfl,?_⟩) ?_ ?_
    rotate_left
    ·intro w'
     go_simp
     with_reducible rfl
    rotate_left
    ·simp only [Act.put,List.setIfInBounds_toArray,List.set_cons_zero,List.set_cons_succ,i64_w,i32_w]
     rfl
    refine done_ (by kernel_rfl) ?_
    try go_wp2
    refine bodyPost_ret (results_list (rs:=[.tmp 2,.cell 3 24,.tmp 4]) rfl (by simp) (.tmp (.cell G225 24 #[.int .i64 x230000_1,.float .f64 x230001_1,.float .f64 x230002_1] (0,0) _ rfl (by (with_reducible repeat first|apply bN|apply bD|apply bA);refine blk_put (cs:=#[.int .i64 x230000_1,.float .f64 x230001_1,.float .f64 0]) ?_ 2 _ rfl;(with_reducible repeat first|apply bN|apply bD|apply bA);refine blk_put (cs:=#[.int .i64 x230000_1,.float .f64 0,.float .f64 0]) ?_ 1 _ rfl;(with_reducible repeat first|apply bN|apply bD|apply bA);refine blk_put (cs:=#[.int .i64 0,.float .f64 0,.float .f64 0]) ?_ 0 _ rfl;(with_reducible repeat first|apply bN|apply bD|apply bA);exact K225.1) Try.underlying24 rfl (by kernel_rfl) (.tmp .nil)))) rfl ?_
    exact ⟨_,by first|rfl|(simp [errW_none,errW_some] <;> rfl)|(simp [*,errW_none,errW_some] <;> rfl),by (with_reducible repeat (first|apply Kd.R_alloc|apply Kd.R_drewN|apply Kd.R_drew));exact Kd.R_mono (Kd.R_far (p:=⟨G225,2,none⟩) (Kd.R_far (p:=⟨G225,1,none⟩) (Kd.R_far (p:=⟨G225,0,none⟩) (Kd.R_types HO_6.out K225.1 (by decide)) (fun _ hk => hk.2) (.int .i64 x230000_1)) (fun _ hk => hk.2) (.float .f64 x230001_1)) (fun _ hk => hk.2) (.float .f64 x230002_1)) (fun _ hk => trivial),by repeat (first|(with_reducible first|exact HB.1|apply bwA|apply bwN|apply bw1|refine bS ?_ GE225.1|refine bS ?_ GE229.1)|exact HB.1)⟩

end Go.Proofs.Ytajejidnidomgaa.XR
