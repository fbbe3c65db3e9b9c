/- Go functions of this seat as Lean functions, with proofs that the calls come to them. (Written by xprint.py, a program of this session, over the kit's print.) -/
import Derived.Test.YtgmjlhpigfaicaaXAx0
import Derived.Test.YtgmjlhpigfaicaaXAx18
namespace Go.Proofs.Ytgmjlhpigfaicaa.XA
open Go.RowKit Go.Proofs.YtgmjlhpigfaicaaW.PrintWords Go.Proofs.YtgmjlhpigfaicaaW.PrintLast Go.Proofs.YtgmjlhpigfaicaaW.PrintMore
attribute [local go_sem] max2_int min2_int max_two min_two max_three min_three max_four min_four   -- for this text's walks alone
set_option linter.unusedVariables false
set_option linter.unusedSimpArgs false
open List renaming setIfInBounds_toArray → xA, set_cons_zero → xB, set_cons_succ → xC
open Go.Proofs.YtgmjlhpigfaicaaW.PrintWords renaming blk_drewN → bN, blk_drew → bD, blk_alloc → bA, below_set → bS, blk_frozen → bF, blk_cell → bC, cell_far → cF, blk_far → bZ, blk_below → bB, pw_below_drewN → bwN, below_drew1 → bw1, below_alloc → bwA
open Go.Proofs.YtgmjlhpigfaicaaW.PrintZ
open Bool renaming true → T,false → F

/-! ### beaconref17_Find: function 24 -/
mutual
def beaconref17_Find.l0 : Nat → Int → Bool → Int → List (S39) → Bool → Int → Int → Nat → Int → Nat → Int → Option (Int × Int × Nat × Int × Nat × Int × Bool)
 | 0, _, _, _, _, _, _, _, _, _, _, _ => none
 | k + 1, x1, x7, x8, x312000, x312001, x314000, x314001, x314002, x314003, x314004, x314005 => if x8 < (x312000.length : Int) then (if 0 ≤ x8 then (if ((rd_T39 x312000 x8).f0) = x1 then ((beaconref17_Far.f ((rd_T39 x312000 x8).f2)).bind fun t316 => (if t316 = true then (beaconref17_Find.l0 k x1 x7 (wrap64 (x8 + 1)) x312000 x312001 x314000 x314001 x314002 x314003 x314004 x314005) else (if x7 = true then (if ((rd_T39 x312000 x8).f1) < x314001 then (beaconref17_Find.l0 k x1 true (wrap64 (x8 + 1)) x312000 x312001 ((rd_T39 x312000 x8).f0) ((rd_T39 x312000 x8).f1) ((rd_T39 x312000 x8).f2) ((rd_T39 x312000 x8).f3) ((rd_T39 x312000 x8).f4) ((rd_T39 x312000 x8).f5)) else (beaconref17_Find.l0 k x1 x7 (wrap64 (x8 + 1)) x312000 x312001 x314000 x314001 x314002 x314003 x314004 x314005)) else (beaconref17_Find.l0 k x1 true (wrap64 (x8 + 1)) x312000 x312001 ((rd_T39 x312000 x8).f0) ((rd_T39 x312000 x8).f1) ((rd_T39 x312000 x8).f2) ((rd_T39 x312000 x8).f3) ((rd_T39 x312000 x8).f4) ((rd_T39 x312000 x8).f5))))) else (beaconref17_Find.l0 k x1 x7 (wrap64 (x8 + 1)) x312000 x312001 x314000 x314001 x314002 x314003 x314004 x314005)) else (none)) else (beaconref17_Find.l1 k x1 x7 0 x312000 x312001 x314000 x314001 x314002 x314003 x314004 x314005)
def beaconref17_Find.l1 : Nat → Int → Bool → Int → List (S39) → Bool → Int → Int → Nat → Int → Nat → Int → Option (Int × Int × Nat × Int × Nat × Int × Bool)
 | 0, _, _, _, _, _, _, _, _, _, _, _ => none
 | k + 1, x1, x7, x10, x312000, x312001, x314000, x314001, x314002, x314003, x314004, x314005 => if x10 < (x312000.length : Int) then (beaconref17_Find.j2 k x1 x7 x10 (!x7) x312000 x312001 x314000 x314001 x314002 x314003 x314004 x314005) else (beaconref17_Find.j2 k x1 x7 x10 false x312000 x312001 x314000 x314001 x314002 x314003 x314004 x314005)
def beaconref17_Find.j2 : Nat → Int → Bool → Int → Bool → List (S39) → Bool → Int → Int → Nat → Int → Nat → Int → Option (Int × Int × Nat × Int × Nat × Int × Bool)
 | 0, _, _, _, _, _, _, _, _, _, _, _, _ => none
 | k + 1, x1, x7, x10, x54, x312000, x312001, x314000, x314001, x314002, x314003, x314004, x314005 => if x54 = true then (if 0 ≤ x10 then (if x10 < (x312000.length : Int) then (if ((rd_T39 x312000 x10).f0) = x1 then (beaconref17_Find.l1 k x1 true (wrap64 (x10 + 1)) x312000 x312001 ((rd_T39 x312000 x10).f0) ((rd_T39 x312000 x10).f1) ((rd_T39 x312000 x10).f2) ((rd_T39 x312000 x10).f3) ((rd_T39 x312000 x10).f4) ((rd_T39 x312000 x10).f5)) else (beaconref17_Find.l1 k x1 x7 (wrap64 (x10 + 1)) x312000 x312001 x314000 x314001 x314002 x314003 x314004 x314005)) else (none)) else (none)) else (some (x314000, x314001, x314002, x314003, x314004, x314005, x7))
end
def beaconref17_Find.f (k : Nat) (l0_0 : List (S39)) (a0_1 : Bool) (a1 : Int) : Option (Int × Int × Nat × Int × Nat × Int × Bool) := beaconref17_Find.l0 k a1 false 0 l0_0 a0_1 0 0 0 0 0 0
theorem beaconref17_Find.mono_l : ∀ k, (∀ y0 y1 y2 y3 y4 y5 y6 y7 y8 y9 y10, LeO (beaconref17_Find.l0 k y0 y1 y2 y3 y4 y5 y6 y7 y8 y9 y10) (beaconref17_Find.l0 (k + 1) y0 y1 y2 y3 y4 y5 y6 y7 y8 y9 y10)) ∧ (∀ y0 y1 y2 y3 y4 y5 y6 y7 y8 y9 y10, LeO (beaconref17_Find.l1 k y0 y1 y2 y3 y4 y5 y6 y7 y8 y9 y10) (beaconref17_Find.l1 (k + 1) y0 y1 y2 y3 y4 y5 y6 y7 y8 y9 y10)) ∧ (∀ y0 y1 y2 y3 y4 y5 y6 y7 y8 y9 y10 y11, LeO (beaconref17_Find.j2 k y0 y1 y2 y3 y4 y5 y6 y7 y8 y9 y10 y11) (beaconref17_Find.j2 (k + 1) y0 y1 y2 y3 y4 y5 y6 y7 y8 y9 y10 y11))
 | 0 => ⟨fun _ _ _ _ _ _ _ _ _ _ _ r h => by simp [beaconref17_Find.l0] at h, fun _ _ _ _ _ _ _ _ _ _ _ r h => by simp [beaconref17_Find.l1] at h, fun _ _ _ _ _ _ _ _ _ _ _ _ r h => by simp [beaconref17_Find.j2] at h⟩
 | k + 1 => by
  obtain ⟨ih0,ih1,ih2⟩:=beaconref17_Find.mono_l k
  refine ⟨?_,?_,?_⟩
  ·intro y0 y1 y2 y3 y4 y5 y6 y7 y8 y9 y10
   unfold beaconref17_Find.l0
   repeat' first
   | (with_reducible exact ih0 _ _ _ _ _ _ _ _ _ _ _)
   | (with_reducible exact ih1 _ _ _ _ _ _ _ _ _ _ _)
   | (with_reducible exact ih2 _ _ _ _ _ _ _ _ _ _ _ _)
   | (with_reducible exact LeO.refl _)
   | (with_reducible exact LeO.none _)
   | (with_reducible refine LeO.ite ?_ ?_)
   | (with_reducible refine LeO.bind ?_ (fun _ => ?_))
   | exact ih0 _ _ _ _ _ _ _ _ _ _ _
   | exact ih1 _ _ _ _ _ _ _ _ _ _ _
   | exact ih2 _ _ _ _ _ _ _ _ _ _ _ _
   | exact LeO.none _
   | refine LeO.ite ?_ ?_
   | refine LeO.bind ?_ (fun _ => ?_)
  ·intro y0 y1 y2 y3 y4 y5 y6 y7 y8 y9 y10
   unfold beaconref17_Find.l1
   repeat' first
   | (with_reducible exact ih0 _ _ _ _ _ _ _ _ _ _ _)
   | (with_reducible exact ih1 _ _ _ _ _ _ _ _ _ _ _)
   | (with_reducible exact ih2 _ _ _ _ _ _ _ _ _ _ _ _)
   | (with_reducible exact LeO.refl _)
   | (with_reducible exact LeO.none _)
   | (with_reducible refine LeO.ite ?_ ?_)
   | (with_reducible refine LeO.bind ?_ (fun _ => ?_))
   | exact ih0 _ _ _ _ _ _ _ _ _ _ _
   | exact ih1 _ _ _ _ _ _ _ _ _ _ _
   | exact ih2 _ _ _ _ _ _ _ _ _ _ _ _
   | exact LeO.none _
   | refine LeO.ite ?_ ?_
   | refine LeO.bind ?_ (fun _ => ?_)
  ·intro y0 y1 y2 y3 y4 y5 y6 y7 y8 y9 y10 y11
   unfold beaconref17_Find.j2
   repeat' first
   | (with_reducible exact ih0 _ _ _ _ _ _ _ _ _ _ _)
   | (with_reducible exact ih1 _ _ _ _ _ _ _ _ _ _ _)
   | (with_reducible exact ih2 _ _ _ _ _ _ _ _ _ _ _ _)
   | (with_reducible exact LeO.refl _)
   | (with_reducible exact LeO.none _)
   | (with_reducible refine LeO.ite ?_ ?_)
   | (with_reducible refine LeO.bind ?_ (fun _ => ?_))
   | exact ih0 _ _ _ _ _ _ _ _ _ _ _
   | exact ih1 _ _ _ _ _ _ _ _ _ _ _
   | exact ih2 _ _ _ _ _ _ _ _ _ _ _ _
   | exact LeO.none _
   | refine LeO.ite ?_ ?_
   | refine LeO.bind ?_ (fun _ => ?_)
theorem beaconref17_Find.mono : ∀ a0 a1 a2 k, LeO (beaconref17_Find.f k a0 a1 a2) (beaconref17_Find.f (k + 1) a0 a1 a2) := by
 intro a0 a1 a2 k
 obtain ⟨ih0,ih1,ih2⟩:=beaconref17_Find.mono_l k
 unfold beaconref17_Find.f
 repeat' first
   | (with_reducible exact ih0 _ _ _ _ _ _ _ _ _ _ _)
   | (with_reducible exact ih1 _ _ _ _ _ _ _ _ _ _ _)
   | (with_reducible exact ih2 _ _ _ _ _ _ _ _ _ _ _ _)
   | (with_reducible exact LeO.refl _)
   | (with_reducible exact LeO.none _)
   | (with_reducible refine LeO.ite ?_ ?_)
   | (with_reducible refine LeO.bind ?_ (fun _ => ?_))
   | exact ih0 _ _ _ _ _ _ _ _ _ _ _
   | exact ih1 _ _ _ _ _ _ _ _ _ _ _
   | exact ih2 _ _ _ _ _ _ _ _ _ _ _ _
   | exact LeO.none _
   | refine LeO.ite ?_ ?_
   | refine LeO.bind ?_ (fun _ => ?_)
set_option maxHeartbeats 8000000 in
set_option maxRecDepth 100000 in
theorem beaconref17_Find.calls (k : Nat) (A0_0 : Option Addr) (c0_0 : Nat) (l0_0 : List (S39)) (a0_1 : Bool) (a1 : Int) (r1 : Int) (r2 : Int) (r3 : Nat) (r4 : Int) (r5 : Nat) (r6 : Int) (r7 : Bool) (w : World) (hr0_0 : Kd.C k39 w A0_0 l0_0.length l0_0) (hc0_0 : l0_0.length ≤ c0_0) (h : beaconref17_Find.f k l0_0 a0_1 a1 = some (r1, r2, r3, r4, r5, r6, r7)) :
  Calls Try.prog 24 #[.agg #[.slice A0_0 l0_0.length c0_0,.bool a0_1],.int .i64 a1] w fun e w' => e = .returned (.tuple #[.agg #[.int .i64 r1,.int .i64 r2,.float .f64 r3,.int .i64 r4,.float .f64 r5,.int .i64 r6],.bool r7]) ∧ Below w.heap.size w w':=by
 have hu24:=Try.underlying24
 have hu39:=Try.underlying39
 have HR0_0:=Aside0.mk hr0_0
 have HC0_0:=Aside0.mk hc0_0
 clear hr0_0 hc0_0
 have HB:=Aside0.mk (Below.refl w.heap.size w)
 have H : (beaconref17_Find.l0 k a1 false 0 l0_0 a0_1 0 0 0 0 0 0) = some (r1,r2,r3,r4,r5,r6,r7):=h
 clear h
 have H':=Aside0.mk H
 clear H
 go_enter Try.func24,Try.ntmps24
 go_wp2_with (first|((with_reducible refine gate_dst (N:=2) rfl ?_);refine zb (N:=2) (cs:=#[.slice A0_0 l0_0.length c0_0,.bool a0_1]) (t:=24) ?_;intro G311 hg w3 hbox hb;have K311:=Aside0.mk (hbox);have GW311:=zN HB hg;have GE311:=zN HB hg;replace HB:=zS HB hb;clear hb hbox hg)|((with_reducible refine gate_dst (N:=4) rfl ?_);refine zb (N:=4) (cs:=#[.int .i64 0,.int .i64 0,.float .f64 0,.int .i64 0,.float .f64 0,.int .i64 0]) (t:=39) ?_;intro G312 hg w4 hbox hb;have K312:=Aside0.mk (hbox);have GW312:=zN HB hg;have GE312:=zN HB hg;replace HB:=zS HB hb;have NB311_312:=zL K311 hg;have NB312_311:=zG K311 hg;replace K311:=zB K311 hb;clear hb hbox hg)|((with_reducible refine gate_dst (N:=6) rfl ?_);refine zb (N:=6) (cs:=#[.int .i64 0,.int .i64 0,.float .f64 0,.int .i64 0,.float .f64 0,.int .i64 0]) (t:=39) ?_;intro G313 hg w5 hbox hb;have K313:=Aside0.mk (hbox);have GW313:=zN HB hg;have GE313:=zN HB hg;replace HB:=zS HB hb;have NB311_313:=zL K311 hg;have NB313_311:=zG K311 hg;replace K311:=zB K311 hb;have NB312_313:=zL K312 hg;have NB313_312:=zG K312 hg;replace K312:=zB K312 hb;clear hb hbox hg;have hnb6:=NB313_311.1;have hnc6:=NB311_313.1;have hnb7:=NB313_312.1;have hnc7:=NB312_313.1;have hcz8_0 : w5.cell? ⟨G313,0,none⟩ = some (.int .i64 0):=zk K313 0;have hcz8_1 : w5.cell? ⟨G313,1,none⟩ = some (.int .i64 0):=zk K313 1;have hcz8_2 : w5.cell? ⟨G313,2,none⟩ = some (.float .f64 0):=zk K313 2;have hcz8_3 : w5.cell? ⟨G313,3,none⟩ = some (.int .i64 0):=zk K313 3;have hcz8_4 : w5.cell? ⟨G313,4,none⟩ = some (.float .f64 0):=zk K313 4;have hcz8_5 : w5.cell? ⟨G313,5,none⟩ = some (.int .i64 0):=zk K313 5;have hfz8_0:=bF K313.1 0;have hfz8_1:=bF K313.1 1;have hfz8_2:=bF K313.1 2;have hfz8_3:=bF K313.1 3;have hfz8_4:=bF K313.1 4;have hfz8_5:=bF K313.1 5)|((with_reducible refine gate_store (t:=39) (p:=6) rfl ?_);refine store_event (t:=39) (p:=6) (v:=?vo_w9) (w1:=((((((w5.setCell ⟨G313,0,none⟩ (.int .i64 0)).setCell ⟨G313,1,none⟩ (.int .i64 0)).setCell ⟨G313,2,none⟩ (.float .f64 0)).setCell ⟨G313,3,none⟩ (.int .i64 0)).setCell ⟨G313,4,none⟩ (.float .f64 0)).setCell ⟨G313,5,none⟩ (.int .i64 0))) ?hg ?ho ?hn ?hr ?_;(case ho => rfl);(case hg => rfl);(case hn => rfl);(case hr => first|(go_simp;done)|(go_simp;rfl));intro w9 hw;replace K311 : Aside0 (w9.heap[G311]? = some (.cells #[.slice A0_0 l0_0.length c0_0,.bool a0_1] 24 (0,0))):=⟨(by rw [hw];exact (zf K311))⟩;replace K312 : Aside0 (w9.heap[G312]? = some (.cells #[.int .i64 0,.int .i64 0,.float .f64 0,.int .i64 0,.float .f64 0,.int .i64 0] 39 (0,0))):=⟨(by rw [hw];exact (zf K312))⟩;replace K313 : Aside0 (w9.heap[G313]? = some (.cells #[.int .i64 0,.int .i64 0,.float .f64 0,.int .i64 0,.float .f64 0,.int .i64 0] 39 (0,0))):=⟨(by rw [hw];exact (zF K313))⟩;replace HB : Aside0 (Below w.heap.size w w9):=⟨(by rw [hw];exact (zH HB))⟩;clear hw))
 go_loopg [7,8] k (fun kq v7 v8 w' => ∃ (x7_1 : Bool) (x8_1 : Int) (x314000_1 : Int) (x314001_1 : Int) (x314002_1 : Nat) (x314003_1 : Int) (x314004_1 : Nat) (x314005_1 : Int),v7 = .bool x7_1 ∧ v8 = .int .i64 x8_1 ∧ Aside0 (beaconref17_Find.l0 kq a1 x7_1 x8_1 l0_0 a0_1 x314000_1 x314001_1 x314002_1 x314003_1 x314004_1 x314005_1 = some (r1,r2,r3,r4,r5,r6,r7)) ∧ Aside0 (kq ≤ k) ∧ Aside0 (w'.heap[G311]? = some (.cells #[(.slice A0_0 l0_0.length c0_0),.bool a0_1] 24 (0,0))) ∧ Aside0 (w'.heap[G312]? = some (.cells #[.int .i64 0,.int .i64 0,.float .f64 0,.int .i64 0,.float .f64 0,.int .i64 0] 39 (0,0))) ∧ Aside0 (w'.heap[G313]? = some (.cells #[.int .i64 x314000_1,.int .i64 x314001_1,.float .f64 x314002_1,.int .i64 x314003_1,.float .f64 x314004_1,.int .i64 x314005_1] 39 (0,0))) ∧ Aside0 (Below w.heap.size w w'))
 case atStart => exact ⟨(false),(0),(0),(0),(0),(0),(0),(0),ze,ze,H',⟨Nat.le_refl _⟩,⟨z1 K311.1⟩,⟨z1 K312.1⟩,⟨z1 K313.1⟩,⟨zH HB⟩⟩
 case round =>
  clear H'
  try clear c2;try clear p2;try clear c6;try clear c7;try clear hcz8_0;try clear hcz8_1;try clear hcz8_2;try clear hcz8_3;try clear hcz8_4;try clear hcz8_5;try clear hfz8_0;try clear hfz8_1;try clear hfz8_2;try clear hfz8_3;try clear hfz8_4;try clear hfz8_5
  obtain ⟨x7_1,x8_1,x314000_1,x314001_1,x314002_1,x314003_1,x314004_1,x314005_1,rfl,rfl,HA,HK1,K311,K312,K313,HB⟩:=hrel
  cases gk with
  | zero => exact absurd HA.out (by simp [beaconref17_Find.l0])
  | succ k1 =>
   have H:=HA.out
   clear HA
   simp only [beaconref17_Find.l0] at H
   by_cases c10 : x8_1 < (l0_0.length : Int)
   ·rw [if_pos c10] at H
    have c10b0 : decide (x8_1 < (l0_0.length : Int)) = true:=decide_eq_true c10
    clear c10
    by_cases c11 : 0 ≤ x8_1
    ·rw [if_pos c11] at H
     have c11b0 : decide (0 ≤ x8_1) = true:=decide_eq_true c11
     clear c11
     by_cases c12 : ((rd_T39 l0_0 x8_1).f0) = a1
     ·rw [if_pos c12] at H
      have c12b0 : (((rd_T39 l0_0 x8_1).f0) == a1) = true:=beq_iff_eq.mpr c12
      have c12b1 : (((rd_T39 l0_0 x8_1).f0) != a1) = false:=bne_eq_false_iff_eq.mpr c12
      clear c12
      replace H:=Option.bind_eq_some_iff.mp H
      obtain ⟨t316,A130,H⟩:=H
      replace H : (if t316 = true then (beaconref17_Find.l0 k1 a1 x7_1 (wrap64 (x8_1 + 1)) l0_0 a0_1 x314000_1 x314001_1 x314002_1 x314003_1 x314004_1 x314005_1) else (if x7_1 = true then (if ((rd_T39 l0_0 x8_1).f1) < x314001_1 then (beaconref17_Find.l0 k1 a1 true (wrap64 (x8_1 + 1)) l0_0 a0_1 ((rd_T39 l0_0 x8_1).f0) ((rd_T39 l0_0 x8_1).f1) ((rd_T39 l0_0 x8_1).f2) ((rd_T39 l0_0 x8_1).f3) ((rd_T39 l0_0 x8_1).f4) ((rd_T39 l0_0 x8_1).f5)) else (beaconref17_Find.l0 k1 a1 x7_1 (wrap64 (x8_1 + 1)) l0_0 a0_1 x314000_1 x314001_1 x314002_1 x314003_1 x314004_1 x314005_1)) else (beaconref17_Find.l0 k1 a1 true (wrap64 (x8_1 + 1)) l0_0 a0_1 ((rd_T39 l0_0 x8_1).f0) ((rd_T39 l0_0 x8_1).f1) ((rd_T39 l0_0 x8_1).f2) ((rd_T39 l0_0 x8_1).f3) ((rd_T39 l0_0 x8_1).f4) ((rd_T39 l0_0 x8_1).f5)))) = some (r1,r2,r3,r4,r5,r6,r7):=H
      have A13:=Aside0.mk A130
      clear A130
      by_cases c14 : t316 = true
      ·subst c14
       have H1 : (beaconref17_Find.l0 k1 a1 x7_1 (wrap64 (x8_1 + 1)) l0_0 a0_1 x314000_1 x314001_1 x314002_1 x314003_1 x314004_1 x314005_1) = some (r1,r2,r3,r4,r5,r6,r7):=by rw [if_pos rfl] at H;exact H
       clear H
       have H:=H1
       clear H1
       have H':=Aside0.mk H
       clear H
       have hnb15:=NB311_312.1
       have hnc15:=NB312_311.1
       have hnb16:=NB311_313.1
       have hnc16:=NB313_311.1
       have hcz17_0 : wr.cell? ⟨G311,0,none⟩ = some (.slice A0_0 l0_0.length c0_0):=zk K311 0
       have hcz17_1 : wr.cell? ⟨G311,1,none⟩ = some (.bool a0_1):=zk K311 1
       have hfz17_0:=bF K311.1 0
       have hfz17_1:=bF K311.1 1
       have p314 : 0 ≤ (x8_1 : Int):=zd
       have q314 : x8_1 < (l0_0.length : Int):=zd
       obtain ⟨ad314,e314,hx314_0,hx314_1,hx314_2,hx314_3,hx314_4,hx314_5⟩:=at_T39 HR0_0.out x8_1 p314 q314
       cases e314
       replace hx314_0:=zh HB hx314_0
       replace hx314_1:=zh HB hx314_1
       replace hx314_2:=zh HB hx314_2
       replace hx314_3:=zh HB hx314_3
       replace hx314_4:=zh HB hx314_4
       replace hx314_5:=zh HB hx314_5
       replace p314:=eq_true p314
       replace q314:=eq_true q314
       go_wp2_with (first|((with_reducible refine gate_dst (N:=9) rfl ?_);refine zb (N:=9) (cs:=#[.int .i64 0,.int .i64 0,.float .f64 0,.int .i64 0,.float .f64 0,.int .i64 0]) (t:=39) ?_;intro G315 hg w18 hbox hb;have K315:=Aside0.mk (hbox);have GW315:=zN HB hg;have GE315:=zN HB hg;replace HB:=zS HB hb;have NB311_315:=zL K311 hg;have NB315_311:=zG K311 hg;replace K311:=zB K311 hb;have NB312_315:=zL K312 hg;have NB315_312:=zG K312 hg;replace K312:=zB K312 hb;have NB313_315:=zL K313 hg;have NB315_313:=zG K313 hg;replace K313:=zB K313 hb;clear hb hbox hg;have hnb19:=NB315_311.1;have hnc19:=NB311_315.1;have hnb20:=NB315_312.1;have hnc20:=NB312_315.1;have hnb21:=NB315_313.1;have hnc21:=NB313_315.1;have hcz22_0 : w18.cell? ⟨G315,0,none⟩ = some (.int .i64 0):=zk K315 0;have hcz22_1 : w18.cell? ⟨G315,1,none⟩ = some (.int .i64 0):=zk K315 1;have hcz22_2 : w18.cell? ⟨G315,2,none⟩ = some (.float .f64 0):=zk K315 2;have hcz22_3 : w18.cell? ⟨G315,3,none⟩ = some (.int .i64 0):=zk K315 3;have hcz22_4 : w18.cell? ⟨G315,4,none⟩ = some (.float .f64 0):=zk K315 4;have hcz22_5 : w18.cell? ⟨G315,5,none⟩ = some (.int .i64 0):=zk K315 5;have hfz22_0:=bF K315.1 0;have hfz22_1:=bF K315.1 1;have hfz22_2:=bF K315.1 2;have hfz22_3:=bF K315.1 3;have hfz22_4:=bF K315.1 4;have hfz22_5:=bF K315.1 5)|((with_reducible refine gate_store (t:=39) (p:=9) rfl ?_);refine store_event (t:=39) (p:=9) (v:=?vo_w23) (w1:=((((((w18.setCell ⟨G315,0,none⟩ (.int .i64 ((rd_T39 l0_0 x8_1).f0))).setCell ⟨G315,1,none⟩ (.int .i64 ((rd_T39 l0_0 x8_1).f1))).setCell ⟨G315,2,none⟩ (.float .f64 ((rd_T39 l0_0 x8_1).f2))).setCell ⟨G315,3,none⟩ (.int .i64 ((rd_T39 l0_0 x8_1).f3))).setCell ⟨G315,4,none⟩ (.float .f64 ((rd_T39 l0_0 x8_1).f4))).setCell ⟨G315,5,none⟩ (.int .i64 ((rd_T39 l0_0 x8_1).f5)))) ?hg ?ho ?hn ?hr ?_;(case ho => rfl);(case hg => rfl);(case hn => rfl);(case hr => first|(go_simp;done)|(go_simp;rfl));intro w23 hw;replace K311 : Aside0 (w23.heap[G311]? = some (.cells #[.slice (some ad314) l0_0.length c0_0,.bool a0_1] 24 (0,0))):=⟨(by rw [hw];exact (zf K311))⟩;replace K312 : Aside0 (w23.heap[G312]? = some (.cells #[.int .i64 0,.int .i64 0,.float .f64 0,.int .i64 0,.float .f64 0,.int .i64 0] 39 (0,0))):=⟨(by rw [hw];exact (zf K312))⟩;replace K313 : Aside0 (w23.heap[G313]? = some (.cells #[.int .i64 x314000_1,.int .i64 x314001_1,.float .f64 x314002_1,.int .i64 x314003_1,.float .f64 x314004_1,.int .i64 x314005_1] 39 (0,0))):=⟨(by rw [hw];exact (zf K313))⟩;replace K315 : Aside0 (w23.heap[G315]? = some (.cells #[.int .i64 ((rd_T39 l0_0 x8_1).f0),.int .i64 ((rd_T39 l0_0 x8_1).f1),.float .f64 ((rd_T39 l0_0 x8_1).f2),.int .i64 ((rd_T39 l0_0 x8_1).f3),.float .f64 ((rd_T39 l0_0 x8_1).f4),.int .i64 ((rd_T39 l0_0 x8_1).f5)] 39 (0,0))):=⟨(by rw [hw];exact (zF K315))⟩;replace HB : Aside0 (Below w.heap.size w w23):=⟨(by rw [hw];exact (zH HB))⟩;clear hw;have hcz24_0 : w23.cell? ⟨G315,0,none⟩ = some (.int .i64 ((rd_T39 l0_0 x8_1).f0)):=zk K315 0;have hcz24_1 : w23.cell? ⟨G315,1,none⟩ = some (.int .i64 ((rd_T39 l0_0 x8_1).f1)):=zk K315 1;have hcz24_2 : w23.cell? ⟨G315,2,none⟩ = some (.float .f64 ((rd_T39 l0_0 x8_1).f2)):=zk K315 2;have hcz24_3 : w23.cell? ⟨G315,3,none⟩ = some (.int .i64 ((rd_T39 l0_0 x8_1).f3)):=zk K315 3;have hcz24_4 : w23.cell? ⟨G315,4,none⟩ = some (.float .f64 ((rd_T39 l0_0 x8_1).f4)):=zk K315 4;have hcz24_5 : w23.cell? ⟨G315,5,none⟩ = some (.int .i64 ((rd_T39 l0_0 x8_1).f5)):=zk K315 5;have hfz24_0:=bF K315.1 0;have hfz24_1:=bF K315.1 1;have hfz24_2:=bF K315.1 2;have hfz24_3:=bF K315.1 3;have hfz24_4:=bF K315.1 4;have hfz24_5:=bF K315.1 5)|(go_at_call 54;(with_reducible refine (beaconref17_Far.calls ((rd_T39 l0_0 x8_1).f2) true _ A13.out).mono ?_);rintro e w' ⟨rfl,⟨nd,rfl⟩⟩))
       go_roundg k1
       case measure => have:=HK1.out;omega
       case rel => exact ⟨(x7_1),(wrap64 (x8_1 + 1)),(x314000_1),(x314001_1),(x314002_1),(x314003_1),(x314004_1),(x314005_1),ze,ze,H',⟨by have:=HK1.out;omega⟩,⟨z1 K311.1⟩,⟨z1 K312.1⟩,⟨z1 K313.1⟩,⟨zH HB⟩⟩
      ·replace c14:=Bool.eq_false_iff.mpr c14
       subst c14
       have H1 : (if x7_1 = true then (if ((rd_T39 l0_0 x8_1).f1) < x314001_1 then (beaconref17_Find.l0 k1 a1 true (wrap64 (x8_1 + 1)) l0_0 a0_1 ((rd_T39 l0_0 x8_1).f0) ((rd_T39 l0_0 x8_1).f1) ((rd_T39 l0_0 x8_1).f2) ((rd_T39 l0_0 x8_1).f3) ((rd_T39 l0_0 x8_1).f4) ((rd_T39 l0_0 x8_1).f5)) else (beaconref17_Find.l0 k1 a1 x7_1 (wrap64 (x8_1 + 1)) l0_0 a0_1 x314000_1 x314001_1 x314002_1 x314003_1 x314004_1 x314005_1)) else (beaconref17_Find.l0 k1 a1 true (wrap64 (x8_1 + 1)) l0_0 a0_1 ((rd_T39 l0_0 x8_1).f0) ((rd_T39 l0_0 x8_1).f1) ((rd_T39 l0_0 x8_1).f2) ((rd_T39 l0_0 x8_1).f3) ((rd_T39 l0_0 x8_1).f4) ((rd_T39 l0_0 x8_1).f5))) = some (r1,r2,r3,r4,r5,r6,r7):=by rw [if_neg (show ¬ (false = true) by decide)] at H;exact H
       clear H
       have H:=H1
       clear H1
       by_cases c25 : x7_1 = true
       ·subst c25
        have H1 : (if ((rd_T39 l0_0 x8_1).f1) < x314001_1 then (beaconref17_Find.l0 k1 a1 true (wrap64 (x8_1 + 1)) l0_0 a0_1 ((rd_T39 l0_0 x8_1).f0) ((rd_T39 l0_0 x8_1).f1) ((rd_T39 l0_0 x8_1).f2) ((rd_T39 l0_0 x8_1).f3) ((rd_T39 l0_0 x8_1).f4) ((rd_T39 l0_0 x8_1).f5)) else (beaconref17_Find.l0 k1 a1 true (wrap64 (x8_1 + 1)) l0_0 a0_1 x314000_1 x314001_1 x314002_1 x314003_1 x314004_1 x314005_1)) = some (r1,r2,r3,r4,r5,r6,r7):=by rw [if_pos rfl] at H;exact H
        clear H
        have H:=H1
        clear H1
        by_cases c26 : ((rd_T39 l0_0 x8_1).f1) < x314001_1
        ·rw [if_pos c26] at H
         have c26b0 : decide (((rd_T39 l0_0 x8_1).f1) < x314001_1) = true:=decide_eq_true c26
         clear c26
         have H':=Aside0.mk H
         clear H
         have hnb27:=NB311_312.1
         have hnc27:=NB312_311.1
         have hnb28:=NB311_313.1
         have hnc28:=NB313_311.1
         have hcz29_0 : wr.cell? ⟨G311,0,none⟩ = some (.slice A0_0 l0_0.length c0_0):=zk K311 0
         have hcz29_1 : wr.cell? ⟨G311,1,none⟩ = some (.bool a0_1):=zk K311 1
         have hfz29_0:=bF K311.1 0
         have hfz29_1:=bF K311.1 1
         have p314 : 0 ≤ (x8_1 : Int):=zd
         have q314 : x8_1 < (l0_0.length : Int):=zd
         obtain ⟨ad314,e314,hx314_0,hx314_1,hx314_2,hx314_3,hx314_4,hx314_5⟩:=at_T39 HR0_0.out x8_1 p314 q314
         cases e314
         replace hx314_0:=zh HB hx314_0
         replace hx314_1:=zh HB hx314_1
         replace hx314_2:=zh HB hx314_2
         replace hx314_3:=zh HB hx314_3
         replace hx314_4:=zh HB hx314_4
         replace hx314_5:=zh HB hx314_5
         replace p314:=eq_true p314
         replace q314:=eq_true q314
         go_wp2_with (first|((with_reducible refine gate_dst (N:=9) rfl ?_);refine zb (N:=9) (cs:=#[.int .i64 0,.int .i64 0,.float .f64 0,.int .i64 0,.float .f64 0,.int .i64 0]) (t:=39) ?_;intro G315 hg w30 hbox hb;have K315:=Aside0.mk (hbox);have GW315:=zN HB hg;have GE315:=zN HB hg;replace HB:=zS HB hb;have NB311_315:=zL K311 hg;have NB315_311:=zG K311 hg;replace K311:=zB K311 hb;have NB312_315:=zL K312 hg;have NB315_312:=zG K312 hg;replace K312:=zB K312 hb;have NB313_315:=zL K313 hg;have NB315_313:=zG K313 hg;replace K313:=zB K313 hb;clear hb hbox hg;have hnb31:=NB315_311.1;have hnc31:=NB311_315.1;have hnb32:=NB315_312.1;have hnc32:=NB312_315.1;have hnb33:=NB315_313.1;have hnc33:=NB313_315.1;have hcz34_0 : w30.cell? ⟨G315,0,none⟩ = some (.int .i64 0):=zk K315 0;have hcz34_1 : w30.cell? ⟨G315,1,none⟩ = some (.int .i64 0):=zk K315 1;have hcz34_2 : w30.cell? ⟨G315,2,none⟩ = some (.float .f64 0):=zk K315 2;have hcz34_3 : w30.cell? ⟨G315,3,none⟩ = some (.int .i64 0):=zk K315 3;have hcz34_4 : w30.cell? ⟨G315,4,none⟩ = some (.float .f64 0):=zk K315 4;have hcz34_5 : w30.cell? ⟨G315,5,none⟩ = some (.int .i64 0):=zk K315 5;have hfz34_0:=bF K315.1 0;have hfz34_1:=bF K315.1 1;have hfz34_2:=bF K315.1 2;have hfz34_3:=bF K315.1 3;have hfz34_4:=bF K315.1 4;have hfz34_5:=bF K315.1 5)|((with_reducible refine gate_store (t:=39) (p:=9) rfl ?_);refine store_event (t:=39) (p:=9) (v:=?vo_w35) (w1:=((((((w30.setCell ⟨G315,0,none⟩ (.int .i64 ((rd_T39 l0_0 x8_1).f0))).setCell ⟨G315,1,none⟩ (.int .i64 ((rd_T39 l0_0 x8_1).f1))).setCell ⟨G315,2,none⟩ (.float .f64 ((rd_T39 l0_0 x8_1).f2))).setCell ⟨G315,3,none⟩ (.int .i64 ((rd_T39 l0_0 x8_1).f3))).setCell ⟨G315,4,none⟩ (.float .f64 ((rd_T39 l0_0 x8_1).f4))).setCell ⟨G315,5,none⟩ (.int .i64 ((rd_T39 l0_0 x8_1).f5)))) ?hg ?ho ?hn ?hr ?_;(case ho => rfl);(case hg => rfl);(case hn => rfl);(case hr => first|(go_simp;done)|(go_simp;rfl));intro w35 hw;replace K311 : Aside0 (w35.heap[G311]? = some (.cells #[.slice (some ad314) l0_0.length c0_0,.bool a0_1] 24 (0,0))):=⟨(by rw [hw];exact (zf K311))⟩;replace K312 : Aside0 (w35.heap[G312]? = some (.cells #[.int .i64 0,.int .i64 0,.float .f64 0,.int .i64 0,.float .f64 0,.int .i64 0] 39 (0,0))):=⟨(by rw [hw];exact (zf K312))⟩;replace K313 : Aside0 (w35.heap[G313]? = some (.cells #[.int .i64 x314000_1,.int .i64 x314001_1,.float .f64 x314002_1,.int .i64 x314003_1,.float .f64 x314004_1,.int .i64 x314005_1] 39 (0,0))):=⟨(by rw [hw];exact (zf K313))⟩;replace K315 : Aside0 (w35.heap[G315]? = some (.cells #[.int .i64 ((rd_T39 l0_0 x8_1).f0),.int .i64 ((rd_T39 l0_0 x8_1).f1),.float .f64 ((rd_T39 l0_0 x8_1).f2),.int .i64 ((rd_T39 l0_0 x8_1).f3),.float .f64 ((rd_T39 l0_0 x8_1).f4),.int .i64 ((rd_T39 l0_0 x8_1).f5)] 39 (0,0))):=⟨(by rw [hw];exact (zF K315))⟩;replace HB : Aside0 (Below w.heap.size w w35):=⟨(by rw [hw];exact (zH HB))⟩;clear hw;have hcz36_0 : w35.cell? ⟨G315,0,none⟩ = some (.int .i64 ((rd_T39 l0_0 x8_1).f0)):=zk K315 0;have hcz36_1 : w35.cell? ⟨G315,1,none⟩ = some (.int .i64 ((rd_T39 l0_0 x8_1).f1)):=zk K315 1;have hcz36_2 : w35.cell? ⟨G315,2,none⟩ = some (.float .f64 ((rd_T39 l0_0 x8_1).f2)):=zk K315 2;have hcz36_3 : w35.cell? ⟨G315,3,none⟩ = some (.int .i64 ((rd_T39 l0_0 x8_1).f3)):=zk K315 3;have hcz36_4 : w35.cell? ⟨G315,4,none⟩ = some (.float .f64 ((rd_T39 l0_0 x8_1).f4)):=zk K315 4;have hcz36_5 : w35.cell? ⟨G315,5,none⟩ = some (.int .i64 ((rd_T39 l0_0 x8_1).f5)):=zk K315 5;have hfz36_0:=bF K315.1 0;have hfz36_1:=bF K315.1 1;have hfz36_2:=bF K315.1 2;have hfz36_3:=bF K315.1 3;have hfz36_4:=bF K315.1 4;have hfz36_5:=bF K315.1 5)|(go_at_call 54;(with_reducible refine (beaconref17_Far.calls ((rd_T39 l0_0 x8_1).f2) false _ A13.out).mono ?_);rintro e w' ⟨rfl,⟨nd,rfl⟩⟩;(try (rw [drewN_self w35];generalize hq_ : World.drewN w35 _ = w35;replace K311 : Aside0 (w35.heap[G311]? = some (.cells #[.slice (some ad314) l0_0.length c0_0,.bool a0_1] 24 (0,0))):=⟨by rw [← hq_];exact (z1 K311.1)⟩;replace K312 : Aside0 (w35.heap[G312]? = some (.cells #[.int .i64 0,.int .i64 0,.float .f64 0,.int .i64 0,.float .f64 0,.int .i64 0] 39 (0,0))):=⟨by rw [← hq_];exact (z1 K312.1)⟩;replace K313 : Aside0 (w35.heap[G313]? = some (.cells #[.int .i64 x314000_1,.int .i64 x314001_1,.float .f64 x314002_1,.int .i64 x314003_1,.float .f64 x314004_1,.int .i64 x314005_1] 39 (0,0))):=⟨by rw [← hq_];exact (z1 K313.1)⟩;replace K315 : Aside0 (w35.heap[G315]? = some (.cells #[.int .i64 ((rd_T39 l0_0 x8_1).f0),.int .i64 ((rd_T39 l0_0 x8_1).f1),.float .f64 ((rd_T39 l0_0 x8_1).f2),.int .i64 ((rd_T39 l0_0 x8_1).f3),.float .f64 ((rd_T39 l0_0 x8_1).f4),.int .i64 ((rd_T39 l0_0 x8_1).f5)] 39 (0,0))):=⟨by rw [← hq_];exact (z1 K315.1)⟩;replace HB : Aside0 (Below w.heap.size w w35):=⟨by rw [← hq_];exact (zH HB)⟩;clear hq_));have hcz37_0 : w35.cell? ⟨G315,0,none⟩ = some (.int .i64 ((rd_T39 l0_0 x8_1).f0)):=zk K315 0;have hcz37_1 : w35.cell? ⟨G315,1,none⟩ = some (.int .i64 ((rd_T39 l0_0 x8_1).f1)):=zk K315 1;have hcz37_2 : w35.cell? ⟨G315,2,none⟩ = some (.float .f64 ((rd_T39 l0_0 x8_1).f2)):=zk K315 2;have hcz37_3 : w35.cell? ⟨G315,3,none⟩ = some (.int .i64 ((rd_T39 l0_0 x8_1).f3)):=zk K315 3;have hcz37_4 : w35.cell? ⟨G315,4,none⟩ = some (.float .f64 ((rd_T39 l0_0 x8_1).f4)):=zk K315 4;have hcz37_5 : w35.cell? ⟨G315,5,none⟩ = some (.int .i64 ((rd_T39 l0_0 x8_1).f5)):=zk K315 5;have hfz37_0:=bF K315.1 0;have hfz37_1:=bF K315.1 1;have hfz37_2:=bF K315.1 2;have hfz37_3:=bF K315.1 3;have hfz37_4:=bF K315.1 4;have hfz37_5:=bF K315.1 5;have hnb38:=NB313_312.1;have hnc38:=NB312_313.1;have hcz39_0 : w35.cell? ⟨G313,0,none⟩ = some (.int .i64 x314000_1):=zk K313 0;have hcz39_1 : w35.cell? ⟨G313,1,none⟩ = some (.int .i64 x314001_1):=zk K313 1;have hcz39_2 : w35.cell? ⟨G313,2,none⟩ = some (.float .f64 x314002_1):=zk K313 2;have hcz39_3 : w35.cell? ⟨G313,3,none⟩ = some (.int .i64 x314003_1):=zk K313 3;have hcz39_4 : w35.cell? ⟨G313,4,none⟩ = some (.float .f64 x314004_1):=zk K313 4;have hcz39_5 : w35.cell? ⟨G313,5,none⟩ = some (.int .i64 x314005_1):=zk K313 5;have hfz39_0:=bF K313.1 0;have hfz39_1:=bF K313.1 1;have hfz39_2:=bF K313.1 2;have hfz39_3:=bF K313.1 3;have hfz39_4:=bF K313.1 4;have hfz39_5:=bF K313.1 5)|((with_reducible refine gate_store (t:=39) (p:=6) rfl ?_);refine store_event (t:=39) (p:=6) (v:=?vo_w40) (w1:=((((((w35.setCell ⟨G313,0,none⟩ (.int .i64 ((rd_T39 l0_0 x8_1).f0))).setCell ⟨G313,1,none⟩ (.int .i64 ((rd_T39 l0_0 x8_1).f1))).setCell ⟨G313,2,none⟩ (.float .f64 ((rd_T39 l0_0 x8_1).f2))).setCell ⟨G313,3,none⟩ (.int .i64 ((rd_T39 l0_0 x8_1).f3))).setCell ⟨G313,4,none⟩ (.float .f64 ((rd_T39 l0_0 x8_1).f4))).setCell ⟨G313,5,none⟩ (.int .i64 ((rd_T39 l0_0 x8_1).f5)))) ?hg ?ho ?hn ?hr ?_;(case ho => rfl);(case hg => rfl);(case hn => rfl);(case hr => first|(go_simp;done)|(go_simp;rfl));intro w40 hw;replace K311 : Aside0 (w40.heap[G311]? = some (.cells #[.slice (some ad314) l0_0.length c0_0,.bool a0_1] 24 (0,0))):=⟨(by rw [hw];exact (zf K311))⟩;replace K312 : Aside0 (w40.heap[G312]? = some (.cells #[.int .i64 0,.int .i64 0,.float .f64 0,.int .i64 0,.float .f64 0,.int .i64 0] 39 (0,0))):=⟨(by rw [hw];exact (zf K312))⟩;replace K313 : Aside0 (w40.heap[G313]? = some (.cells #[.int .i64 ((rd_T39 l0_0 x8_1).f0),.int .i64 ((rd_T39 l0_0 x8_1).f1),.float .f64 ((rd_T39 l0_0 x8_1).f2),.int .i64 ((rd_T39 l0_0 x8_1).f3),.float .f64 ((rd_T39 l0_0 x8_1).f4),.int .i64 ((rd_T39 l0_0 x8_1).f5)] 39 (0,0))):=⟨(by rw [hw];exact (zF K313))⟩;replace K315 : Aside0 (w40.heap[G315]? = some (.cells #[.int .i64 ((rd_T39 l0_0 x8_1).f0),.int .i64 ((rd_T39 l0_0 x8_1).f1),.float .f64 ((rd_T39 l0_0 x8_1).f2),.int .i64 ((rd_T39 l0_0 x8_1).f3),.float .f64 ((rd_T39 l0_0 x8_1).f4),.int .i64 ((rd_T39 l0_0 x8_1).f5)] 39 (0,0))):=⟨(by rw [hw];exact (zf K315))⟩;replace HB : Aside0 (Below w.heap.size w w40):=⟨(by rw [hw];exact (zH HB))⟩;clear hw))
         go_roundg k1
         case measure => have:=HK1.out;omega
         case rel => exact ⟨(true),(wrap64 (x8_1 + 1)),((rd_T39 l0_0 x8_1).f0),((rd_T39 l0_0 x8_1).f1),((rd_T39 l0_0 x8_1).f2),((rd_T39 l0_0 x8_1).f3),((rd_T39 l0_0 x8_1).f4),((rd_T39 l0_0 x8_1).f5),ze,ze,H',⟨by have:=HK1.out;omega⟩,⟨z1 K311.1⟩,⟨z1 K312.1⟩,⟨z1 K313.1⟩,⟨zH HB⟩⟩
        ·rw [if_neg c26] at H
         have c26b0 : decide (((rd_T39 l0_0 x8_1).f1) < x314001_1) = false:=decide_eq_false c26
         clear c26
         have H':=Aside0.mk H
         clear H
         have hnb41:=NB311_312.1
         have hnc41:=NB312_311.1
         have hnb42:=NB311_313.1
         have hnc42:=NB313_311.1
         have hcz43_0 : wr.cell? ⟨G311,0,none⟩ = some (.slice A0_0 l0_0.length c0_0):=zk K311 0
         have hcz43_1 : wr.cell? ⟨G311,1,none⟩ = some (.bool a0_1):=zk K311 1
         have hfz43_0:=bF K311.1 0
         have hfz43_1:=bF K311.1 1
         have p314 : 0 ≤ (x8_1 : Int):=zd
         have q314 : x8_1 < (l0_0.length : Int):=zd
         obtain ⟨ad314,e314,hx314_0,hx314_1,hx314_2,hx314_3,hx314_4,hx314_5⟩:=at_T39 HR0_0.out x8_1 p314 q314
         cases e314
         replace hx314_0:=zh HB hx314_0
         replace hx314_1:=zh HB hx314_1
         replace hx314_2:=zh HB hx314_2
         replace hx314_3:=zh HB hx314_3
         replace hx314_4:=zh HB hx314_4
         replace hx314_5:=zh HB hx314_5
         replace p314:=eq_true p314
         replace q314:=eq_true q314
         go_wp2_with (first|((with_reducible refine gate_dst (N:=9) rfl ?_);refine zb (N:=9) (cs:=#[.int .i64 0,.int .i64 0,.float .f64 0,.int .i64 0,.float .f64 0,.int .i64 0]) (t:=39) ?_;intro G315 hg w44 hbox hb;have K315:=Aside0.mk (hbox);have GW315:=zN HB hg;have GE315:=zN HB hg;replace HB:=zS HB hb;have NB311_315:=zL K311 hg;have NB315_311:=zG K311 hg;replace K311:=zB K311 hb;have NB312_315:=zL K312 hg;have NB315_312:=zG K312 hg;replace K312:=zB K312 hb;have NB313_315:=zL K313 hg;have NB315_313:=zG K313 hg;replace K313:=zB K313 hb;clear hb hbox hg;have hnb45:=NB315_311.1;have hnc45:=NB311_315.1;have hnb46:=NB315_312.1;have hnc46:=NB312_315.1;have hnb47:=NB315_313.1;have hnc47:=NB313_315.1;have hcz48_0 : w44.cell? ⟨G315,0,none⟩ = some (.int .i64 0):=zk K315 0;have hcz48_1 : w44.cell? ⟨G315,1,none⟩ = some (.int .i64 0):=zk K315 1;have hcz48_2 : w44.cell? ⟨G315,2,none⟩ = some (.float .f64 0):=zk K315 2;have hcz48_3 : w44.cell? ⟨G315,3,none⟩ = some (.int .i64 0):=zk K315 3;have hcz48_4 : w44.cell? ⟨G315,4,none⟩ = some (.float .f64 0):=zk K315 4;have hcz48_5 : w44.cell? ⟨G315,5,none⟩ = some (.int .i64 0):=zk K315 5;have hfz48_0:=bF K315.1 0;have hfz48_1:=bF K315.1 1;have hfz48_2:=bF K315.1 2;have hfz48_3:=bF K315.1 3;have hfz48_4:=bF K315.1 4;have hfz48_5:=bF K315.1 5)|((with_reducible refine gate_store (t:=39) (p:=9) rfl ?_);refine store_event (t:=39) (p:=9) (v:=?vo_w49) (w1:=((((((w44.setCell ⟨G315,0,none⟩ (.int .i64 ((rd_T39 l0_0 x8_1).f0))).setCell ⟨G315,1,none⟩ (.int .i64 ((rd_T39 l0_0 x8_1).f1))).setCell ⟨G315,2,none⟩ (.float .f64 ((rd_T39 l0_0 x8_1).f2))).setCell ⟨G315,3,none⟩ (.int .i64 ((rd_T39 l0_0 x8_1).f3))).setCell ⟨G315,4,none⟩ (.float .f64 ((rd_T39 l0_0 x8_1).f4))).setCell ⟨G315,5,none⟩ (.int .i64 ((rd_T39 l0_0 x8_1).f5)))) ?hg ?ho ?hn ?hr ?_;(case ho => rfl);(case hg => rfl);(case hn => rfl);(case hr => first|(go_simp;done)|(go_simp;rfl));intro w49 hw;replace K311 : Aside0 (w49.heap[G311]? = some (.cells #[.slice (some ad314) l0_0.length c0_0,.bool a0_1] 24 (0,0))):=⟨(by rw [hw];exact (zf K311))⟩;replace K312 : Aside0 (w49.heap[G312]? = some (.cells #[.int .i64 0,.int .i64 0,.float .f64 0,.int .i64 0,.float .f64 0,.int .i64 0] 39 (0,0))):=⟨(by rw [hw];exact (zf K312))⟩;replace K313 : Aside0 (w49.heap[G313]? = some (.cells #[.int .i64 x314000_1,.int .i64 x314001_1,.float .f64 x314002_1,.int .i64 x314003_1,.float .f64 x314004_1,.int .i64 x314005_1] 39 (0,0))):=⟨(by rw [hw];exact (zf K313))⟩;replace K315 : Aside0 (w49.heap[G315]? = some (.cells #[.int .i64 ((rd_T39 l0_0 x8_1).f0),.int .i64 ((rd_T39 l0_0 x8_1).f1),.float .f64 ((rd_T39 l0_0 x8_1).f2),.int .i64 ((rd_T39 l0_0 x8_1).f3),.float .f64 ((rd_T39 l0_0 x8_1).f4),.int .i64 ((rd_T39 l0_0 x8_1).f5)] 39 (0,0))):=⟨(by rw [hw];exact (zF K315))⟩;replace HB : Aside0 (Below w.heap.size w w49):=⟨(by rw [hw];exact (zH HB))⟩;clear hw;have hcz50_0 : w49.cell? ⟨G315,0,none⟩ = some (.int .i64 ((rd_T39 l0_0 x8_1).f0)):=zk K315 0;have hcz50_1 : w49.cell? ⟨G315,1,none⟩ = some (.int .i64 ((rd_T39 l0_0 x8_1).f1)):=zk K315 1;have hcz50_2 : w49.cell? ⟨G315,2,none⟩ = some (.float .f64 ((rd_T39 l0_0 x8_1).f2)):=zk K315 2;have hcz50_3 : w49.cell? ⟨G315,3,none⟩ = some (.int .i64 ((rd_T39 l0_0 x8_1).f3)):=zk K315 3;have hcz50_4 : w49.cell? ⟨G315,4,none⟩ = some (.float .f64 ((rd_T39 l0_0 x8_1).f4)):=zk K315 4;have hcz50_5 : w49.cell? ⟨G315,5,none⟩ = some (.int .i64 ((rd_T39 l0_0 x8_1).f5)):=zk K315 5;have hfz50_0:=bF K315.1 0;have hfz50_1:=bF K315.1 1;have hfz50_2:=bF K315.1 2;have hfz50_3:=bF K315.1 3;have hfz50_4:=bF K315.1 4;have hfz50_5:=bF K315.1 5)|(go_at_call 54;(with_reducible refine (beaconref17_Far.calls ((rd_T39 l0_0 x8_1).f2) false _ A13.out).mono ?_);rintro e w' ⟨rfl,⟨nd,rfl⟩⟩;have hnb51:=NB313_312.1;have hnc51:=NB312_313.1;have hcz52_0 : w49.cell? ⟨G313,0,none⟩ = some (.int .i64 x314000_1):=zk K313 0;have hcz52_1 : w49.cell? ⟨G313,1,none⟩ = some (.int .i64 x314001_1):=zk K313 1;have hcz52_2 : w49.cell? ⟨G313,2,none⟩ = some (.float .f64 x314002_1):=zk K313 2;have hcz52_3 : w49.cell? ⟨G313,3,none⟩ = some (.int .i64 x314003_1):=zk K313 3;have hcz52_4 : w49.cell? ⟨G313,4,none⟩ = some (.float .f64 x314004_1):=zk K313 4;have hcz52_5 : w49.cell? ⟨G313,5,none⟩ = some (.int .i64 x314005_1):=zk K313 5;have hfz52_0:=bF K313.1 0;have hfz52_1:=bF K313.1 1;have hfz52_2:=bF K313.1 2;have hfz52_3:=bF K313.1 3;have hfz52_4:=bF K313.1 4;have hfz52_5:=bF K313.1 5))
         go_roundg k1
         case measure => have:=HK1.out;omega
         case rel => exact ⟨(true),(wrap64 (x8_1 + 1)),(x314000_1),(x314001_1),(x314002_1),(x314003_1),(x314004_1),(x314005_1),ze,ze,H',⟨by have:=HK1.out;omega⟩,⟨z1 K311.1⟩,⟨z1 K312.1⟩,⟨z1 K313.1⟩,⟨zH HB⟩⟩
       ·replace c25:=Bool.eq_false_iff.mpr c25
        subst c25
        have H1 : (beaconref17_Find.l0 k1 a1 true (wrap64 (x8_1 + 1)) l0_0 a0_1 ((rd_T39 l0_0 x8_1).f0) ((rd_T39 l0_0 x8_1).f1) ((rd_T39 l0_0 x8_1).f2) ((rd_T39 l0_0 x8_1).f3) ((rd_T39 l0_0 x8_1).f4) ((rd_T39 l0_0 x8_1).f5)) = some (r1,r2,r3,r4,r5,r6,r7):=by rw [if_neg (show ¬ (false = true) by decide)] at H;exact H
        clear H
        have H:=H1
        clear H1
        have H':=Aside0.mk H
        clear H
        have hnb53:=NB311_312.1
        have hnc53:=NB312_311.1
        have hnb54:=NB311_313.1
        have hnc54:=NB313_311.1
        have hcz55_0 : wr.cell? ⟨G311,0,none⟩ = some (.slice A0_0 l0_0.length c0_0):=zk K311 0
        have hcz55_1 : wr.cell? ⟨G311,1,none⟩ = some (.bool a0_1):=zk K311 1
        have hfz55_0:=bF K311.1 0
        have hfz55_1:=bF K311.1 1
        have p314 : 0 ≤ (x8_1 : Int):=zd
        have q314 : x8_1 < (l0_0.length : Int):=zd
        obtain ⟨ad314,e314,hx314_0,hx314_1,hx314_2,hx314_3,hx314_4,hx314_5⟩:=at_T39 HR0_0.out x8_1 p314 q314
        cases e314
        replace hx314_0:=zh HB hx314_0
        replace hx314_1:=zh HB hx314_1
        replace hx314_2:=zh HB hx314_2
        replace hx314_3:=zh HB hx314_3
        replace hx314_4:=zh HB hx314_4
        replace hx314_5:=zh HB hx314_5
        replace p314:=eq_true p314
        replace q314:=eq_true q314
        go_wp2_with (first|((with_reducible refine gate_dst (N:=9) rfl ?_);refine zb (N:=9) (cs:=#[.int .i64 0,.int .i64 0,.float .f64 0,.int .i64 0,.float .f64 0,.int .i64 0]) (t:=39) ?_;intro G315 hg w56 hbox hb;have K315:=Aside0.mk (hbox);have GW315:=zN HB hg;have GE315:=zN HB hg;replace HB:=zS HB hb;have NB311_315:=zL K311 hg;have NB315_311:=zG K311 hg;replace K311:=zB K311 hb;have NB312_315:=zL K312 hg;have NB315_312:=zG K312 hg;replace K312:=zB K312 hb;have NB313_315:=zL K313 hg;have NB315_313:=zG K313 hg;replace K313:=zB K313 hb;clear hb hbox hg;have hnb57:=NB315_311.1;have hnc57:=NB311_315.1;have hnb58:=NB315_312.1;have hnc58:=NB312_315.1;have hnb59:=NB315_313.1;have hnc59:=NB313_315.1;have hcz60_0 : w56.cell? ⟨G315,0,none⟩ = some (.int .i64 0):=zk K315 0;have hcz60_1 : w56.cell? ⟨G315,1,none⟩ = some (.int .i64 0):=zk K315 1;have hcz60_2 : w56.cell? ⟨G315,2,none⟩ = some (.float .f64 0):=zk K315 2;have hcz60_3 : w56.cell? ⟨G315,3,none⟩ = some (.int .i64 0):=zk K315 3;have hcz60_4 : w56.cell? ⟨G315,4,none⟩ = some (.float .f64 0):=zk K315 4;have hcz60_5 : w56.cell? ⟨G315,5,none⟩ = some (.int .i64 0):=zk K315 5;have hfz60_0:=bF K315.1 0;have hfz60_1:=bF K315.1 1;have hfz60_2:=bF K315.1 2;have hfz60_3:=bF K315.1 3;have hfz60_4:=bF K315.1 4;have hfz60_5:=bF K315.1 5)|((with_reducible refine gate_store (t:=39) (p:=9) rfl ?_);refine store_event (t:=39) (p:=9) (v:=?vo_w61) (w1:=((((((w56.setCell ⟨G315,0,none⟩ (.int .i64 ((rd_T39 l0_0 x8_1).f0))).setCell ⟨G315,1,none⟩ (.int .i64 ((rd_T39 l0_0 x8_1).f1))).setCell ⟨G315,2,none⟩ (.float .f64 ((rd_T39 l0_0 x8_1).f2))).setCell ⟨G315,3,none⟩ (.int .i64 ((rd_T39 l0_0 x8_1).f3))).setCell ⟨G315,4,none⟩ (.float .f64 ((rd_T39 l0_0 x8_1).f4))).setCell ⟨G315,5,none⟩ (.int .i64 ((rd_T39 l0_0 x8_1).f5)))) ?hg ?ho ?hn ?hr ?_;(case ho => rfl);(case hg => rfl);(case hn => rfl);(case hr => first|(go_simp;done)|(go_simp;rfl));intro w61 hw;replace K311 : Aside0 (w61.heap[G311]? = some (.cells #[.slice (some ad314) l0_0.length c0_0,.bool a0_1] 24 (0,0))):=⟨(by rw [hw];exact (zf K311))⟩;replace K312 : Aside0 (w61.heap[G312]? = some (.cells #[.int .i64 0,.int .i64 0,.float .f64 0,.int .i64 0,.float .f64 0,.int .i64 0] 39 (0,0))):=⟨(by rw [hw];exact (zf K312))⟩;replace K313 : Aside0 (w61.heap[G313]? = some (.cells #[.int .i64 x314000_1,.int .i64 x314001_1,.float .f64 x314002_1,.int .i64 x314003_1,.float .f64 x314004_1,.int .i64 x314005_1] 39 (0,0))):=⟨(by rw [hw];exact (zf K313))⟩;replace K315 : Aside0 (w61.heap[G315]? = some (.cells #[.int .i64 ((rd_T39 l0_0 x8_1).f0),.int .i64 ((rd_T39 l0_0 x8_1).f1),.float .f64 ((rd_T39 l0_0 x8_1).f2),.int .i64 ((rd_T39 l0_0 x8_1).f3),.float .f64 ((rd_T39 l0_0 x8_1).f4),.int .i64 ((rd_T39 l0_0 x8_1).f5)] 39 (0,0))):=⟨(by rw [hw];exact (zF K315))⟩;replace HB : Aside0 (Below w.heap.size w w61):=⟨(by rw [hw];exact (zH HB))⟩;clear hw;have hcz62_0 : w61.cell? ⟨G315,0,none⟩ = some (.int .i64 ((rd_T39 l0_0 x8_1).f0)):=zk K315 0;have hcz62_1 : w61.cell? ⟨G315,1,none⟩ = some (.int .i64 ((rd_T39 l0_0 x8_1).f1)):=zk K315 1;have hcz62_2 : w61.cell? ⟨G315,2,none⟩ = some (.float .f64 ((rd_T39 l0_0 x8_1).f2)):=zk K315 2;have hcz62_3 : w61.cell? ⟨G315,3,none⟩ = some (.int .i64 ((rd_T39 l0_0 x8_1).f3)):=zk K315 3;have hcz62_4 : w61.cell? ⟨G315,4,none⟩ = some (.float .f64 ((rd_T39 l0_0 x8_1).f4)):=zk K315 4;have hcz62_5 : w61.cell? ⟨G315,5,none⟩ = some (.int .i64 ((rd_T39 l0_0 x8_1).f5)):=zk K315 5;have hfz62_0:=bF K315.1 0;have hfz62_1:=bF K315.1 1;have hfz62_2:=bF K315.1 2;have hfz62_3:=bF K315.1 3;have hfz62_4:=bF K315.1 4;have hfz62_5:=bF K315.1 5)|(go_at_call 54;(with_reducible refine (beaconref17_Far.calls ((rd_T39 l0_0 x8_1).f2) false _ A13.out).mono ?_);rintro e w' ⟨rfl,⟨nd,rfl⟩⟩;(try (rw [drewN_self w61];generalize hq_ : World.drewN w61 _ = w61;replace K311 : Aside0 (w61.heap[G311]? = some (.cells #[.slice (some ad314) l0_0.length c0_0,.bool a0_1] 24 (0,0))):=⟨by rw [← hq_];exact (z1 K311.1)⟩;replace K312 : Aside0 (w61.heap[G312]? = some (.cells #[.int .i64 0,.int .i64 0,.float .f64 0,.int .i64 0,.float .f64 0,.int .i64 0] 39 (0,0))):=⟨by rw [← hq_];exact (z1 K312.1)⟩;replace K313 : Aside0 (w61.heap[G313]? = some (.cells #[.int .i64 x314000_1,.int .i64 x314001_1,.float .f64 x314002_1,.int .i64 x314003_1,.float .f64 x314004_1,.int .i64 x314005_1] 39 (0,0))):=⟨by rw [← hq_];exact (z1 K313.1)⟩;replace K315 : Aside0 (w61.heap[G315]? = some (.cells #[.int .i64 ((rd_T39 l0_0 x8_1).f0),.int .i64 ((rd_T39 l0_0 x8_1).f1),.float .f64 ((rd_T39 l0_0 x8_1).f2),.int .i64 ((rd_T39 l0_0 x8_1).f3),.float .f64 ((rd_T39 l0_0 x8_1).f4),.int .i64 ((rd_T39 l0_0 x8_1).f5)] 39 (0,0))):=⟨by rw [← hq_];exact (z1 K315.1)⟩;replace HB : Aside0 (Below w.heap.size w w61):=⟨by rw [← hq_];exact (zH HB)⟩;clear hq_));have hcz63_0 : w61.cell? ⟨G315,0,none⟩ = some (.int .i64 ((rd_T39 l0_0 x8_1).f0)):=zk K315 0;have hcz63_1 : w61.cell? ⟨G315,1,none⟩ = some (.int .i64 ((rd_T39 l0_0 x8_1).f1)):=zk K315 1;have hcz63_2 : w61.cell? ⟨G315,2,none⟩ = some (.float .f64 ((rd_T39 l0_0 x8_1).f2)):=zk K315 2;have hcz63_3 : w61.cell? ⟨G315,3,none⟩ = some (.int .i64 ((rd_T39 l0_0 x8_1).f3)):=zk K315 3;have hcz63_4 : w61.cell? ⟨G315,4,none⟩ = some (.float .f64 ((rd_T39 l0_0 x8_1).f4)):=zk K315 4;have hcz63_5 : w61.cell? ⟨G315,5,none⟩ = some (.int .i64 ((rd_T39 l0_0 x8_1).f5)):=zk K315 5;have hfz63_0:=bF K315.1 0;have hfz63_1:=bF K315.1 1;have hfz63_2:=bF K315.1 2;have hfz63_3:=bF K315.1 3;have hfz63_4:=bF K315.1 4;have hfz63_5:=bF K315.1 5;have hnb64:=NB313_312.1;have hnc64:=NB312_313.1;have hcz65_0 : w61.cell? ⟨G313,0,none⟩ = some (.int .i64 x314000_1):=zk K313 0;have hcz65_1 : w61.cell? ⟨G313,1,none⟩ = some (.int .i64 x314001_1):=zk K313 1;have hcz65_2 : w61.cell? ⟨G313,2,none⟩ = some (.float .f64 x314002_1):=zk K313 2;have hcz65_3 : w61.cell? ⟨G313,3,none⟩ = some (.int .i64 x314003_1):=zk K313 3;have hcz65_4 : w61.cell? ⟨G313,4,none⟩ = some (.float .f64 x314004_1):=zk K313 4;have hcz65_5 : w61.cell? ⟨G313,5,none⟩ = some (.int .i64 x314005_1):=zk K313 5;have hfz65_0:=bF K313.1 0;have hfz65_1:=bF K313.1 1;have hfz65_2:=bF K313.1 2;have hfz65_3:=bF K313.1 3;have hfz65_4:=bF K313.1 4;have hfz65_5:=bF K313.1 5)|((with_reducible refine gate_store (t:=39) (p:=6) rfl ?_);refine store_event (t:=39) (p:=6) (v:=?vo_w66) (w1:=((((((w61.setCell ⟨G313,0,none⟩ (.int .i64 ((rd_T39 l0_0 x8_1).f0))).setCell ⟨G313,1,none⟩ (.int .i64 ((rd_T39 l0_0 x8_1).f1))).setCell ⟨G313,2,none⟩ (.float .f64 ((rd_T39 l0_0 x8_1).f2))).setCell ⟨G313,3,none⟩ (.int .i64 ((rd_T39 l0_0 x8_1).f3))).setCell ⟨G313,4,none⟩ (.float .f64 ((rd_T39 l0_0 x8_1).f4))).setCell ⟨G313,5,none⟩ (.int .i64 ((rd_T39 l0_0 x8_1).f5)))) ?hg ?ho ?hn ?hr ?_;(case ho => rfl);(case hg => rfl);(case hn => rfl);(case hr => first|(go_simp;done)|(go_simp;rfl));intro w66 hw;replace K311 : Aside0 (w66.heap[G311]? = some (.cells #[.slice (some ad314) l0_0.length c0_0,.bool a0_1] 24 (0,0))):=⟨(by rw [hw];exact (zf K311))⟩;replace K312 : Aside0 (w66.heap[G312]? = some (.cells #[.int .i64 0,.int .i64 0,.float .f64 0,.int .i64 0,.float .f64 0,.int .i64 0] 39 (0,0))):=⟨(by rw [hw];exact (zf K312))⟩;replace K313 : Aside0 (w66.heap[G313]? = some (.cells #[.int .i64 ((rd_T39 l0_0 x8_1).f0),.int .i64 ((rd_T39 l0_0 x8_1).f1),.float .f64 ((rd_T39 l0_0 x8_1).f2),.int .i64 ((rd_T39 l0_0 x8_1).f3),.float .f64 ((rd_T39 l0_0 x8_1).f4),.int .i64 ((rd_T39 l0_0 x8_1).f5)] 39 (0,0))):=⟨(by rw [hw];exact (zF K313))⟩;replace K315 : Aside0 (w66.heap[G315]? = some (.cells #[.int .i64 ((rd_T39 l0_0 x8_1).f0),.int .i64 ((rd_T39 l0_0 x8_1).f1),.float .f64 ((rd_T39 l0_0 x8_1).f2),.int .i64 ((rd_T39 l0_0 x8_1).f3),.float .f64 ((rd_T39 l0_0 x8_1).f4),.int .i64 ((rd_T39 l0_0 x8_1).f5)] 39 (0,0))):=⟨(by rw [hw];exact (zf K315))⟩;replace HB : Aside0 (Below w.heap.size w w66):=⟨(by rw [hw];exact (zH HB))⟩;clear hw))
        go_roundg k1
        case measure => have:=HK1.out;omega
        case rel => exact ⟨(true),(wrap64 (x8_1 + 1)),((rd_T39 l0_0 x8_1).f0),((rd_T39 l0_0 x8_1).f1),((rd_T39 l0_0 x8_1).f2),((rd_T39 l0_0 x8_1).f3),((rd_T39 l0_0 x8_1).f4),((rd_T39 l0_0 x8_1).f5),ze,ze,H',⟨by have:=HK1.out;omega⟩,⟨z1 K311.1⟩,⟨z1 K312.1⟩,⟨z1 K313.1⟩,⟨zH HB⟩⟩
     ·rw [if_neg c12] at H
      have c12b0 : (((rd_T39 l0_0 x8_1).f0) == a1) = false:=beq_eq_false_iff_ne.mpr c12
      have c12b1 : (((rd_T39 l0_0 x8_1).f0) != a1) = true:=bne_iff_ne.mpr c12
      have H':=Aside0.mk H
      clear H
      have hnb67:=NB311_312.1
      have hnc67:=NB312_311.1
      have hnb68:=NB311_313.1
      have hnc68:=NB313_311.1
      have hcz69_0 : wr.cell? ⟨G311,0,none⟩ = some (.slice A0_0 l0_0.length c0_0):=zk K311 0
      have hcz69_1 : wr.cell? ⟨G311,1,none⟩ = some (.bool a0_1):=zk K311 1
      have hfz69_0:=bF K311.1 0
      have hfz69_1:=bF K311.1 1
      have p314 : 0 ≤ (x8_1 : Int):=zd
      have q314 : x8_1 < (l0_0.length : Int):=zd
      obtain ⟨ad314,e314,hx314_0,hx314_1,hx314_2,hx314_3,hx314_4,hx314_5⟩:=at_T39 HR0_0.out x8_1 p314 q314
      cases e314
      replace hx314_0:=zh HB hx314_0
      replace hx314_1:=zh HB hx314_1
      replace hx314_2:=zh HB hx314_2
      replace hx314_3:=zh HB hx314_3
      replace hx314_4:=zh HB hx314_4
      replace hx314_5:=zh HB hx314_5
      replace p314:=eq_true p314
      replace q314:=eq_true q314
      go_wp2_with (first|((with_reducible refine gate_dst (N:=9) rfl ?_);refine zb (N:=9) (cs:=#[.int .i64 0,.int .i64 0,.float .f64 0,.int .i64 0,.float .f64 0,.int .i64 0]) (t:=39) ?_;intro G315 hg w70 hbox hb;have K315:=Aside0.mk (hbox);have GW315:=zN HB hg;have GE315:=zN HB hg;replace HB:=zS HB hb;have NB311_315:=zL K311 hg;have NB315_311:=zG K311 hg;replace K311:=zB K311 hb;have NB312_315:=zL K312 hg;have NB315_312:=zG K312 hg;replace K312:=zB K312 hb;have NB313_315:=zL K313 hg;have NB315_313:=zG K313 hg;replace K313:=zB K313 hb;clear hb hbox hg;have hnb71:=NB315_311.1;have hnc71:=NB311_315.1;have hnb72:=NB315_312.1;have hnc72:=NB312_315.1;have hnb73:=NB315_313.1;have hnc73:=NB313_315.1;have hcz74_0 : w70.cell? ⟨G315,0,none⟩ = some (.int .i64 0):=zk K315 0;have hcz74_1 : w70.cell? ⟨G315,1,none⟩ = some (.int .i64 0):=zk K315 1;have hcz74_2 : w70.cell? ⟨G315,2,none⟩ = some (.float .f64 0):=zk K315 2;have hcz74_3 : w70.cell? ⟨G315,3,none⟩ = some (.int .i64 0):=zk K315 3;have hcz74_4 : w70.cell? ⟨G315,4,none⟩ = some (.float .f64 0):=zk K315 4;have hcz74_5 : w70.cell? ⟨G315,5,none⟩ = some (.int .i64 0):=zk K315 5;have hfz74_0:=bF K315.1 0;have hfz74_1:=bF K315.1 1;have hfz74_2:=bF K315.1 2;have hfz74_3:=bF K315.1 3;have hfz74_4:=bF K315.1 4;have hfz74_5:=bF K315.1 5)|((with_reducible refine gate_store (t:=39) (p:=9) rfl ?_);refine store_event (t:=39) (p:=9) (v:=?vo_w75) (w1:=((((((w70.setCell ⟨G315,0,none⟩ (.int .i64 ((rd_T39 l0_0 x8_1).f0))).setCell ⟨G315,1,none⟩ (.int .i64 ((rd_T39 l0_0 x8_1).f1))).setCell ⟨G315,2,none⟩ (.float .f64 ((rd_T39 l0_0 x8_1).f2))).setCell ⟨G315,3,none⟩ (.int .i64 ((rd_T39 l0_0 x8_1).f3))).setCell ⟨G315,4,none⟩ (.float .f64 ((rd_T39 l0_0 x8_1).f4))).setCell ⟨G315,5,none⟩ (.int .i64 ((rd_T39 l0_0 x8_1).f5)))) ?hg ?ho ?hn ?hr ?_;(case ho => rfl);(case hg => rfl);(case hn => rfl);(case hr => first|(go_simp;done)|(go_simp;rfl));intro w75 hw;replace K311 : Aside0 (w75.heap[G311]? = some (.cells #[.slice (some ad314) l0_0.length c0_0,.bool a0_1] 24 (0,0))):=⟨(by rw [hw];exact (zf K311))⟩;replace K312 : Aside0 (w75.heap[G312]? = some (.cells #[.int .i64 0,.int .i64 0,.float .f64 0,.int .i64 0,.float .f64 0,.int .i64 0] 39 (0,0))):=⟨(by rw [hw];exact (zf K312))⟩;replace K313 : Aside0 (w75.heap[G313]? = some (.cells #[.int .i64 x314000_1,.int .i64 x314001_1,.float .f64 x314002_1,.int .i64 x314003_1,.float .f64 x314004_1,.int .i64 x314005_1] 39 (0,0))):=⟨(by rw [hw];exact (zf K313))⟩;replace K315 : Aside0 (w75.heap[G315]? = some (.cells #[.int .i64 ((rd_T39 l0_0 x8_1).f0),.int .i64 ((rd_T39 l0_0 x8_1).f1),.float .f64 ((rd_T39 l0_0 x8_1).f2),.int .i64 ((rd_T39 l0_0 x8_1).f3),.float .f64 ((rd_T39 l0_0 x8_1).f4),.int .i64 ((rd_T39 l0_0 x8_1).f5)] 39 (0,0))):=⟨(by rw [hw];exact (zF K315))⟩;replace HB : Aside0 (Below w.heap.size w w75):=⟨(by rw [hw];exact (zH HB))⟩;clear hw;have hcz76_0 : w75.cell? ⟨G315,0,none⟩ = some (.int .i64 ((rd_T39 l0_0 x8_1).f0)):=zk K315 0;have hcz76_1 : w75.cell? ⟨G315,1,none⟩ = some (.int .i64 ((rd_T39 l0_0 x8_1).f1)):=zk K315 1;have hcz76_2 : w75.cell? ⟨G315,2,none⟩ = some (.float .f64 ((rd_T39 l0_0 x8_1).f2)):=zk K315 2;have hcz76_3 : w75.cell? ⟨G315,3,none⟩ = some (.int .i64 ((rd_T39 l0_0 x8_1).f3)):=zk K315 3;have hcz76_4 : w75.cell? ⟨G315,4,none⟩ = some (.float .f64 ((rd_T39 l0_0 x8_1).f4)):=zk K315 4;have hcz76_5 : w75.cell? ⟨G315,5,none⟩ = some (.int .i64 ((rd_T39 l0_0 x8_1).f5)):=zk K315 5;have hfz76_0:=bF K315.1 0;have hfz76_1:=bF K315.1 1;have hfz76_2:=bF K315.1 2;have hfz76_3:=bF K315.1 3;have hfz76_4:=bF K315.1 4;have hfz76_5:=bF K315.1 5))
      go_roundg k1
      case measure => have:=HK1.out;omega
      case rel => exact ⟨(x7_1),(wrap64 (x8_1 + 1)),(x314000_1),(x314001_1),(x314002_1),(x314003_1),(x314004_1),(x314005_1),ze,ze,H',⟨by have:=HK1.out;omega⟩,⟨z1 K311.1⟩,⟨z1 K312.1⟩,⟨z1 K313.1⟩,⟨zH HB⟩⟩
    ·rw [if_neg c11] at H
     exact absurd H (by simp)
   ·rw [if_neg c10] at H
    have c10b0 : decide (x8_1 < (l0_0.length : Int)) = false:=decide_eq_false c10
    clear c10
    have H':=Aside0.mk H
    clear H
    have hnb77:=NB311_312.1
    have hnc77:=NB312_311.1
    have hnb78:=NB311_313.1
    have hnc78:=NB313_311.1
    have hcz79_0 : wr.cell? ⟨G311,0,none⟩ = some (.slice A0_0 l0_0.length c0_0):=zk K311 0
    have hcz79_1 : wr.cell? ⟨G311,1,none⟩ = some (.bool a0_1):=zk K311 1
    have hfz79_0:=bF K311.1 0
    have hfz79_1:=bF K311.1 1
    go_wp2
    go_loopg [7,10] k1 (fun kq v7 v10 w' => ∃ (x7_2 : Bool) (x10_2 : Int) (x314000_2 : Int) (x314001_2 : Int) (x314002_2 : Nat) (x314003_2 : Int) (x314004_2 : Nat) (x314005_2 : Int),v7 = .bool x7_2 ∧ v10 = .int .i64 x10_2 ∧ Aside0 (beaconref17_Find.l1 kq a1 x7_2 x10_2 l0_0 a0_1 x314000_2 x314001_2 x314002_2 x314003_2 x314004_2 x314005_2 = some (r1,r2,r3,r4,r5,r6,r7)) ∧ Aside0 (kq ≤ k1) ∧ Aside0 (w'.heap[G311]? = some (.cells #[(.slice A0_0 l0_0.length c0_0),.bool a0_1] 24 (0,0))) ∧ Aside0 (w'.heap[G312]? = some (.cells #[.int .i64 0,.int .i64 0,.float .f64 0,.int .i64 0,.float .f64 0,.int .i64 0] 39 (0,0))) ∧ Aside0 (w'.heap[G313]? = some (.cells #[.int .i64 x314000_2,.int .i64 x314001_2,.float .f64 x314002_2,.int .i64 x314003_2,.float .f64 x314004_2,.int .i64 x314005_2] 39 (0,0))) ∧ Aside0 (Below w.heap.size w w'))
    case atStart => exact ⟨(x7_1),(0),(x314000_1),(x314001_1),(x314002_1),(x314003_1),(x314004_1),(x314005_1),ze,ze,H',⟨Nat.le_refl _⟩,⟨z1 K311.1⟩,⟨z1 K312.1⟩,⟨z1 K313.1⟩,⟨zH HB⟩⟩
    case round =>
     clear H'
     try clear c1;try clear c2;try clear p2;try clear c3;try clear p3;try clear q3;try clear hx3;try clear c4;try clear c5;try clear c6;try clear p6;try clear c7;try clear c10;try clear c10b0;try clear c11;try clear c11b0;try clear c12;try clear c12b0;try clear c12b1;try clear c14;try clear c15;try clear c16;try clear c19;try clear c20;try clear c21;try clear c24;try clear c25;try clear c26;try clear c26b0;try clear c27;try clear c28;try clear c31;try clear p31;try clear q31;try clear hx31;try clear c32;try clear c33;try clear c38;try clear c41;try clear c42;try clear c45;try clear c46;try clear c47;try clear c51;try clear c53;try clear c54;try clear c57;try clear c58;try clear c59;try clear c64;try clear p64;try clear c67;try clear c68;try clear c71;try clear c72;try clear c73;try clear c77;try clear c78;try clear hcz17_0;try clear hcz17_1;try clear hcz22_0;try clear hcz22_1;try clear hcz22_2;try clear hcz22_3;try clear hcz22_4;try clear hcz22_5;try clear hcz24_0;try clear hcz24_1;try clear hcz24_2;try clear hcz24_3;try clear hcz24_4;try clear hcz24_5;try clear hcz29_0;try clear hcz29_1;try clear hcz34_0;try clear hcz34_1;try clear hcz34_2;try clear hcz34_3;try clear hcz34_4;try clear hcz34_5;try clear hcz36_0;try clear hcz36_1;try clear hcz36_2;try clear hcz36_3;try clear hcz36_4;try clear hcz36_5;try clear hcz37_0;try clear hcz37_1;try clear hcz37_2;try clear hcz37_3;try clear hcz37_4;try clear hcz37_5;try clear hcz39_0;try clear hcz39_1;try clear hcz39_2;try clear hcz39_3;try clear hcz39_4;try clear hcz39_5;try clear hcz43_0;try clear hcz43_1;try clear hcz48_0;try clear hcz48_1;try clear hcz48_2;try clear hcz48_3;try clear hcz48_4;try clear hcz48_5;try clear hcz50_0;try clear hcz50_1;try clear hcz50_2;try clear hcz50_3;try clear hcz50_4;try clear hcz50_5;try clear hcz52_0;try clear hcz52_1;try clear hcz52_2;try clear hcz52_3;try clear hcz52_4;try clear hcz52_5;try clear hcz55_0;try clear hcz55_1;try clear hcz60_0;try clear hcz60_1;try clear hcz60_2;try clear hcz60_3;try clear hcz60_4;try clear hcz60_5;try clear hcz62_0;try clear hcz62_1;try clear hcz62_2;try clear hcz62_3;try clear hcz62_4;try clear hcz62_5;try clear hcz63_0;try clear hcz63_1;try clear hcz63_2;try clear hcz63_3;try clear hcz63_4;try clear hcz63_5;try clear hcz65_0;try clear hcz65_1;try clear hcz65_2;try clear hcz65_3;try clear hcz65_4;try clear hcz65_5;try clear hcz69_0;try clear hcz69_1;try clear hcz74_0;try clear hcz74_1;try clear hcz74_2;try clear hcz74_3;try clear hcz74_4;try clear hcz74_5;try clear hcz76_0;try clear hcz76_1;try clear hcz76_2;try clear hcz76_3;try clear hcz76_4;try clear hcz76_5;try clear hcz79_0;try clear hcz79_1;try clear hcz8_0;try clear hcz8_1;try clear hcz8_2;try clear hcz8_3;try clear hcz8_4;try clear hcz8_5;try clear hfz17_0;try clear hfz17_1;try clear hfz22_0;try clear hfz22_1;try clear hfz22_2;try clear hfz22_3;try clear hfz22_4;try clear hfz22_5;try clear hfz24_0;try clear hfz24_1;try clear hfz24_2;try clear hfz24_3;try clear hfz24_4;try clear hfz24_5;try clear hfz29_0;try clear hfz29_1;try clear hfz34_0;try clear hfz34_1;try clear hfz34_2;try clear hfz34_3;try clear hfz34_4;try clear hfz34_5;try clear hfz36_0;try clear hfz36_1;try clear hfz36_2;try clear hfz36_3;try clear hfz36_4;try clear hfz36_5;try clear hfz37_0;try clear hfz37_1;try clear hfz37_2;try clear hfz37_3;try clear hfz37_4;try clear hfz37_5;try clear hfz39_0;try clear hfz39_1;try clear hfz39_2;try clear hfz39_3;try clear hfz39_4;try clear hfz39_5;try clear hfz43_0;try clear hfz43_1;try clear hfz48_0;try clear hfz48_1;try clear hfz48_2;try clear hfz48_3;try clear hfz48_4;try clear hfz48_5;try clear hfz50_0;try clear hfz50_1;try clear hfz50_2;try clear hfz50_3;try clear hfz50_4;try clear hfz50_5;try clear hfz52_0;try clear hfz52_1;try clear hfz52_2;try clear hfz52_3;try clear hfz52_4;try clear hfz52_5;try clear hfz55_0;try clear hfz55_1;try clear hfz60_0;try clear hfz60_1;try clear hfz60_2;try clear hfz60_3;try clear hfz60_4;try clear hfz60_5;try clear hfz62_0;try clear hfz62_1;try clear hfz62_2;try clear hfz62_3;try clear hfz62_4;try clear hfz62_5;try clear hfz63_0;try clear hfz63_1;try clear hfz63_2;try clear hfz63_3;try clear hfz63_4;try clear hfz63_5;try clear hfz65_0;try clear hfz65_1;try clear hfz65_2;try clear hfz65_3;try clear hfz65_4;try clear hfz65_5;try clear hfz69_0;try clear hfz69_1;try clear hfz74_0;try clear hfz74_1;try clear hfz74_2;try clear hfz74_3;try clear hfz74_4;try clear hfz74_5;try clear hfz76_0;try clear hfz76_1;try clear hfz76_2;try clear hfz76_3;try clear hfz76_4;try clear hfz76_5;try clear hfz79_0;try clear hfz79_1;try clear hfz8_0;try clear hfz8_1;try clear hfz8_2;try clear hfz8_3;try clear hfz8_4;try clear hfz8_5;try clear hx314_0;try clear hx314_1;try clear hx314_2;try clear hx314_3;try clear hx314_4;try clear hx314_5;try clear p2;try clear p314;try clear q314
     obtain ⟨x7_2,x10_2,x314000_2,x314001_2,x314002_2,x314003_2,x314004_2,x314005_2,rfl,rfl,HA,HK2,K311,K312,K313,HB⟩:=hrel
     cases gk with
     | zero => exact absurd HA.out (by simp [beaconref17_Find.l1])
     | succ k2 =>
      have H:=HA.out
      clear HA
      simp only [beaconref17_Find.l1] at H
      have HC80:=Aside0.mk H
      clear H
      go_upto_region 9 with (fail)
      go_cut [54] (fun v54 wc => ∃ (kq : Nat) (x54_79 : Bool),v54 = .bool x54_79 ∧ Aside0 (beaconref17_Find.j2 kq a1 x7_2 x10_2 x54_79 l0_0 a0_1 x314000_2 x314001_2 x314002_2 x314003_2 x314004_2 x314005_2 = some (r1,r2,r3,r4,r5,r6,r7)) ∧ Aside0 (kq ≤ k2) ∧ Aside0 (wc.heap[G311]? = some (.cells #[(.slice A0_0 l0_0.length c0_0),.bool a0_1] 24 (0,0))) ∧ Aside0 (wc.heap[G312]? = some (.cells #[.int .i64 0,.int .i64 0,.float .f64 0,.int .i64 0,.float .f64 0,.int .i64 0] 39 (0,0))) ∧ Aside0 (wc.heap[G313]? = some (.cells #[.int .i64 x314000_2,.int .i64 x314001_2,.float .f64 x314002_2,.int .i64 x314003_2,.float .f64 x314004_2,.int .i64 x314005_2] 39 (0,0))) ∧ Aside0 (Below w.heap.size w wc))
      case first =>
       have H:=HC80.out
       clear HC80
       by_cases c81 : x10_2 < (l0_0.length : Int)
       ·rw [if_pos c81] at H
        have c81b0 : decide (x10_2 < (l0_0.length : Int)) = true:=decide_eq_true c81
        clear c81
        (first|rw [c81b0]|(simp only [i64_w,i32_w];rw [c81b0])|skip)
        have H':=Aside0.mk H
        clear H
        have hnb82:=NB311_312.1
        have hnc82:=NB312_311.1
        have hnb83:=NB311_313.1
        have hnc83:=NB313_311.1
        have hcz84_0 : wr.cell? ⟨G311,0,none⟩ = some (.slice A0_0 l0_0.length c0_0):=zk K311 0
        have hcz84_1 : wr.cell? ⟨G311,1,none⟩ = some (.bool a0_1):=zk K311 1
        have hfz84_0:=bF K311.1 0
        have hfz84_1:=bF K311.1 1
        go_wp2
        go_meet
        case rel => exact ⟨_,(!x7_2),ze,H',⟨by have:=HK1.out;have:=HK2.out;first|omega|exact Nat.le_refl _⟩,⟨z1 K311.1⟩,⟨z1 K312.1⟩,⟨z1 K313.1⟩,⟨zH HB⟩⟩
       ·rw [if_neg c81] at H
        have c81b0 : decide (x10_2 < (l0_0.length : Int)) = false:=decide_eq_false c81
        clear c81
        (first|rw [c81b0]|(simp only [i64_w,i32_w];rw [c81b0])|skip)
        have H':=Aside0.mk H
        clear H
        have hnb85:=NB311_312.1
        have hnc85:=NB312_311.1
        have hnb86:=NB311_313.1
        have hnc86:=NB313_311.1
        have hcz87_0 : wr.cell? ⟨G311,0,none⟩ = some (.slice A0_0 l0_0.length c0_0):=zk K311 0
        have hcz87_1 : wr.cell? ⟨G311,1,none⟩ = some (.bool a0_1):=zk K311 1
        have hfz87_0:=bF K311.1 0
        have hfz87_1:=bF K311.1 1
        go_wp2
        go_meet
        case rel => exact ⟨_,(false),ze,H',⟨by have:=HK1.out;have:=HK2.out;first|omega|exact Nat.le_refl _⟩,⟨z1 K311.1⟩,⟨z1 K312.1⟩,⟨z1 K313.1⟩,⟨zH HB⟩⟩
      case rest =>
       clear HC80
       try clear c1;try clear c2;try clear p2;try clear c3;try clear p3;try clear q3;try clear hx3;try clear c4;try clear c5;try clear c6;try clear p6;try clear c7;try clear c8;try clear c10;try clear c10b0;try clear c11;try clear c11b0;try clear c12;try clear c12b0;try clear c12b1;try clear c14;try clear c15;try clear c16;try clear c19;try clear c20;try clear c21;try clear c24;try clear c25;try clear c26;try clear c26b0;try clear c27;try clear c28;try clear c31;try clear p31;try clear q31;try clear hx31;try clear c32;try clear c33;try clear c38;try clear c41;try clear c42;try clear c45;try clear c46;try clear c47;try clear c51;try clear c53;try clear c54;try clear c57;try clear c58;try clear c59;try clear c64;try clear p64;try clear c67;try clear c68;try clear c71;try clear c72;try clear c73;try clear c77;try clear c78;try clear c81;try clear c81b0;try clear c82;try clear c83;try clear c85;try clear c86;try clear hcz17_0;try clear hcz17_1;try clear hcz22_0;try clear hcz22_1;try clear hcz22_2;try clear hcz22_3;try clear hcz22_4;try clear hcz22_5;try clear hcz24_0;try clear hcz24_1;try clear hcz24_2;try clear hcz24_3;try clear hcz24_4;try clear hcz24_5;try clear hcz29_0;try clear hcz29_1;try clear hcz34_0;try clear hcz34_1;try clear hcz34_2;try clear hcz34_3;try clear hcz34_4;try clear hcz34_5;try clear hcz36_0;try clear hcz36_1;try clear hcz36_2;try clear hcz36_3;try clear hcz36_4;try clear hcz36_5;try clear hcz37_0;try clear hcz37_1;try clear hcz37_2;try clear hcz37_3;try clear hcz37_4;try clear hcz37_5;try clear hcz39_0;try clear hcz39_1;try clear hcz39_2;try clear hcz39_3;try clear hcz39_4;try clear hcz39_5;try clear hcz43_0;try clear hcz43_1;try clear hcz48_0;try clear hcz48_1;try clear hcz48_2;try clear hcz48_3;try clear hcz48_4;try clear hcz48_5;try clear hcz50_0;try clear hcz50_1;try clear hcz50_2;try clear hcz50_3;try clear hcz50_4;try clear hcz50_5;try clear hcz52_0;try clear hcz52_1;try clear hcz52_2;try clear hcz52_3;try clear hcz52_4;try clear hcz52_5;try clear hcz55_0;try clear hcz55_1;try clear hcz60_0;try clear hcz60_1;try clear hcz60_2;try clear hcz60_3;try clear hcz60_4;try clear hcz60_5;try clear hcz62_0;try clear hcz62_1;try clear hcz62_2;try clear hcz62_3;try clear hcz62_4;try clear hcz62_5;try clear hcz63_0;try clear hcz63_1;try clear hcz63_2;try clear hcz63_3;try clear hcz63_4;try clear hcz63_5;try clear hcz65_0;try clear hcz65_1;try clear hcz65_2;try clear hcz65_3;try clear hcz65_4;try clear hcz65_5;try clear hcz69_0;try clear hcz69_1;try clear hcz74_0;try clear hcz74_1;try clear hcz74_2;try clear hcz74_3;try clear hcz74_4;try clear hcz74_5;try clear hcz76_0;try clear hcz76_1;try clear hcz76_2;try clear hcz76_3;try clear hcz76_4;try clear hcz76_5;try clear hcz79_0;try clear hcz79_1;try clear hcz84_0;try clear hcz84_1;try clear hcz87_0;try clear hcz87_1;try clear hcz8_0;try clear hcz8_1;try clear hcz8_2;try clear hcz8_3;try clear hcz8_4;try clear hcz8_5;try clear hfz17_0;try clear hfz17_1;try clear hfz22_0;try clear hfz22_1;try clear hfz22_2;try clear hfz22_3;try clear hfz22_4;try clear hfz22_5;try clear hfz24_0;try clear hfz24_1;try clear hfz24_2;try clear hfz24_3;try clear hfz24_4;try clear hfz24_5;try clear hfz29_0;try clear hfz29_1;try clear hfz34_0;try clear hfz34_1;try clear hfz34_2;try clear hfz34_3;try clear hfz34_4;try clear hfz34_5;try clear hfz36_0;try clear hfz36_1;try clear hfz36_2;try clear hfz36_3;try clear hfz36_4;try clear hfz36_5;try clear hfz37_0;try clear hfz37_1;try clear hfz37_2;try clear hfz37_3;try clear hfz37_4;try clear hfz37_5;try clear hfz39_0;try clear hfz39_1;try clear hfz39_2;try clear hfz39_3;try clear hfz39_4;try clear hfz39_5;try clear hfz43_0;try clear hfz43_1;try clear hfz48_0;try clear hfz48_1;try clear hfz48_2;try clear hfz48_3;try clear hfz48_4;try clear hfz48_5;try clear hfz50_0;try clear hfz50_1;try clear hfz50_2;try clear hfz50_3;try clear hfz50_4;try clear hfz50_5;try clear hfz52_0;try clear hfz52_1;try clear hfz52_2;try clear hfz52_3;try clear hfz52_4;try clear hfz52_5;try clear hfz55_0;try clear hfz55_1;try clear hfz60_0;try clear hfz60_1;try clear hfz60_2;try clear hfz60_3;try clear hfz60_4;try clear hfz60_5;try clear hfz62_0;try clear hfz62_1;try clear hfz62_2;try clear hfz62_3;try clear hfz62_4;try clear hfz62_5;try clear hfz63_0;try clear hfz63_1;try clear hfz63_2;try clear hfz63_3;try clear hfz63_4;try clear hfz63_5;try clear hfz65_0;try clear hfz65_1;try clear hfz65_2;try clear hfz65_3;try clear hfz65_4;try clear hfz65_5;try clear hfz69_0;try clear hfz69_1;try clear hfz74_0;try clear hfz74_1;try clear hfz74_2;try clear hfz74_3;try clear hfz74_4;try clear hfz74_5;try clear hfz76_0;try clear hfz76_1;try clear hfz76_2;try clear hfz76_3;try clear hfz76_4;try clear hfz76_5;try clear hfz79_0;try clear hfz79_1;try clear hfz84_0;try clear hfz84_1;try clear hfz87_0;try clear hfz87_1;try clear hfz8_0;try clear hfz8_1;try clear hfz8_2;try clear hfz8_3;try clear hfz8_4;try clear hfz8_5;try clear hx314_0;try clear hx314_1;try clear hx314_2;try clear hx314_3;try clear hx314_4;try clear hx314_5;try clear p2;try clear p3;try clear p31;try clear p314;try clear p6;try clear p64;try clear q3;try clear q31;try clear q314
       obtain ⟨kq,x54_79,rfl,HA,HJ79,K311,K312,K313,HB⟩:=hcut
       cases kq with
       | zero => exact absurd HA.out (by simp [beaconref17_Find.j2])
       | succ kj79 =>
        have H:=HA.out
        clear HA
        simp only [beaconref17_Find.j2] at H
        by_cases c88 : x54_79 = true
        ·subst c88
         have H1 : (if 0 ≤ x10_2 then (if x10_2 < (l0_0.length : Int) then (if ((rd_T39 l0_0 x10_2).f0) = a1 then (beaconref17_Find.l1 kj79 a1 true (wrap64 (x10_2 + 1)) l0_0 a0_1 ((rd_T39 l0_0 x10_2).f0) ((rd_T39 l0_0 x10_2).f1) ((rd_T39 l0_0 x10_2).f2) ((rd_T39 l0_0 x10_2).f3) ((rd_T39 l0_0 x10_2).f4) ((rd_T39 l0_0 x10_2).f5)) else (beaconref17_Find.l1 kj79 a1 x7_2 (wrap64 (x10_2 + 1)) l0_0 a0_1 x314000_2 x314001_2 x314002_2 x314003_2 x314004_2 x314005_2)) else (none)) else (none)) = some (r1,r2,r3,r4,r5,r6,r7):=by rw [if_pos rfl] at H;exact H
         clear H
         have H:=H1
         clear H1
         by_cases c89 : 0 ≤ x10_2
         ·rw [if_pos c89] at H
          have c89b0 : decide (0 ≤ x10_2) = true:=decide_eq_true c89
          clear c89
          by_cases c90 : x10_2 < (l0_0.length : Int)
          ·rw [if_pos c90] at H
           have c90b0 : decide (x10_2 < (l0_0.length : Int)) = true:=decide_eq_true c90
           clear c90
           by_cases c91 : ((rd_T39 l0_0 x10_2).f0) = a1
           ·rw [if_pos c91] at H
            have c91b0 : (((rd_T39 l0_0 x10_2).f0) == a1) = true:=beq_iff_eq.mpr c91
            have c91b1 : (((rd_T39 l0_0 x10_2).f0) != a1) = false:=bne_eq_false_iff_eq.mpr c91
            clear c91
            have H':=Aside0.mk H
            clear H
            have hnb92:=NB311_312.1
            have hnc92:=NB312_311.1
            have hnb93:=NB311_313.1
            have hnc93:=NB313_311.1
            have hcz94_0 : wc.cell? ⟨G311,0,none⟩ = some (.slice A0_0 l0_0.length c0_0):=zk K311 0
            have hcz94_1 : wc.cell? ⟨G311,1,none⟩ = some (.bool a0_1):=zk K311 1
            have hfz94_0:=bF K311.1 0
            have hfz94_1:=bF K311.1 1
            have p317 : 0 ≤ (x10_2 : Int):=zd
            have q317 : x10_2 < (l0_0.length : Int):=zd
            obtain ⟨ad317,e317,hx317_0,hx317_1,hx317_2,hx317_3,hx317_4,hx317_5⟩:=at_T39 HR0_0.out x10_2 p317 q317
            cases e317
            replace hx317_0:=zh HB hx317_0
            replace hx317_1:=zh HB hx317_1
            replace hx317_2:=zh HB hx317_2
            replace hx317_3:=zh HB hx317_3
            replace hx317_4:=zh HB hx317_4
            replace hx317_5:=zh HB hx317_5
            replace p317:=eq_true p317
            replace q317:=eq_true q317
            have p318 : 0 ≤ (x10_2 : Int):=zd
            have q318 : x10_2 < (l0_0.length : Int):=zd
            obtain ⟨ad318,e318,hx318_0,hx318_1,hx318_2,hx318_3,hx318_4,hx318_5⟩:=at_T39 HR0_0.out x10_2 p318 q318
            obtain rfl : ad317 = ad318:=(by injection e318)
            replace hx318_0:=zh HB hx318_0
            replace hx318_1:=zh HB hx318_1
            replace hx318_2:=zh HB hx318_2
            replace hx318_3:=zh HB hx318_3
            replace hx318_4:=zh HB hx318_4
            replace hx318_5:=zh HB hx318_5
            replace p318:=eq_true p318
            replace q318:=eq_true q318
            have hnb95:=NB313_312.1
            have hnc95:=NB312_313.1
            have hcz96_0 : wc.cell? ⟨G313,0,none⟩ = some (.int .i64 x314000_2):=zk K313 0
            have hcz96_1 : wc.cell? ⟨G313,1,none⟩ = some (.int .i64 x314001_2):=zk K313 1
            have hcz96_2 : wc.cell? ⟨G313,2,none⟩ = some (.float .f64 x314002_2):=zk K313 2
            have hcz96_3 : wc.cell? ⟨G313,3,none⟩ = some (.int .i64 x314003_2):=zk K313 3
            have hcz96_4 : wc.cell? ⟨G313,4,none⟩ = some (.float .f64 x314004_2):=zk K313 4
            have hcz96_5 : wc.cell? ⟨G313,5,none⟩ = some (.int .i64 x314005_2):=zk K313 5
            have hfz96_0:=bF K313.1 0
            have hfz96_1:=bF K313.1 1
            have hfz96_2:=bF K313.1 2
            have hfz96_3:=bF K313.1 3
            have hfz96_4:=bF K313.1 4
            have hfz96_5:=bF K313.1 5
            go_wp2_with (first|((with_reducible refine gate_store (t:=39) (p:=6) rfl ?_);refine store_event (t:=39) (p:=6) (v:=?vo_w97) (w1:=((((((wc.setCell ⟨G313,0,none⟩ (.int .i64 ((rd_T39 l0_0 x10_2).f0))).setCell ⟨G313,1,none⟩ (.int .i64 ((rd_T39 l0_0 x10_2).f1))).setCell ⟨G313,2,none⟩ (.float .f64 ((rd_T39 l0_0 x10_2).f2))).setCell ⟨G313,3,none⟩ (.int .i64 ((rd_T39 l0_0 x10_2).f3))).setCell ⟨G313,4,none⟩ (.float .f64 ((rd_T39 l0_0 x10_2).f4))).setCell ⟨G313,5,none⟩ (.int .i64 ((rd_T39 l0_0 x10_2).f5)))) ?hg ?ho ?hn ?hr ?_;(case ho => rfl);(case hg => rfl);(case hn => rfl);(case hr => first|(go_simp;done)|(go_simp;rfl));intro w97 hw;replace K311 : Aside0 (w97.heap[G311]? = some (.cells #[.slice (some ad317) l0_0.length c0_0,.bool a0_1] 24 (0,0))):=⟨(by rw [hw];exact (zf K311))⟩;replace K312 : Aside0 (w97.heap[G312]? = some (.cells #[.int .i64 0,.int .i64 0,.float .f64 0,.int .i64 0,.float .f64 0,.int .i64 0] 39 (0,0))):=⟨(by rw [hw];exact (zf K312))⟩;replace K313 : Aside0 (w97.heap[G313]? = some (.cells #[.int .i64 ((rd_T39 l0_0 x10_2).f0),.int .i64 ((rd_T39 l0_0 x10_2).f1),.float .f64 ((rd_T39 l0_0 x10_2).f2),.int .i64 ((rd_T39 l0_0 x10_2).f3),.float .f64 ((rd_T39 l0_0 x10_2).f4),.int .i64 ((rd_T39 l0_0 x10_2).f5)] 39 (0,0))):=⟨(by rw [hw];exact (zF K313))⟩;replace HB : Aside0 (Below w.heap.size w w97):=⟨(by rw [hw];exact (zH HB))⟩;clear hw))
            go_roundg kj79
            case measure => have:=HK1.out;have:=HK2.out;have:=HJ79.out;omega
            case rel => exact ⟨(true),(wrap64 (x10_2 + 1)),((rd_T39 l0_0 x10_2).f0),((rd_T39 l0_0 x10_2).f1),((rd_T39 l0_0 x10_2).f2),((rd_T39 l0_0 x10_2).f3),((rd_T39 l0_0 x10_2).f4),((rd_T39 l0_0 x10_2).f5),ze,ze,H',⟨by have:=HK1.out;have:=HK2.out;have:=HJ79.out;omega⟩,⟨z1 K311.1⟩,⟨z1 K312.1⟩,⟨z1 K313.1⟩,⟨zH HB⟩⟩
           ·rw [if_neg c91] at H
            have c91b0 : (((rd_T39 l0_0 x10_2).f0) == a1) = false:=beq_eq_false_iff_ne.mpr c91
            have c91b1 : (((rd_T39 l0_0 x10_2).f0) != a1) = true:=bne_iff_ne.mpr c91
            have H':=Aside0.mk H
            clear H
            have hnb98:=NB311_312.1
            have hnc98:=NB312_311.1
            have hnb99:=NB311_313.1
            have hnc99:=NB313_311.1
            have hcz100_0 : wc.cell? ⟨G311,0,none⟩ = some (.slice A0_0 l0_0.length c0_0):=zk K311 0
            have hcz100_1 : wc.cell? ⟨G311,1,none⟩ = some (.bool a0_1):=zk K311 1
            have hfz100_0:=bF K311.1 0
            have hfz100_1:=bF K311.1 1
            have p317 : 0 ≤ (x10_2 : Int):=zd
            have q317 : x10_2 < (l0_0.length : Int):=zd
            obtain ⟨ad317,e317,hx317_0,hx317_1,hx317_2,hx317_3,hx317_4,hx317_5⟩:=at_T39 HR0_0.out x10_2 p317 q317
            cases e317
            replace hx317_0:=zh HB hx317_0
            replace hx317_1:=zh HB hx317_1
            replace hx317_2:=zh HB hx317_2
            replace hx317_3:=zh HB hx317_3
            replace hx317_4:=zh HB hx317_4
            replace hx317_5:=zh HB hx317_5
            replace p317:=eq_true p317
            replace q317:=eq_true q317
            go_wp2
            go_roundg kj79
            case measure => have:=HK1.out;have:=HK2.out;have:=HJ79.out;omega
            case rel => exact ⟨(x7_2),(wrap64 (x10_2 + 1)),(x314000_2),(x314001_2),(x314002_2),(x314003_2),(x314004_2),(x314005_2),ze,ze,H',⟨by have:=HK1.out;have:=HK2.out;have:=HJ79.out;omega⟩,⟨z1 K311.1⟩,⟨z1 K312.1⟩,⟨z1 K313.1⟩,⟨zH HB⟩⟩
          ·rw [if_neg c90] at H
           exact absurd H (by simp)
         ·rw [if_neg c89] at H
          exact absurd H (by simp)
        ·replace c88:=Bool.eq_false_iff.mpr c88
         subst c88
         have H1 : (some (x314000_2,x314001_2,x314002_2,x314003_2,x314004_2,x314005_2,x7_2)) = some (r1,r2,r3,r4,r5,r6,r7):=by rw [if_neg (show ¬ (false = true) by decide)] at H;exact H
         clear H
         have H:=H1
         clear H1
         simp only [Option.some.injEq,Prod.mk.injEq] at H
         obtain ⟨rfl,rfl,rfl,rfl,rfl,rfl,rfl⟩:=H
         have hnb101:=NB313_311.1
         have hnc101:=NB311_313.1
         have hnb102:=NB313_312.1
         have hnc102:=NB312_313.1
         have hcz103_0 : wc.cell? ⟨G313,0,none⟩ = some (.int .i64 x314000_2):=zk K313 0
         have hcz103_1 : wc.cell? ⟨G313,1,none⟩ = some (.int .i64 x314001_2):=zk K313 1
         have hcz103_2 : wc.cell? ⟨G313,2,none⟩ = some (.float .f64 x314002_2):=zk K313 2
         have hcz103_3 : wc.cell? ⟨G313,3,none⟩ = some (.int .i64 x314003_2):=zk K313 3
         have hcz103_4 : wc.cell? ⟨G313,4,none⟩ = some (.float .f64 x314004_2):=zk K313 4
         have hcz103_5 : wc.cell? ⟨G313,5,none⟩ = some (.int .i64 x314005_2):=zk K313 5
         have hfz103_0:=bF K313.1 0
         have hfz103_1:=bF K313.1 1
         have hfz103_2:=bF K313.1 2
         have hfz103_3:=bF K313.1 3
         have hfz103_4:=bF K313.1 4
         have hfz103_5:=bF K313.1 5
         have hnb104:=NB312_311.1
         have hnc104:=NB311_312.1
         have hcz105_0 : wc.cell? ⟨G312,0,none⟩ = some (.int .i64 0):=zk K312 0
         have hcz105_1 : wc.cell? ⟨G312,1,none⟩ = some (.int .i64 0):=zk K312 1
         have hcz105_2 : wc.cell? ⟨G312,2,none⟩ = some (.float .f64 0):=zk K312 2
         have hcz105_3 : wc.cell? ⟨G312,3,none⟩ = some (.int .i64 0):=zk K312 3
         have hcz105_4 : wc.cell? ⟨G312,4,none⟩ = some (.float .f64 0):=zk K312 4
         have hcz105_5 : wc.cell? ⟨G312,5,none⟩ = some (.int .i64 0):=zk K312 5
         have hfz105_0:=bF K312.1 0
         have hfz105_1:=bF K312.1 1
         have hfz105_2:=bF K312.1 2
         have hfz105_3:=bF K312.1 3
         have hfz105_4:=bF K312.1 4
         have hfz105_5:=bF K312.1 5
         go_wp2_with (first|((with_reducible refine gate_store (t:=39) (p:=4) rfl ?_);refine store_event (t:=39) (p:=4) (v:=?vo_w106) (w1:=((((((wc.setCell ⟨G312,0,none⟩ (.int .i64 x314000_2)).setCell ⟨G312,1,none⟩ (.int .i64 x314001_2)).setCell ⟨G312,2,none⟩ (.float .f64 x314002_2)).setCell ⟨G312,3,none⟩ (.int .i64 x314003_2)).setCell ⟨G312,4,none⟩ (.float .f64 x314004_2)).setCell ⟨G312,5,none⟩ (.int .i64 x314005_2))) ?hg ?ho ?hn ?hr ?_;(case ho => rfl);(case hg => rfl);(case hn => rfl);(case hr => first|(go_simp;done)|(go_simp;rfl));intro w106 hw;replace K311 : Aside0 (w106.heap[G311]? = some (.cells #[.slice A0_0 l0_0.length c0_0,.bool a0_1] 24 (0,0))):=⟨(by rw [hw];exact (zf K311))⟩;replace K312 : Aside0 (w106.heap[G312]? = some (.cells #[.int .i64 x314000_2,.int .i64 x314001_2,.float .f64 x314002_2,.int .i64 x314003_2,.float .f64 x314004_2,.int .i64 x314005_2] 39 (0,0))):=⟨(by rw [hw];exact (zF K312))⟩;replace K313 : Aside0 (w106.heap[G313]? = some (.cells #[.int .i64 x314000_2,.int .i64 x314001_2,.float .f64 x314002_2,.int .i64 x314003_2,.float .f64 x314004_2,.int .i64 x314005_2] 39 (0,0))):=⟨(by rw [hw];exact (zf K313))⟩;replace HB : Aside0 (Below w.heap.size w w106):=⟨(by rw [hw];exact (zH HB))⟩;clear hw))
         refine bodyPost_ret (results_ct rfl _ _ G312 39 #[.int .i64 x314000_2,.int .i64 x314001_2,.float .f64 x314002_2,.int .i64 x314003_2,.float .f64 x314004_2,.int .i64 x314005_2] (0,0) _ rfl (z1 K312.1) Try.underlying39 rfl (by kernel_rfl)) rfl ?_
         exact ⟨by first|rfl|(simp [errW_none,errW_some] <;> rfl)|(simp [*,errW_none,errW_some] <;> rfl),zH HB⟩

end Go.Proofs.Ytgmjlhpigfaicaa.XA
