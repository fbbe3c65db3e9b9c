/- Go functions of this seat as Lean functions, with proofs that the calls come to them. (Written by xprint.py, a program of this session, over the kit's print.) -/
import Derived.Test.YtgmjlhpigfaicaaXFx0
import Derived.Test.YtgmjlhpigfaicaaXFx15
namespace Go.Proofs.Ytgmjlhpigfaicaa.XF
open Go.RowKit Go.Proofs.YtgmjlhpigfaicaaW.PrintWords Go.Proofs.YtgmjlhpigfaicaaW.PrintLast Go.Proofs.YtgmjlhpigfaicaaW.PrintMore
attribute [local go_sem] max2_int min2_int max_two min_two max_three min_three max_four min_four   -- for this text's walks alone
set_option linter.unusedVariables false
set_option linter.unusedSimpArgs false
open List renaming setIfInBounds_toArray → xA, set_cons_zero → xB, set_cons_succ → xC
open Go.Proofs.YtgmjlhpigfaicaaW.PrintWords renaming blk_drewN → bN, blk_drew → bD, blk_alloc → bA, below_set → bS, blk_frozen → bF, blk_cell → bC, cell_far → cF, blk_far → bZ, blk_below → bB, pw_below_drewN → bwN, below_drew1 → bw1, below_alloc → bwA
open Go.Proofs.YtgmjlhpigfaicaaW.PrintZ
open Bool renaming true → T,false → F

/-! ### beaconref17_Find: function 24 -/
mutual
def beaconref17_Find.l0 : Nat → Int → Bool → Int → List (S39) → Bool → Int → Int → Nat → Int → Nat → Int → Option (Int × Int × Nat × Int × Nat × Int × Bool)
 | 0, _, _, _, _, _, _, _, _, _, _, _ => none
 | k + 1, x1, x7, x8, x255000, x255001, x257000, x257001, x257002, x257003, x257004, x257005 => if x8 < (x255000.length : Int) then (if 0 ≤ x8 then (if ((rd_T39 x255000 x8).f0) = x1 then ((beaconref17_Far.f ((rd_T39 x255000 x8).f2)).bind fun t259 => (if t259 = true then (beaconref17_Find.l0 k x1 x7 (wrap64 (x8 + 1)) x255000 x255001 x257000 x257001 x257002 x257003 x257004 x257005) else (if x7 = true then (if ((rd_T39 x255000 x8).f1) < x257001 then (beaconref17_Find.l0 k x1 true (wrap64 (x8 + 1)) x255000 x255001 ((rd_T39 x255000 x8).f0) ((rd_T39 x255000 x8).f1) ((rd_T39 x255000 x8).f2) ((rd_T39 x255000 x8).f3) ((rd_T39 x255000 x8).f4) ((rd_T39 x255000 x8).f5)) else (beaconref17_Find.l0 k x1 x7 (wrap64 (x8 + 1)) x255000 x255001 x257000 x257001 x257002 x257003 x257004 x257005)) else (beaconref17_Find.l0 k x1 true (wrap64 (x8 + 1)) x255000 x255001 ((rd_T39 x255000 x8).f0) ((rd_T39 x255000 x8).f1) ((rd_T39 x255000 x8).f2) ((rd_T39 x255000 x8).f3) ((rd_T39 x255000 x8).f4) ((rd_T39 x255000 x8).f5))))) else (beaconref17_Find.l0 k x1 x7 (wrap64 (x8 + 1)) x255000 x255001 x257000 x257001 x257002 x257003 x257004 x257005)) else (none)) else (beaconref17_Find.l1 k x1 x7 0 x255000 x255001 x257000 x257001 x257002 x257003 x257004 x257005)
def beaconref17_Find.l1 : Nat → Int → Bool → Int → List (S39) → Bool → Int → Int → Nat → Int → Nat → Int → Option (Int × Int × Nat × Int × Nat × Int × Bool)
 | 0, _, _, _, _, _, _, _, _, _, _, _ => none
 | k + 1, x1, x7, x10, x255000, x255001, x257000, x257001, x257002, x257003, x257004, x257005 => if x10 < (x255000.length : Int) then (beaconref17_Find.j2 k x1 x7 x10 (!x7) x255000 x255001 x257000 x257001 x257002 x257003 x257004 x257005) else (beaconref17_Find.j2 k x1 x7 x10 false x255000 x255001 x257000 x257001 x257002 x257003 x257004 x257005)
def beaconref17_Find.j2 : Nat → Int → Bool → Int → Bool → List (S39) → Bool → Int → Int → Nat → Int → Nat → Int → Option (Int × Int × Nat × Int × Nat × Int × Bool)
 | 0, _, _, _, _, _, _, _, _, _, _, _, _ => none
 | k + 1, x1, x7, x10, x54, x255000, x255001, x257000, x257001, x257002, x257003, x257004, x257005 => if x54 = true then (if 0 ≤ x10 then (if x10 < (x255000.length : Int) then (if ((rd_T39 x255000 x10).f0) = x1 then (beaconref17_Find.l1 k x1 true (wrap64 (x10 + 1)) x255000 x255001 ((rd_T39 x255000 x10).f0) ((rd_T39 x255000 x10).f1) ((rd_T39 x255000 x10).f2) ((rd_T39 x255000 x10).f3) ((rd_T39 x255000 x10).f4) ((rd_T39 x255000 x10).f5)) else (beaconref17_Find.l1 k x1 x7 (wrap64 (x10 + 1)) x255000 x255001 x257000 x257001 x257002 x257003 x257004 x257005)) else (none)) else (none)) else (some (x257000, x257001, x257002, x257003, x257004, x257005, x7))
end
def beaconref17_Find.f (k : Nat) (l0_0 : List (S39)) (a0_1 : Bool) (a1 : Int) : Option (Int × Int × Nat × Int × Nat × Int × Bool) := beaconref17_Find.l0 k a1 false 0 l0_0 a0_1 0 0 0 0 0 0
theorem beaconref17_Find.mono_l : ∀ k, (∀ y0 y1 y2 y3 y4 y5 y6 y7 y8 y9 y10, LeO (beaconref17_Find.l0 k y0 y1 y2 y3 y4 y5 y6 y7 y8 y9 y10) (beaconref17_Find.l0 (k + 1) y0 y1 y2 y3 y4 y5 y6 y7 y8 y9 y10)) ∧ (∀ y0 y1 y2 y3 y4 y5 y6 y7 y8 y9 y10, LeO (beaconref17_Find.l1 k y0 y1 y2 y3 y4 y5 y6 y7 y8 y9 y10) (beaconref17_Find.l1 (k + 1) y0 y1 y2 y3 y4 y5 y6 y7 y8 y9 y10)) ∧ (∀ y0 y1 y2 y3 y4 y5 y6 y7 y8 y9 y10 y11, LeO (beaconref17_Find.j2 k y0 y1 y2 y3 y4 y5 y6 y7 y8 y9 y10 y11) (beaconref17_Find.j2 (k + 1) y0 y1 y2 y3 y4 y5 y6 y7 y8 y9 y10 y11))
 | 0 => ⟨fun _ _ _ _ _ _ _ _ _ _ _ r h => by simp [beaconref17_Find.l0] at h, fun _ _ _ _ _ _ _ _ _ _ _ r h => by simp [beaconref17_Find.l1] at h, fun _ _ _ _ _ _ _ _ _ _ _ _ r h => by simp [beaconref17_Find.j2] at h⟩
 | k + 1 => by
  obtain ⟨ih0,ih1,ih2⟩:=beaconref17_Find.mono_l k
  refine ⟨?_,?_,?_⟩
  ·intro y0 y1 y2 y3 y4 y5 y6 y7 y8 y9 y10
   unfold beaconref17_Find.l0
   repeat' first
   | (with_reducible exact ih0 _ _ _ _ _ _ _ _ _ _ _)
   | (with_reducible exact ih1 _ _ _ _ _ _ _ _ _ _ _)
   | (with_reducible exact ih2 _ _ _ _ _ _ _ _ _ _ _ _)
   | (with_reducible exact LeO.refl _)
   | (with_reducible exact LeO.none _)
   | (with_reducible refine LeO.ite ?_ ?_)
   | (with_reducible refine LeO.bind ?_ (fun _ => ?_))
   | exact ih0 _ _ _ _ _ _ _ _ _ _ _
   | exact ih1 _ _ _ _ _ _ _ _ _ _ _
   | exact ih2 _ _ _ _ _ _ _ _ _ _ _ _
   | exact LeO.none _
   | refine LeO.ite ?_ ?_
   | refine LeO.bind ?_ (fun _ => ?_)
  ·intro y0 y1 y2 y3 y4 y5 y6 y7 y8 y9 y10
   unfold beaconref17_Find.l1
   repeat' first
   | (with_reducible exact ih0 _ _ _ _ _ _ _ _ _ _ _)
   | (with_reducible exact ih1 _ _ _ _ _ _ _ _ _ _ _)
   | (with_reducible exact ih2 _ _ _ _ _ _ _ _ _ _ _ _)
   | (with_reducible exact LeO.refl _)
   | (with_reducible exact LeO.none _)
   | (with_reducible refine LeO.ite ?_ ?_)
   | (with_reducible refine LeO.bind ?_ (fun _ => ?_))
   | exact ih0 _ _ _ _ _ _ _ _ _ _ _
   | exact ih1 _ _ _ _ _ _ _ _ _ _ _
   | exact ih2 _ _ _ _ _ _ _ _ _ _ _ _
   | exact LeO.none _
   | refine LeO.ite ?_ ?_
   | refine LeO.bind ?_ (fun _ => ?_)
  ·intro y0 y1 y2 y3 y4 y5 y6 y7 y8 y9 y10 y11
   unfold beaconref17_Find.j2
   repeat' first
   | (with_reducible exact ih0 _ _ _ _ _ _ _ _ _ _ _)
   | (with_reducible exact ih1 _ _ _ _ _ _ _ _ _ _ _)
   | (with_reducible exact ih2 _ _ _ _ _ _ _ _ _ _ _ _)
   | (with_reducible exact LeO.refl _)
   | (with_reducible exact LeO.none _)
   | (with_reducible refine LeO.ite ?_ ?_)
   | (with_reducible refine LeO.bind ?_ (fun _ => ?_))
   | exact ih0 _ _ _ _ _ _ _ _ _ _ _
   | exact ih1 _ _ _ _ _ _ _ _ _ _ _
   | exact ih2 _ _ _ _ _ _ _ _ _ _ _ _
   | exact LeO.none _
   | refine LeO.ite ?_ ?_
   | refine LeO.bind ?_ (fun _ => ?_)
theorem beaconref17_Find.mono : ∀ a0 a1 a2 k, LeO (beaconref17_Find.f k a0 a1 a2) (beaconref17_Find.f (k + 1) a0 a1 a2) := by
 intro a0 a1 a2 k
 obtain ⟨ih0,ih1,ih2⟩:=beaconref17_Find.mono_l k
 unfold beaconref17_Find.f
 repeat' first
   | (with_reducible exact ih0 _ _ _ _ _ _ _ _ _ _ _)
   | (with_reducible exact ih1 _ _ _ _ _ _ _ _ _ _ _)
   | (with_reducible exact ih2 _ _ _ _ _ _ _ _ _ _ _ _)
   | (with_reducible exact LeO.refl _)
   | (with_reducible exact LeO.none _)
   | (with_reducible refine LeO.ite ?_ ?_)
   | (with_reducible refine LeO.bind ?_ (fun _ => ?_))
   | exact ih0 _ _ _ _ _ _ _ _ _ _ _
   | exact ih1 _ _ _ _ _ _ _ _ _ _ _
   | exact ih2 _ _ _ _ _ _ _ _ _ _ _ _
   | exact LeO.none _
   | refine LeO.ite ?_ ?_
   | refine LeO.bind ?_ (fun _ => ?_)
set_option maxHeartbeats 8000000 in
set_option maxRecDepth 100000 in
theorem beaconref17_Find.calls (k : Nat) (A0_0 : Option Addr) (c0_0 : Nat) (l0_0 : List (S39)) (a0_1 : Bool) (a1 : Int) (r1 : Int) (r2 : Int) (r3 : Nat) (r4 : Int) (r5 : Nat) (r6 : Int) (r7 : Bool) (w : World) (hr0_0 : Kd.C k39 w A0_0 l0_0.length l0_0) (hc0_0 : l0_0.length ≤ c0_0) (h : beaconref17_Find.f k l0_0 a0_1 a1 = some (r1, r2, r3, r4, r5, r6, r7)) :
  Calls Try.prog 24 #[.agg #[.slice A0_0 l0_0.length c0_0,.bool a0_1],.int .i64 a1] w fun e w' => e = .returned (.tuple #[.agg #[.int .i64 r1,.int .i64 r2,.float .f64 r3,.int .i64 r4,.float .f64 r5,.int .i64 r6],.bool r7]) ∧ Below w.heap.size w w':=by
 have hu24:=Try.underlying24
 have hu39:=Try.underlying39
 have HR0_0:=Aside0.mk hr0_0
 have HC0_0:=Aside0.mk hc0_0
 clear hr0_0 hc0_0
 have HB:=Aside0.mk (Below.refl w.heap.size w)
 have H : (beaconref17_Find.l0 k a1 false 0 l0_0 a0_1 0 0 0 0 0 0) = some (r1,r2,r3,r4,r5,r6,r7):=h
 clear h
 have H':=Aside0.mk H
 clear H
 go_enter Try.func24,Try.ntmps24
 go_wp2_with (first|((with_reducible refine gate_dst (N:=2) rfl ?_);refine zb (N:=2) (cs:=#[.slice A0_0 l0_0.length c0_0,.bool a0_1]) (t:=24) ?_;intro G254 hg w3 hbox hb;have K254:=Aside0.mk (hbox);have GW254:=zN HB hg;have GE254:=zN HB hg;replace HB:=zS HB hb;clear hb hbox hg)|((with_reducible refine gate_dst (N:=4) rfl ?_);refine zb (N:=4) (cs:=#[.int .i64 0,.int .i64 0,.float .f64 0,.int .i64 0,.float .f64 0,.int .i64 0]) (t:=39) ?_;intro G255 hg w4 hbox hb;have K255:=Aside0.mk (hbox);have GW255:=zN HB hg;have GE255:=zN HB hg;replace HB:=zS HB hb;have NB254_255:=zL K254 hg;have NB255_254:=zG K254 hg;replace K254:=zB K254 hb;clear hb hbox hg)|((with_reducible refine gate_dst (N:=6) rfl ?_);refine zb (N:=6) (cs:=#[.int .i64 0,.int .i64 0,.float .f64 0,.int .i64 0,.float .f64 0,.int .i64 0]) (t:=39) ?_;intro G256 hg w5 hbox hb;have K256:=Aside0.mk (hbox);have GW256:=zN HB hg;have GE256:=zN HB hg;replace HB:=zS HB hb;have NB254_256:=zL K254 hg;have NB256_254:=zG K254 hg;replace K254:=zB K254 hb;have NB255_256:=zL K255 hg;have NB256_255:=zG K255 hg;replace K255:=zB K255 hb;clear hb hbox hg;have:=NB256_254.1;have:=NB254_256.1;have:=NB256_255.1;have:=NB255_256.1;obtain ⟨hcz8_0,hcz8_1,hcz8_2,hcz8_3,hcz8_4,hcz8_5,hfz8_0,hfz8_1,hfz8_2,hfz8_3,hfz8_4,hfz8_5⟩:=zc6 K256)|((with_reducible refine gate_store (t:=39) (p:=6) rfl ?_);refine store_event (t:=39) (p:=6) (v:=?vo_w9) (w1:=((((((w5.setCell ⟨G256,0,none⟩ (.int .i64 0)).setCell ⟨G256,1,none⟩ (.int .i64 0)).setCell ⟨G256,2,none⟩ (.float .f64 0)).setCell ⟨G256,3,none⟩ (.int .i64 0)).setCell ⟨G256,4,none⟩ (.float .f64 0)).setCell ⟨G256,5,none⟩ (.int .i64 0))) ?hg ?ho ?hn ?hr ?_;(case ho => rfl);(case hg => rfl);(case hn => rfl);(case hr => first|(go_simp;done)|(go_simp;rfl));intro w9 hw;replace K254:=zV hw K254;replace K255:=zV hw K255;replace K256:=zVp hw (.cells #[.int .i64 0,.int .i64 0,.float .f64 0,.int .i64 0,.float .f64 0,.int .i64 0] 39 (0,0)) K256;replace HB:=zU hw HB;clear hw))
 go_loopg [7,8] k (fun kq v7 v8 w' => ∃ (x7_1 : Bool) (x8_1 : Int) (x257000_1 : Int) (x257001_1 : Int) (x257002_1 : Nat) (x257003_1 : Int) (x257004_1 : Nat) (x257005_1 : Int),v7 = .bool x7_1 ∧ v8 = .int .i64 x8_1 ∧ Aside0 (beaconref17_Find.l0 kq a1 x7_1 x8_1 l0_0 a0_1 x257000_1 x257001_1 x257002_1 x257003_1 x257004_1 x257005_1 = some (r1,r2,r3,r4,r5,r6,r7)) ∧ Aside0 (kq ≤ k) ∧ Aside0 (w'.heap[G254]? = some (.cells #[(.slice A0_0 l0_0.length c0_0),.bool a0_1] 24 (0,0))) ∧ Aside0 (w'.heap[G255]? = some (.cells #[.int .i64 0,.int .i64 0,.float .f64 0,.int .i64 0,.float .f64 0,.int .i64 0] 39 (0,0))) ∧ Aside0 (w'.heap[G256]? = some (.cells #[.int .i64 x257000_1,.int .i64 x257001_1,.float .f64 x257002_1,.int .i64 x257003_1,.float .f64 x257004_1,.int .i64 x257005_1] 39 (0,0))) ∧ Aside0 (Below w.heap.size w w'))
 case atStart => exact ⟨(false),(0),(0),(0),(0),(0),(0),(0),ze,ze,H',⟨Nat.le_refl _⟩,⟨z1 K254.1⟩,⟨z1 K255.1⟩,⟨z1 K256.1⟩,⟨zH HB⟩⟩
 case round =>
  clear H'
  try clear hcz8_0;try clear hcz8_1;try clear hcz8_2;try clear hcz8_3;try clear hcz8_4;try clear hcz8_5;try clear hfz8_0;try clear hfz8_1;try clear hfz8_2;try clear hfz8_3;try clear hfz8_4;try clear hfz8_5
  obtain ⟨x7_1,x8_1,x257000_1,x257001_1,x257002_1,x257003_1,x257004_1,x257005_1,rfl,rfl,HA,HK1,K254,K255,K256,HB⟩:=hrel
  cases gk with
  | zero => exact absurd HA.out (by simp [beaconref17_Find.l0])
  | succ k1 =>
   have H:=HA.out
   clear HA
   simp only [beaconref17_Find.l0] at H
   by_cases c10 : x8_1 < (l0_0.length : Int)
   ·rw [if_pos c10] at H
    have c10b0 : decide (x8_1 < (l0_0.length : Int)) = true:=decide_eq_true c10
    clear c10
    by_cases c11 : 0 ≤ x8_1
    ·rw [if_pos c11] at H
     have c11b0 : decide (0 ≤ x8_1) = true:=decide_eq_true c11
     clear c11
     by_cases c12 : ((rd_T39 l0_0 x8_1).f0) = a1
     ·rw [if_pos c12] at H
      have c12b0 : (((rd_T39 l0_0 x8_1).f0) == a1) = true:=beq_iff_eq.mpr c12
      have c12b1 : (((rd_T39 l0_0 x8_1).f0) != a1) = false:=bne_eq_false_iff_eq.mpr c12
      clear c12
      replace H:=Option.bind_eq_some_iff.mp H
      obtain ⟨t259,A130,H⟩:=H
      (try dsimp only at H)
      have A13:=Aside0.mk A130
      clear A130
      by_cases c14 : t259 = true
      ·subst c14
       rw [if_pos rfl] at H
       have H':=Aside0.mk H
       clear H
       have:=NB254_255.1
       have:=NB255_254.1
       have:=NB254_256.1
       have:=NB256_254.1
       obtain ⟨hcz17_0,hcz17_1,hfz17_0,hfz17_1⟩:=zc2 K254
       have p257 : 0 ≤ (x8_1 : Int):=zd
       have q257 : x8_1 < (l0_0.length : Int):=zd
       obtain ⟨ad257,e257,hx257_0,hx257_1,hx257_2,hx257_3,hx257_4,hx257_5⟩:=at_T39 HR0_0.out x8_1 p257 q257
       cases e257
       replace hx257_0:=zh HB hx257_0
       replace hx257_1:=zh HB hx257_1
       replace hx257_2:=zh HB hx257_2
       replace hx257_3:=zh HB hx257_3
       replace hx257_4:=zh HB hx257_4
       replace hx257_5:=zh HB hx257_5
       replace p257:=eq_true p257
       replace q257:=eq_true q257
       go_wp2_with (first|((with_reducible refine gate_dst (N:=9) rfl ?_);refine zb (N:=9) (cs:=#[.int .i64 0,.int .i64 0,.float .f64 0,.int .i64 0,.float .f64 0,.int .i64 0]) (t:=39) ?_;intro G258 hg w18 hbox hb;have K258:=Aside0.mk (hbox);have GW258:=zN HB hg;have GE258:=zN HB hg;replace HB:=zS HB hb;have NB254_258:=zL K254 hg;have NB258_254:=zG K254 hg;replace K254:=zB K254 hb;have NB255_258:=zL K255 hg;have NB258_255:=zG K255 hg;replace K255:=zB K255 hb;have NB256_258:=zL K256 hg;have NB258_256:=zG K256 hg;replace K256:=zB K256 hb;clear hb hbox hg;have:=NB258_254.1;have:=NB254_258.1;have:=NB258_255.1;have:=NB255_258.1;have:=NB258_256.1;have:=NB256_258.1;obtain ⟨hcz22_0,hcz22_1,hcz22_2,hcz22_3,hcz22_4,hcz22_5,hfz22_0,hfz22_1,hfz22_2,hfz22_3,hfz22_4,hfz22_5⟩:=zc6 K258)|((with_reducible refine gate_store (t:=39) (p:=9) rfl ?_);refine store_event (t:=39) (p:=9) (v:=?vo_w23) (w1:=((((((w18.setCell ⟨G258,0,none⟩ (.int .i64 ((rd_T39 l0_0 x8_1).f0))).setCell ⟨G258,1,none⟩ (.int .i64 ((rd_T39 l0_0 x8_1).f1))).setCell ⟨G258,2,none⟩ (.float .f64 ((rd_T39 l0_0 x8_1).f2))).setCell ⟨G258,3,none⟩ (.int .i64 ((rd_T39 l0_0 x8_1).f3))).setCell ⟨G258,4,none⟩ (.float .f64 ((rd_T39 l0_0 x8_1).f4))).setCell ⟨G258,5,none⟩ (.int .i64 ((rd_T39 l0_0 x8_1).f5)))) ?hg ?ho ?hn ?hr ?_;(case ho => rfl);(case hg => rfl);(case hn => rfl);(case hr => first|(go_simp;done)|(go_simp;rfl));intro w23 hw;replace K254:=zV hw K254;replace K255:=zV hw K255;replace K256:=zV hw K256;replace K258:=zVp hw (.cells #[.int .i64 ((rd_T39 l0_0 x8_1).f0),.int .i64 ((rd_T39 l0_0 x8_1).f1),.float .f64 ((rd_T39 l0_0 x8_1).f2),.int .i64 ((rd_T39 l0_0 x8_1).f3),.float .f64 ((rd_T39 l0_0 x8_1).f4),.int .i64 ((rd_T39 l0_0 x8_1).f5)] 39 (0,0)) K258;replace HB:=zU hw HB;clear hw;obtain ⟨hcz24_0,hcz24_1,hcz24_2,hcz24_3,hcz24_4,hcz24_5,hfz24_0,hfz24_1,hfz24_2,hfz24_3,hfz24_4,hfz24_5⟩:=zc6 K258)|(go_at_call 54;(with_reducible refine (beaconref17_Far.calls ((rd_T39 l0_0 x8_1).f2) true _ A13.out).mono ?_);rintro e w' ⟨rfl,⟨nd,rfl⟩⟩))
       go_roundg k1
       case measure => have:=HK1.out;omega
       case rel => exact ⟨(x7_1),(wrap64 (x8_1 + 1)),(x257000_1),(x257001_1),(x257002_1),(x257003_1),(x257004_1),(x257005_1),ze,ze,H',⟨by have:=HK1.out;omega⟩,⟨z1 K254.1⟩,⟨z1 K255.1⟩,⟨z1 K256.1⟩,⟨zH HB⟩⟩
      ·replace c14:=Bool.eq_false_iff.mpr c14
       subst c14
       rw [if_neg (show ¬ (false = true) by decide)] at H
       by_cases c25 : x7_1 = true
       ·subst c25
        rw [if_pos rfl] at H
        by_cases c26 : ((rd_T39 l0_0 x8_1).f1) < x257001_1
        ·rw [if_pos c26] at H
         have c26b0 : decide (((rd_T39 l0_0 x8_1).f1) < x257001_1) = true:=decide_eq_true c26
         clear c26
         have H':=Aside0.mk H
         clear H
         have:=NB254_255.1
         have:=NB255_254.1
         have:=NB254_256.1
         have:=NB256_254.1
         obtain ⟨hcz29_0,hcz29_1,hfz29_0,hfz29_1⟩:=zc2 K254
         have p257 : 0 ≤ (x8_1 : Int):=zd
         have q257 : x8_1 < (l0_0.length : Int):=zd
         obtain ⟨ad257,e257,hx257_0,hx257_1,hx257_2,hx257_3,hx257_4,hx257_5⟩:=at_T39 HR0_0.out x8_1 p257 q257
         cases e257
         replace hx257_0:=zh HB hx257_0
         replace hx257_1:=zh HB hx257_1
         replace hx257_2:=zh HB hx257_2
         replace hx257_3:=zh HB hx257_3
         replace hx257_4:=zh HB hx257_4
         replace hx257_5:=zh HB hx257_5
         replace p257:=eq_true p257
         replace q257:=eq_true q257
         go_wp2_with (first|((with_reducible refine gate_dst (N:=9) rfl ?_);refine zb (N:=9) (cs:=#[.int .i64 0,.int .i64 0,.float .f64 0,.int .i64 0,.float .f64 0,.int .i64 0]) (t:=39) ?_;intro G258 hg w30 hbox hb;have K258:=Aside0.mk (hbox);have GW258:=zN HB hg;have GE258:=zN HB hg;replace HB:=zS HB hb;have NB254_258:=zL K254 hg;have NB258_254:=zG K254 hg;replace K254:=zB K254 hb;have NB255_258:=zL K255 hg;have NB258_255:=zG K255 hg;replace K255:=zB K255 hb;have NB256_258:=zL K256 hg;have NB258_256:=zG K256 hg;replace K256:=zB K256 hb;clear hb hbox hg;have:=NB258_254.1;have:=NB254_258.1;have:=NB258_255.1;have:=NB255_258.1;have:=NB258_256.1;have:=NB256_258.1;obtain ⟨hcz34_0,hcz34_1,hcz34_2,hcz34_3,hcz34_4,hcz34_5,hfz34_0,hfz34_1,hfz34_2,hfz34_3,hfz34_4,hfz34_5⟩:=zc6 K258)|((with_reducible refine gate_store (t:=39) (p:=9) rfl ?_);refine store_event (t:=39) (p:=9) (v:=?vo_w35) (w1:=((((((w30.setCell ⟨G258,0,none⟩ (.int .i64 ((rd_T39 l0_0 x8_1).f0))).setCell ⟨G258,1,none⟩ (.int .i64 ((rd_T39 l0_0 x8_1).f1))).setCell ⟨G258,2,none⟩ (.float .f64 ((rd_T39 l0_0 x8_1).f2))).setCell ⟨G258,3,none⟩ (.int .i64 ((rd_T39 l0_0 x8_1).f3))).setCell ⟨G258,4,none⟩ (.float .f64 ((rd_T39 l0_0 x8_1).f4))).setCell ⟨G258,5,none⟩ (.int .i64 ((rd_T39 l0_0 x8_1).f5)))) ?hg ?ho ?hn ?hr ?_;(case ho => rfl);(case hg => rfl);(case hn => rfl);(case hr => first|(go_simp;done)|(go_simp;rfl));intro w35 hw;replace K254:=zV hw K254;replace K255:=zV hw K255;replace K256:=zV hw K256;replace K258:=zVp hw (.cells #[.int .i64 ((rd_T39 l0_0 x8_1).f0),.int .i64 ((rd_T39 l0_0 x8_1).f1),.float .f64 ((rd_T39 l0_0 x8_1).f2),.int .i64 ((rd_T39 l0_0 x8_1).f3),.float .f64 ((rd_T39 l0_0 x8_1).f4),.int .i64 ((rd_T39 l0_0 x8_1).f5)] 39 (0,0)) K258;replace HB:=zU hw HB;clear hw;obtain ⟨hcz36_0,hcz36_1,hcz36_2,hcz36_3,hcz36_4,hcz36_5,hfz36_0,hfz36_1,hfz36_2,hfz36_3,hfz36_4,hfz36_5⟩:=zc6 K258)|(go_at_call 54;(with_reducible refine (beaconref17_Far.calls ((rd_T39 l0_0 x8_1).f2) false _ A13.out).mono ?_);rintro e w' ⟨rfl,⟨nd,rfl⟩⟩;(try (rw [drewN_self w35];generalize hq_ : World.drewN w35 _ = w35;replace K254 : Aside0 (w35.heap[G254]? = some (.cells #[.slice (some ad257) l0_0.length c0_0,.bool a0_1] 24 (0,0))):=⟨by rw [← hq_];exact (z1 K254.1)⟩;replace K255 : Aside0 (w35.heap[G255]? = some (.cells #[.int .i64 0,.int .i64 0,.float .f64 0,.int .i64 0,.float .f64 0,.int .i64 0] 39 (0,0))):=⟨by rw [← hq_];exact (z1 K255.1)⟩;replace K256 : Aside0 (w35.heap[G256]? = some (.cells #[.int .i64 x257000_1,.int .i64 x257001_1,.float .f64 x257002_1,.int .i64 x257003_1,.float .f64 x257004_1,.int .i64 x257005_1] 39 (0,0))):=⟨by rw [← hq_];exact (z1 K256.1)⟩;replace K258 : Aside0 (w35.heap[G258]? = some (.cells #[.int .i64 ((rd_T39 l0_0 x8_1).f0),.int .i64 ((rd_T39 l0_0 x8_1).f1),.float .f64 ((rd_T39 l0_0 x8_1).f2),.int .i64 ((rd_T39 l0_0 x8_1).f3),.float .f64 ((rd_T39 l0_0 x8_1).f4),.int .i64 ((rd_T39 l0_0 x8_1).f5)] 39 (0,0))):=⟨by rw [← hq_];exact (z1 K258.1)⟩;replace HB : Aside0 (Below w.heap.size w w35):=⟨by rw [← hq_];exact (zH HB)⟩;clear hq_));obtain ⟨hcz37_0,hcz37_1,hcz37_2,hcz37_3,hcz37_4,hcz37_5,hfz37_0,hfz37_1,hfz37_2,hfz37_3,hfz37_4,hfz37_5⟩:=zc6 K258;have:=NB256_255.1;have:=NB255_256.1;obtain ⟨hcz39_0,hcz39_1,hcz39_2,hcz39_3,hcz39_4,hcz39_5,hfz39_0,hfz39_1,hfz39_2,hfz39_3,hfz39_4,hfz39_5⟩:=zc6 K256)|((with_reducible refine gate_store (t:=39) (p:=6) rfl ?_);refine store_event (t:=39) (p:=6) (v:=?vo_w40) (w1:=((((((w35.setCell ⟨G256,0,none⟩ (.int .i64 ((rd_T39 l0_0 x8_1).f0))).setCell ⟨G256,1,none⟩ (.int .i64 ((rd_T39 l0_0 x8_1).f1))).setCell ⟨G256,2,none⟩ (.float .f64 ((rd_T39 l0_0 x8_1).f2))).setCell ⟨G256,3,none⟩ (.int .i64 ((rd_T39 l0_0 x8_1).f3))).setCell ⟨G256,4,none⟩ (.float .f64 ((rd_T39 l0_0 x8_1).f4))).setCell ⟨G256,5,none⟩ (.int .i64 ((rd_T39 l0_0 x8_1).f5)))) ?hg ?ho ?hn ?hr ?_;(case ho => rfl);(case hg => rfl);(case hn => rfl);(case hr => first|(go_simp;done)|(go_simp;rfl));intro w40 hw;replace K254:=zV hw K254;replace K255:=zV hw K255;replace K256:=zVp hw (.cells #[.int .i64 ((rd_T39 l0_0 x8_1).f0),.int .i64 ((rd_T39 l0_0 x8_1).f1),.float .f64 ((rd_T39 l0_0 x8_1).f2),.int .i64 ((rd_T39 l0_0 x8_1).f3),.float .f64 ((rd_T39 l0_0 x8_1).f4),.int .i64 ((rd_T39 l0_0 x8_1).f5)] 39 (0,0)) K256;replace K258:=zV hw K258;replace HB:=zU hw HB;clear hw))
         go_roundg k1
         case measure => have:=HK1.out;omega
         case rel => exact ⟨(true),(wrap64 (x8_1 + 1)),((rd_T39 l0_0 x8_1).f0),((rd_T39 l0_0 x8_1).f1),((rd_T39 l0_0 x8_1).f2),((rd_T39 l0_0 x8_1).f3),((rd_T39 l0_0 x8_1).f4),((rd_T39 l0_0 x8_1).f5),ze,ze,H',⟨by have:=HK1.out;omega⟩,⟨z1 K254.1⟩,⟨z1 K255.1⟩,⟨z1 K256.1⟩,⟨zH HB⟩⟩
        ·rw [if_neg c26] at H
         have c26b0 : decide (((rd_T39 l0_0 x8_1).f1) < x257001_1) = false:=decide_eq_false c26
         clear c26
         have H':=Aside0.mk H
         clear H
         have:=NB254_255.1
         have:=NB255_254.1
         have:=NB254_256.1
         have:=NB256_254.1
         obtain ⟨hcz43_0,hcz43_1,hfz43_0,hfz43_1⟩:=zc2 K254
         have p257 : 0 ≤ (x8_1 : Int):=zd
         have q257 : x8_1 < (l0_0.length : Int):=zd
         obtain ⟨ad257,e257,hx257_0,hx257_1,hx257_2,hx257_3,hx257_4,hx257_5⟩:=at_T39 HR0_0.out x8_1 p257 q257
         cases e257
         replace hx257_0:=zh HB hx257_0
         replace hx257_1:=zh HB hx257_1
         replace hx257_2:=zh HB hx257_2
         replace hx257_3:=zh HB hx257_3
         replace hx257_4:=zh HB hx257_4
         replace hx257_5:=zh HB hx257_5
         replace p257:=eq_true p257
         replace q257:=eq_true q257
         go_wp2_with (first|((with_reducible refine gate_dst (N:=9) rfl ?_);refine zb (N:=9) (cs:=#[.int .i64 0,.int .i64 0,.float .f64 0,.int .i64 0,.float .f64 0,.int .i64 0]) (t:=39) ?_;intro G258 hg w44 hbox hb;have K258:=Aside0.mk (hbox);have GW258:=zN HB hg;have GE258:=zN HB hg;replace HB:=zS HB hb;have NB254_258:=zL K254 hg;have NB258_254:=zG K254 hg;replace K254:=zB K254 hb;have NB255_258:=zL K255 hg;have NB258_255:=zG K255 hg;replace K255:=zB K255 hb;have NB256_258:=zL K256 hg;have NB258_256:=zG K256 hg;replace K256:=zB K256 hb;clear hb hbox hg;have:=NB258_254.1;have:=NB254_258.1;have:=NB258_255.1;have:=NB255_258.1;have:=NB258_256.1;have:=NB256_258.1;obtain ⟨hcz48_0,hcz48_1,hcz48_2,hcz48_3,hcz48_4,hcz48_5,hfz48_0,hfz48_1,hfz48_2,hfz48_3,hfz48_4,hfz48_5⟩:=zc6 K258)|((with_reducible refine gate_store (t:=39) (p:=9) rfl ?_);refine store_event (t:=39) (p:=9) (v:=?vo_w49) (w1:=((((((w44.setCell ⟨G258,0,none⟩ (.int .i64 ((rd_T39 l0_0 x8_1).f0))).setCell ⟨G258,1,none⟩ (.int .i64 ((rd_T39 l0_0 x8_1).f1))).setCell ⟨G258,2,none⟩ (.float .f64 ((rd_T39 l0_0 x8_1).f2))).setCell ⟨G258,3,none⟩ (.int .i64 ((rd_T39 l0_0 x8_1).f3))).setCell ⟨G258,4,none⟩ (.float .f64 ((rd_T39 l0_0 x8_1).f4))).setCell ⟨G258,5,none⟩ (.int .i64 ((rd_T39 l0_0 x8_1).f5)))) ?hg ?ho ?hn ?hr ?_;(case ho => rfl);(case hg => rfl);(case hn => rfl);(case hr => first|(go_simp;done)|(go_simp;rfl));intro w49 hw;replace K254:=zV hw K254;replace K255:=zV hw K255;replace K256:=zV hw K256;replace K258:=zVp hw (.cells #[.int .i64 ((rd_T39 l0_0 x8_1).f0),.int .i64 ((rd_T39 l0_0 x8_1).f1),.float .f64 ((rd_T39 l0_0 x8_1).f2),.int .i64 ((rd_T39 l0_0 x8_1).f3),.float .f64 ((rd_T39 l0_0 x8_1).f4),.int .i64 ((rd_T39 l0_0 x8_1).f5)] 39 (0,0)) K258;replace HB:=zU hw HB;clear hw;obtain ⟨hcz50_0,hcz50_1,hcz50_2,hcz50_3,hcz50_4,hcz50_5,hfz50_0,hfz50_1,hfz50_2,hfz50_3,hfz50_4,hfz50_5⟩:=zc6 K258)|(go_at_call 54;(with_reducible refine (beaconref17_Far.calls ((rd_T39 l0_0 x8_1).f2) false _ A13.out).mono ?_);rintro e w' ⟨rfl,⟨nd,rfl⟩⟩;have:=NB256_255.1;have:=NB255_256.1;obtain ⟨hcz52_0,hcz52_1,hcz52_2,hcz52_3,hcz52_4,hcz52_5,hfz52_0,hfz52_1,hfz52_2,hfz52_3,hfz52_4,hfz52_5⟩:=zc6 K256))
         go_roundg k1
         case measure => have:=HK1.out;omega
         case rel => exact ⟨(true),(wrap64 (x8_1 + 1)),(x257000_1),(x257001_1),(x257002_1),(x257003_1),(x257004_1),(x257005_1),ze,ze,H',⟨by have:=HK1.out;omega⟩,⟨z1 K254.1⟩,⟨z1 K255.1⟩,⟨z1 K256.1⟩,⟨zH HB⟩⟩
       ·replace c25:=Bool.eq_false_iff.mpr c25
        subst c25
        rw [if_neg (show ¬ (false = true) by decide)] at H
        have H':=Aside0.mk H
        clear H
        have:=NB254_255.1
        have:=NB255_254.1
        have:=NB254_256.1
        have:=NB256_254.1
        obtain ⟨hcz55_0,hcz55_1,hfz55_0,hfz55_1⟩:=zc2 K254
        have p257 : 0 ≤ (x8_1 : Int):=zd
        have q257 : x8_1 < (l0_0.length : Int):=zd
        obtain ⟨ad257,e257,hx257_0,hx257_1,hx257_2,hx257_3,hx257_4,hx257_5⟩:=at_T39 HR0_0.out x8_1 p257 q257
        cases e257
        replace hx257_0:=zh HB hx257_0
        replace hx257_1:=zh HB hx257_1
        replace hx257_2:=zh HB hx257_2
        replace hx257_3:=zh HB hx257_3
        replace hx257_4:=zh HB hx257_4
        replace hx257_5:=zh HB hx257_5
        replace p257:=eq_true p257
        replace q257:=eq_true q257
        go_wp2_with (first|((with_reducible refine gate_dst (N:=9) rfl ?_);refine zb (N:=9) (cs:=#[.int .i64 0,.int .i64 0,.float .f64 0,.int .i64 0,.float .f64 0,.int .i64 0]) (t:=39) ?_;intro G258 hg w56 hbox hb;have K258:=Aside0.mk (hbox);have GW258:=zN HB hg;have GE258:=zN HB hg;replace HB:=zS HB hb;have NB254_258:=zL K254 hg;have NB258_254:=zG K254 hg;replace K254:=zB K254 hb;have NB255_258:=zL K255 hg;have NB258_255:=zG K255 hg;replace K255:=zB K255 hb;have NB256_258:=zL K256 hg;have NB258_256:=zG K256 hg;replace K256:=zB K256 hb;clear hb hbox hg;have:=NB258_254.1;have:=NB254_258.1;have:=NB258_255.1;have:=NB255_258.1;have:=NB258_256.1;have:=NB256_258.1;obtain ⟨hcz60_0,hcz60_1,hcz60_2,hcz60_3,hcz60_4,hcz60_5,hfz60_0,hfz60_1,hfz60_2,hfz60_3,hfz60_4,hfz60_5⟩:=zc6 K258)|((with_reducible refine gate_store (t:=39) (p:=9) rfl ?_);refine store_event (t:=39) (p:=9) (v:=?vo_w61) (w1:=((((((w56.setCell ⟨G258,0,none⟩ (.int .i64 ((rd_T39 l0_0 x8_1).f0))).setCell ⟨G258,1,none⟩ (.int .i64 ((rd_T39 l0_0 x8_1).f1))).setCell ⟨G258,2,none⟩ (.float .f64 ((rd_T39 l0_0 x8_1).f2))).setCell ⟨G258,3,none⟩ (.int .i64 ((rd_T39 l0_0 x8_1).f3))).setCell ⟨G258,4,none⟩ (.float .f64 ((rd_T39 l0_0 x8_1).f4))).setCell ⟨G258,5,none⟩ (.int .i64 ((rd_T39 l0_0 x8_1).f5)))) ?hg ?ho ?hn ?hr ?_;(case ho => rfl);(case hg => rfl);(case hn => rfl);(case hr => first|(go_simp;done)|(go_simp;rfl));intro w61 hw;replace K254:=zV hw K254;replace K255:=zV hw K255;replace K256:=zV hw K256;replace K258:=zVp hw (.cells #[.int .i64 ((rd_T39 l0_0 x8_1).f0),.int .i64 ((rd_T39 l0_0 x8_1).f1),.float .f64 ((rd_T39 l0_0 x8_1).f2),.int .i64 ((rd_T39 l0_0 x8_1).f3),.float .f64 ((rd_T39 l0_0 x8_1).f4),.int .i64 ((rd_T39 l0_0 x8_1).f5)] 39 (0,0)) K258;replace HB:=zU hw HB;clear hw;obtain ⟨hcz62_0,hcz62_1,hcz62_2,hcz62_3,hcz62_4,hcz62_5,hfz62_0,hfz62_1,hfz62_2,hfz62_3,hfz62_4,hfz62_5⟩:=zc6 K258)|(go_at_call 54;(with_reducible refine (beaconref17_Far.calls ((rd_T39 l0_0 x8_1).f2) false _ A13.out).mono ?_);rintro e w' ⟨rfl,⟨nd,rfl⟩⟩;(try (rw [drewN_self w61];generalize hq_ : World.drewN w61 _ = w61;replace K254 : Aside0 (w61.heap[G254]? = some (.cells #[.slice (some ad257) l0_0.length c0_0,.bool a0_1] 24 (0,0))):=⟨by rw [← hq_];exact (z1 K254.1)⟩;replace K255 : Aside0 (w61.heap[G255]? = some (.cells #[.int .i64 0,.int .i64 0,.float .f64 0,.int .i64 0,.float .f64 0,.int .i64 0] 39 (0,0))):=⟨by rw [← hq_];exact (z1 K255.1)⟩;replace K256 : Aside0 (w61.heap[G256]? = some (.cells #[.int .i64 x257000_1,.int .i64 x257001_1,.float .f64 x257002_1,.int .i64 x257003_1,.float .f64 x257004_1,.int .i64 x257005_1] 39 (0,0))):=⟨by rw [← hq_];exact (z1 K256.1)⟩;replace K258 : Aside0 (w61.heap[G258]? = some (.cells #[.int .i64 ((rd_T39 l0_0 x8_1).f0),.int .i64 ((rd_T39 l0_0 x8_1).f1),.float .f64 ((rd_T39 l0_0 x8_1).f2),.int .i64 ((rd_T39 l0_0 x8_1).f3),.float .f64 ((rd_T39 l0_0 x8_1).f4),.int .i64 ((rd_T39 l0_0 x8_1).f5)] 39 (0,0))):=⟨by rw [← hq_];exact (z1 K258.1)⟩;replace HB : Aside0 (Below w.heap.size w w61):=⟨by rw [← hq_];exact (zH HB)⟩;clear hq_));obtain ⟨hcz63_0,hcz63_1,hcz63_2,hcz63_3,hcz63_4,hcz63_5,hfz63_0,hfz63_1,hfz63_2,hfz63_3,hfz63_4,hfz63_5⟩:=zc6 K258;have:=NB256_255.1;have:=NB255_256.1;obtain ⟨hcz65_0,hcz65_1,hcz65_2,hcz65_3,hcz65_4,hcz65_5,hfz65_0,hfz65_1,hfz65_2,hfz65_3,hfz65_4,hfz65_5⟩:=zc6 K256)|((with_reducible refine gate_store (t:=39) (p:=6) rfl ?_);refine store_event (t:=39) (p:=6) (v:=?vo_w66) (w1:=((((((w61.setCell ⟨G256,0,none⟩ (.int .i64 ((rd_T39 l0_0 x8_1).f0))).setCell ⟨G256,1,none⟩ (.int .i64 ((rd_T39 l0_0 x8_1).f1))).setCell ⟨G256,2,none⟩ (.float .f64 ((rd_T39 l0_0 x8_1).f2))).setCell ⟨G256,3,none⟩ (.int .i64 ((rd_T39 l0_0 x8_1).f3))).setCell ⟨G256,4,none⟩ (.float .f64 ((rd_T39 l0_0 x8_1).f4))).setCell ⟨G256,5,none⟩ (.int .i64 ((rd_T39 l0_0 x8_1).f5)))) ?hg ?ho ?hn ?hr ?_;(case ho => rfl);(case hg => rfl);(case hn => rfl);(case hr => first|(go_simp;done)|(go_simp;rfl));intro w66 hw;replace K254:=zV hw K254;replace K255:=zV hw K255;replace K256:=zVp hw (.cells #[.int .i64 ((rd_T39 l0_0 x8_1).f0),.int .i64 ((rd_T39 l0_0 x8_1).f1),.float .f64 ((rd_T39 l0_0 x8_1).f2),.int .i64 ((rd_T39 l0_0 x8_1).f3),.float .f64 ((rd_T39 l0_0 x8_1).f4),.int .i64 ((rd_T39 l0_0 x8_1).f5)] 39 (0,0)) K256;replace K258:=zV hw K258;replace HB:=zU hw HB;clear hw))
        go_roundg k1
        case measure => have:=HK1.out;omega
        case rel => exact ⟨(true),(wrap64 (x8_1 + 1)),((rd_T39 l0_0 x8_1).f0),((rd_T39 l0_0 x8_1).f1),((rd_T39 l0_0 x8_1).f2),((rd_T39 l0_0 x8_1).f3),((rd_T39 l0_0 x8_1).f4),((rd_T39 l0_0 x8_1).f5),ze,ze,H',⟨by have:=HK1.out;omega⟩,⟨z1 K254.1⟩,⟨z1 K255.1⟩,⟨z1 K256.1⟩,⟨zH HB⟩⟩
     ·rw [if_neg c12] at H
      have c12b0 : (((rd_T39 l0_0 x8_1).f0) == a1) = false:=beq_eq_false_iff_ne.mpr c12
      have c12b1 : (((rd_T39 l0_0 x8_1).f0) != a1) = true:=bne_iff_ne.mpr c12
      have H':=Aside0.mk H
      clear H
      have:=NB254_255.1
      have:=NB255_254.1
      have:=NB254_256.1
      have:=NB256_254.1
      obtain ⟨hcz69_0,hcz69_1,hfz69_0,hfz69_1⟩:=zc2 K254
      have p257 : 0 ≤ (x8_1 : Int):=zd
      have q257 : x8_1 < (l0_0.length : Int):=zd
      obtain ⟨ad257,e257,hx257_0,hx257_1,hx257_2,hx257_3,hx257_4,hx257_5⟩:=at_T39 HR0_0.out x8_1 p257 q257
      cases e257
      replace hx257_0:=zh HB hx257_0
      replace hx257_1:=zh HB hx257_1
      replace hx257_2:=zh HB hx257_2
      replace hx257_3:=zh HB hx257_3
      replace hx257_4:=zh HB hx257_4
      replace hx257_5:=zh HB hx257_5
      replace p257:=eq_true p257
      replace q257:=eq_true q257
      go_wp2_with (first|((with_reducible refine gate_dst (N:=9) rfl ?_);refine zb (N:=9) (cs:=#[.int .i64 0,.int .i64 0,.float .f64 0,.int .i64 0,.float .f64 0,.int .i64 0]) (t:=39) ?_;intro G258 hg w70 hbox hb;have K258:=Aside0.mk (hbox);have GW258:=zN HB hg;have GE258:=zN HB hg;replace HB:=zS HB hb;have NB254_258:=zL K254 hg;have NB258_254:=zG K254 hg;replace K254:=zB K254 hb;have NB255_258:=zL K255 hg;have NB258_255:=zG K255 hg;replace K255:=zB K255 hb;have NB256_258:=zL K256 hg;have NB258_256:=zG K256 hg;replace K256:=zB K256 hb;clear hb hbox hg;have:=NB258_254.1;have:=NB254_258.1;have:=NB258_255.1;have:=NB255_258.1;have:=NB258_256.1;have:=NB256_258.1;obtain ⟨hcz74_0,hcz74_1,hcz74_2,hcz74_3,hcz74_4,hcz74_5,hfz74_0,hfz74_1,hfz74_2,hfz74_3,hfz74_4,hfz74_5⟩:=zc6 K258)|((with_reducible refine gate_store (t:=39) (p:=9) rfl ?_);refine store_event (t:=39) (p:=9) (v:=?vo_w75) (w1:=((((((w70.setCell ⟨G258,0,none⟩ (.int .i64 ((rd_T39 l0_0 x8_1).f0))).setCell ⟨G258,1,none⟩ (.int .i64 ((rd_T39 l0_0 x8_1).f1))).setCell ⟨G258,2,none⟩ (.float .f64 ((rd_T39 l0_0 x8_1).f2))).setCell ⟨G258,3,none⟩ (.int .i64 ((rd_T39 l0_0 x8_1).f3))).setCell ⟨G258,4,none⟩ (.float .f64 ((rd_T39 l0_0 x8_1).f4))).setCell ⟨G258,5,none⟩ (.int .i64 ((rd_T39 l0_0 x8_1).f5)))) ?hg ?ho ?hn ?hr ?_;(case ho => rfl);(case hg => rfl);(case hn => rfl);(case hr => first|(go_simp;done)|(go_simp;rfl));intro w75 hw;replace K254:=zV hw K254;replace K255:=zV hw K255;replace K256:=zV hw K256;replace K258:=zVp hw (.cells #[.int .i64 ((rd_T39 l0_0 x8_1).f0),.int .i64 ((rd_T39 l0_0 x8_1).f1),.float .f64 ((rd_T39 l0_0 x8_1).f2),.int .i64 ((rd_T39 l0_0 x8_1).f3),.float .f64 ((rd_T39 l0_0 x8_1).f4),.int .i64 ((rd_T39 l0_0 x8_1).f5)] 39 (0,0)) K258;replace HB:=zU hw HB;clear hw;obtain ⟨hcz76_0,hcz76_1,hcz76_2,hcz76_3,hcz76_4,hcz76_5,hfz76_0,hfz76_1,hfz76_2,hfz76_3,hfz76_4,hfz76_5⟩:=zc6 K258))
      go_roundg k1
      case measure => have:=HK1.out;omega
      case rel => exact ⟨(x7_1),(wrap64 (x8_1 + 1)),(x257000_1),(x257001_1),(x257002_1),(x257003_1),(x257004_1),(x257005_1),ze,ze,H',⟨by have:=HK1.out;omega⟩,⟨z1 K254.1⟩,⟨z1 K255.1⟩,⟨z1 K256.1⟩,⟨zH HB⟩⟩
    ·rw [if_neg c11] at H
     exact absurd H (by simp)
   ·rw [if_neg c10] at H
    have c10b0 : decide (x8_1 < (l0_0.length : Int)) = false:=decide_eq_false c10
    clear c10
    have H':=Aside0.mk H
    clear H
    have:=NB254_255.1
    have:=NB255_254.1
    have:=NB254_256.1
    have:=NB256_254.1
    obtain ⟨hcz79_0,hcz79_1,hfz79_0,hfz79_1⟩:=zc2 K254
    go_wp2
    go_loopg [7,10] k1 (fun kq v7 v10 w' => ∃ (x7_2 : Bool) (x10_2 : Int) (x257000_2 : Int) (x257001_2 : Int) (x257002_2 : Nat) (x257003_2 : Int) (x257004_2 : Nat) (x257005_2 : Int),v7 = .bool x7_2 ∧ v10 = .int .i64 x10_2 ∧ Aside0 (beaconref17_Find.l1 kq a1 x7_2 x10_2 l0_0 a0_1 x257000_2 x257001_2 x257002_2 x257003_2 x257004_2 x257005_2 = some (r1,r2,r3,r4,r5,r6,r7)) ∧ Aside0 (kq ≤ k1) ∧ Aside0 (w'.heap[G254]? = some (.cells #[(.slice A0_0 l0_0.length c0_0),.bool a0_1] 24 (0,0))) ∧ Aside0 (w'.heap[G255]? = some (.cells #[.int .i64 0,.int .i64 0,.float .f64 0,.int .i64 0,.float .f64 0,.int .i64 0] 39 (0,0))) ∧ Aside0 (w'.heap[G256]? = some (.cells #[.int .i64 x257000_2,.int .i64 x257001_2,.float .f64 x257002_2,.int .i64 x257003_2,.float .f64 x257004_2,.int .i64 x257005_2] 39 (0,0))) ∧ Aside0 (Below w.heap.size w w'))
    case atStart => exact ⟨(x7_1),(0),(x257000_1),(x257001_1),(x257002_1),(x257003_1),(x257004_1),(x257005_1),ze,ze,H',⟨Nat.le_refl _⟩,⟨z1 K254.1⟩,⟨z1 K255.1⟩,⟨z1 K256.1⟩,⟨zH HB⟩⟩
    case round =>
     clear H'
     try clear c10;try clear c10b0;try clear hcz79_0;try clear hcz79_1;try clear hcz8_0;try clear hcz8_1;try clear hcz8_2;try clear hcz8_3;try clear hcz8_4;try clear hcz8_5;try clear hfz79_0;try clear hfz79_1;try clear hfz8_0;try clear hfz8_1;try clear hfz8_2;try clear hfz8_3;try clear hfz8_4;try clear hfz8_5
     obtain ⟨x7_2,x10_2,x257000_2,x257001_2,x257002_2,x257003_2,x257004_2,x257005_2,rfl,rfl,HA,HK2,K254,K255,K256,HB⟩:=hrel
     cases gk with
     | zero => exact absurd HA.out (by simp [beaconref17_Find.l1])
     | succ k2 =>
      have H:=HA.out
      clear HA
      simp only [beaconref17_Find.l1] at H
      have HC80:=Aside0.mk H
      clear H
      go_upto_region 9 with (fail)
      go_cut [54] (fun v54 wc => ∃ (kq : Nat) (x54_79 : Bool),v54 = .bool x54_79 ∧ Aside0 (beaconref17_Find.j2 kq a1 x7_2 x10_2 x54_79 l0_0 a0_1 x257000_2 x257001_2 x257002_2 x257003_2 x257004_2 x257005_2 = some (r1,r2,r3,r4,r5,r6,r7)) ∧ Aside0 (kq ≤ k2) ∧ Aside0 (wc.heap[G254]? = some (.cells #[(.slice A0_0 l0_0.length c0_0),.bool a0_1] 24 (0,0))) ∧ Aside0 (wc.heap[G255]? = some (.cells #[.int .i64 0,.int .i64 0,.float .f64 0,.int .i64 0,.float .f64 0,.int .i64 0] 39 (0,0))) ∧ Aside0 (wc.heap[G256]? = some (.cells #[.int .i64 x257000_2,.int .i64 x257001_2,.float .f64 x257002_2,.int .i64 x257003_2,.float .f64 x257004_2,.int .i64 x257005_2] 39 (0,0))) ∧ Aside0 (Below w.heap.size w wc))
      case first =>
       have H:=HC80.out
       clear HC80
       by_cases c81 : x10_2 < (l0_0.length : Int)
       ·rw [if_pos c81] at H
        have c81b0 : decide (x10_2 < (l0_0.length : Int)) = true:=decide_eq_true c81
        clear c81
        (first|rw [c81b0]|(simp only [i64_w,i32_w];rw [c81b0])|skip)
        have H':=Aside0.mk H
        clear H
        have:=NB254_255.1
        have:=NB255_254.1
        have:=NB254_256.1
        have:=NB256_254.1
        obtain ⟨hcz84_0,hcz84_1,hfz84_0,hfz84_1⟩:=zc2 K254
        go_wp2
        go_meet
        case rel => exact ⟨_,(!x7_2),ze,H',⟨by have:=HK1.out;have:=HK2.out;first|omega|exact Nat.le_refl _⟩,⟨z1 K254.1⟩,⟨z1 K255.1⟩,⟨z1 K256.1⟩,⟨zH HB⟩⟩
       ·rw [if_neg c81] at H
        have c81b0 : decide (x10_2 < (l0_0.length : Int)) = false:=decide_eq_false c81
        clear c81
        (first|rw [c81b0]|(simp only [i64_w,i32_w];rw [c81b0])|skip)
        have H':=Aside0.mk H
        clear H
        have:=NB254_255.1
        have:=NB255_254.1
        have:=NB254_256.1
        have:=NB256_254.1
        obtain ⟨hcz87_0,hcz87_1,hfz87_0,hfz87_1⟩:=zc2 K254
        go_wp2
        go_meet
        case rel => exact ⟨_,(false),ze,H',⟨by have:=HK1.out;have:=HK2.out;first|omega|exact Nat.le_refl _⟩,⟨z1 K254.1⟩,⟨z1 K255.1⟩,⟨z1 K256.1⟩,⟨zH HB⟩⟩
      case rest =>
       clear HC80
       try clear c10;try clear c10b0;try clear hcz79_0;try clear hcz79_1;try clear hcz8_0;try clear hcz8_1;try clear hcz8_2;try clear hcz8_3;try clear hcz8_4;try clear hcz8_5;try clear hfz79_0;try clear hfz79_1;try clear hfz8_0;try clear hfz8_1;try clear hfz8_2;try clear hfz8_3;try clear hfz8_4;try clear hfz8_5
       obtain ⟨kq,x54_79,rfl,HA,HJ79,K254,K255,K256,HB⟩:=hcut
       cases kq with
       | zero => exact absurd HA.out (by simp [beaconref17_Find.j2])
       | succ kj79 =>
        have H:=HA.out
        clear HA
        simp only [beaconref17_Find.j2] at H
        by_cases c88 : x54_79 = true
        ·subst c88
         rw [if_pos rfl] at H
         by_cases c89 : 0 ≤ x10_2
         ·rw [if_pos c89] at H
          have c89b0 : decide (0 ≤ x10_2) = true:=decide_eq_true c89
          clear c89
          by_cases c90 : x10_2 < (l0_0.length : Int)
          ·rw [if_pos c90] at H
           have c90b0 : decide (x10_2 < (l0_0.length : Int)) = true:=decide_eq_true c90
           clear c90
           by_cases c91 : ((rd_T39 l0_0 x10_2).f0) = a1
           ·rw [if_pos c91] at H
            have c91b0 : (((rd_T39 l0_0 x10_2).f0) == a1) = true:=beq_iff_eq.mpr c91
            have c91b1 : (((rd_T39 l0_0 x10_2).f0) != a1) = false:=bne_eq_false_iff_eq.mpr c91
            clear c91
            have H':=Aside0.mk H
            clear H
            have:=NB254_255.1
            have:=NB255_254.1
            have:=NB254_256.1
            have:=NB256_254.1
            obtain ⟨hcz94_0,hcz94_1,hfz94_0,hfz94_1⟩:=zc2 K254
            have p260 : 0 ≤ (x10_2 : Int):=zd
            have q260 : x10_2 < (l0_0.length : Int):=zd
            obtain ⟨ad260,e260,hx260_0,hx260_1,hx260_2,hx260_3,hx260_4,hx260_5⟩:=at_T39 HR0_0.out x10_2 p260 q260
            cases e260
            replace hx260_0:=zh HB hx260_0
            replace hx260_1:=zh HB hx260_1
            replace hx260_2:=zh HB hx260_2
            replace hx260_3:=zh HB hx260_3
            replace hx260_4:=zh HB hx260_4
            replace hx260_5:=zh HB hx260_5
            replace p260:=eq_true p260
            replace q260:=eq_true q260
            have p261 : 0 ≤ (x10_2 : Int):=zd
            have q261 : x10_2 < (l0_0.length : Int):=zd
            obtain ⟨ad261,e261,hx261_0,hx261_1,hx261_2,hx261_3,hx261_4,hx261_5⟩:=at_T39 HR0_0.out x10_2 p261 q261
            obtain rfl : ad260 = ad261:=(by injection e261)
            replace hx261_0:=zh HB hx261_0
            replace hx261_1:=zh HB hx261_1
            replace hx261_2:=zh HB hx261_2
            replace hx261_3:=zh HB hx261_3
            replace hx261_4:=zh HB hx261_4
            replace hx261_5:=zh HB hx261_5
            replace p261:=eq_true p261
            replace q261:=eq_true q261
            have:=NB256_255.1
            have:=NB255_256.1
            obtain ⟨hcz96_0,hcz96_1,hcz96_2,hcz96_3,hcz96_4,hcz96_5,hfz96_0,hfz96_1,hfz96_2,hfz96_3,hfz96_4,hfz96_5⟩:=zc6 K256
            go_wp2_with (first|((with_reducible refine gate_store (t:=39) (p:=6) rfl ?_);refine store_event (t:=39) (p:=6) (v:=?vo_w97) (w1:=((((((wc.setCell ⟨G256,0,none⟩ (.int .i64 ((rd_T39 l0_0 x10_2).f0))).setCell ⟨G256,1,none⟩ (.int .i64 ((rd_T39 l0_0 x10_2).f1))).setCell ⟨G256,2,none⟩ (.float .f64 ((rd_T39 l0_0 x10_2).f2))).setCell ⟨G256,3,none⟩ (.int .i64 ((rd_T39 l0_0 x10_2).f3))).setCell ⟨G256,4,none⟩ (.float .f64 ((rd_T39 l0_0 x10_2).f4))).setCell ⟨G256,5,none⟩ (.int .i64 ((rd_T39 l0_0 x10_2).f5)))) ?hg ?ho ?hn ?hr ?_;(case ho => rfl);(case hg => rfl);(case hn => rfl);(case hr => first|(go_simp;done)|(go_simp;rfl));intro w97 hw;replace K254:=zV hw K254;replace K255:=zV hw K255;replace K256:=zVp hw (.cells #[.int .i64 ((rd_T39 l0_0 x10_2).f0),.int .i64 ((rd_T39 l0_0 x10_2).f1),.float .f64 ((rd_T39 l0_0 x10_2).f2),.int .i64 ((rd_T39 l0_0 x10_2).f3),.float .f64 ((rd_T39 l0_0 x10_2).f4),.int .i64 ((rd_T39 l0_0 x10_2).f5)] 39 (0,0)) K256;replace HB:=zU hw HB;clear hw))
            go_roundg kj79
            case measure => have:=HK1.out;have:=HK2.out;have:=HJ79.out;omega
            case rel => exact ⟨(true),(wrap64 (x10_2 + 1)),((rd_T39 l0_0 x10_2).f0),((rd_T39 l0_0 x10_2).f1),((rd_T39 l0_0 x10_2).f2),((rd_T39 l0_0 x10_2).f3),((rd_T39 l0_0 x10_2).f4),((rd_T39 l0_0 x10_2).f5),ze,ze,H',⟨by have:=HK1.out;have:=HK2.out;have:=HJ79.out;omega⟩,⟨z1 K254.1⟩,⟨z1 K255.1⟩,⟨z1 K256.1⟩,⟨zH HB⟩⟩
           ·rw [if_neg c91] at H
            have c91b0 : (((rd_T39 l0_0 x10_2).f0) == a1) = false:=beq_eq_false_iff_ne.mpr c91
            have c91b1 : (((rd_T39 l0_0 x10_2).f0) != a1) = true:=bne_iff_ne.mpr c91
            have H':=Aside0.mk H
            clear H
            have:=NB254_255.1
            have:=NB255_254.1
            have:=NB254_256.1
            have:=NB256_254.1
            obtain ⟨hcz100_0,hcz100_1,hfz100_0,hfz100_1⟩:=zc2 K254
            have p260 : 0 ≤ (x10_2 : Int):=zd
            have q260 : x10_2 < (l0_0.length : Int):=zd
            obtain ⟨ad260,e260,hx260_0,hx260_1,hx260_2,hx260_3,hx260_4,hx260_5⟩:=at_T39 HR0_0.out x10_2 p260 q260
            cases e260
            replace hx260_0:=zh HB hx260_0
            replace hx260_1:=zh HB hx260_1
            replace hx260_2:=zh HB hx260_2
            replace hx260_3:=zh HB hx260_3
            replace hx260_4:=zh HB hx260_4
            replace hx260_5:=zh HB hx260_5
            replace p260:=eq_true p260
            replace q260:=eq_true q260
            go_wp2
            go_roundg kj79
            case measure => have:=HK1.out;have:=HK2.out;have:=HJ79.out;omega
            case rel => exact ⟨(x7_2),(wrap64 (x10_2 + 1)),(x257000_2),(x257001_2),(x257002_2),(x257003_2),(x257004_2),(x257005_2),ze,ze,H',⟨by have:=HK1.out;have:=HK2.out;have:=HJ79.out;omega⟩,⟨z1 K254.1⟩,⟨z1 K255.1⟩,⟨z1 K256.1⟩,⟨zH HB⟩⟩
          ·rw [if_neg c90] at H
           exact absurd H (by simp)
         ·rw [if_neg c89] at H
          exact absurd H (by simp)
        ·replace c88:=Bool.eq_false_iff.mpr c88
         subst c88
         rw [if_neg (show ¬ (false = true) by decide)] at H
         simp only [Option.some.injEq,Prod.mk.injEq] at H
         obtain ⟨rfl,rfl,rfl,rfl,rfl,rfl,rfl⟩:=H
         have:=NB256_254.1
         have:=NB254_256.1
         have:=NB256_255.1
         have:=NB255_256.1
         obtain ⟨hcz103_0,hcz103_1,hcz103_2,hcz103_3,hcz103_4,hcz103_5,hfz103_0,hfz103_1,hfz103_2,hfz103_3,hfz103_4,hfz103_5⟩:=zc6 K256
         have:=NB255_254.1
         have:=NB254_255.1
         obtain ⟨hcz105_0,hcz105_1,hcz105_2,hcz105_3,hcz105_4,hcz105_5,hfz105_0,hfz105_1,hfz105_2,hfz105_3,hfz105_4,hfz105_5⟩:=zc6 K255
         go_wp2_with (first|((with_reducible refine gate_store (t:=39) (p:=4) rfl ?_);refine store_event (t:=39) (p:=4) (v:=?vo_w106) (w1:=((((((wc.setCell ⟨G255,0,none⟩ (.int .i64 x257000_2)).setCell ⟨G255,1,none⟩ (.int .i64 x257001_2)).setCell ⟨G255,2,none⟩ (.float .f64 x257002_2)).setCell ⟨G255,3,none⟩ (.int .i64 x257003_2)).setCell ⟨G255,4,none⟩ (.float .f64 x257004_2)).setCell ⟨G255,5,none⟩ (.int .i64 x257005_2))) ?hg ?ho ?hn ?hr ?_;(case ho => rfl);(case hg => rfl);(case hn => rfl);(case hr => first|(go_simp;done)|(go_simp;rfl));intro w106 hw;replace K254:=zV hw K254;replace K255:=zVp hw (.cells #[.int .i64 x257000_2,.int .i64 x257001_2,.float .f64 x257002_2,.int .i64 x257003_2,.float .f64 x257004_2,.int .i64 x257005_2] 39 (0,0)) K255;replace K256:=zV hw K256;replace HB:=zU hw HB;clear hw))
         refine bodyPost_ret (results_ct rfl _ _ G255 39 #[.int .i64 x257000_2,.int .i64 x257001_2,.float .f64 x257002_2,.int .i64 x257003_2,.float .f64 x257004_2,.int .i64 x257005_2] (0,0) _ rfl (zF K255) Try.underlying39 rfl (by kernel_rfl)) rfl ?_
         exact ⟨zE,zH HB⟩

end Go.Proofs.Ytgmjlhpigfaicaa.XF
