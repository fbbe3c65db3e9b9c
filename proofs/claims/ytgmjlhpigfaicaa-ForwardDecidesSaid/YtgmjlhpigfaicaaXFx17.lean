/- Go functions of this seat as Lean functions, with proofs that the calls come to them. (Written by xprint.py, a program of this session, over the kit's print.) -/
import Derived.Test.YtgmjlhpigfaicaaXFx0
import Derived.Test.YtgmjlhpigfaicaaXFx16
namespace Go.Proofs.Ytgmjlhpigfaicaa.XF
open Go.RowKit Go.Proofs.YtgmjlhpigfaicaaW.PrintWords Go.Proofs.YtgmjlhpigfaicaaW.PrintLast Go.Proofs.YtgmjlhpigfaicaaW.PrintMore
attribute [local go_sem] max2_int min2_int max_two min_two max_three min_three max_four min_four   -- for this text's walks alone
set_option linter.unusedVariables false
set_option linter.unusedSimpArgs false
open List renaming setIfInBounds_toArray → xA, set_cons_zero → xB, set_cons_succ → xC
open Go.Proofs.YtgmjlhpigfaicaaW.PrintWords renaming blk_drewN → bN, blk_drew → bD, blk_alloc → bA, below_set → bS, blk_frozen → bF, blk_cell → bC, cell_far → cF, blk_far → bZ, blk_below → bB, pw_below_drewN → bwN, below_drew1 → bw1, below_alloc → bwA
open Go.Proofs.YtgmjlhpigfaicaaW.PrintZ
open Bool renaming true → T,false → F

/-! ### beaconref19_road: function 81 -/
mutual
def beaconref19_road.j0 : Nat → Bool → List (S39) → Bool → Int → Int → Int → Int → Int → Int → Int → Int → ByteArray → Int → Int → ByteArray → Option (Int × Int × Nat × Int × Nat × Int × Bool × Bool)
 | 0, _, _, _, _, _, _, _, _, _, _, _, _, _, _, _ => none
 | k + 1, x32, x263000, x263001, x264000, x264001, x264002, x264003, x264004, x264005, x264006, x264007, x264008, x264009, x264010, x264011 => if x32 = true then (some (0, 0, 0, 0, 0, 0, false, false)) else (beaconref19_road.l0 k 0 x263000 x263001 x264000 x264001 x264002 x264003 x264004 x264005 x264006 x264007 x264008 x264009 x264010 x264011)
def beaconref19_road.l0 : Nat → Int → List (S39) → Bool → Int → Int → Int → Int → Int → Int → Int → Int → ByteArray → Int → Int → ByteArray → Option (Int × Int × Nat × Int × Nat × Int × Bool × Bool)
 | 0, _, _, _, _, _, _, _, _, _, _, _, _, _, _, _ => none
 | k + 1, x9, x263000, x263001, x264000, x264001, x264002, x264003, x264004, x264005, x264006, x264007, x264008, x264009, x264010, x264011 => if x9 < (x263000.length : Int) then (if 0 ≤ x9 then (if ((rd_T39 x263000 x9).f1) = 1 then (if ((rd_T39 x263000 x9).f0) = x264004 then (some ((rd_T39 x263000 x9).f0, (rd_T39 x263000 x9).f1, (rd_T39 x263000 x9).f2, (rd_T39 x263000 x9).f3, (rd_T39 x263000 x9).f4, (rd_T39 x263000 x9).f5, false, true)) else (beaconref19_road.l0 k (wrap64 (x9 + 1)) x263000 x263001 x264000 x264001 x264002 x264003 x264004 x264005 x264006 x264007 x264008 x264009 x264010 x264011)) else (beaconref19_road.l0 k (wrap64 (x9 + 1)) x263000 x263001 x264000 x264001 x264002 x264003 x264004 x264005 x264006 x264007 x264008 x264009 x264010 x264011)) else (none)) else (some (0, 0, 0, 0, 0, 0, false, false))
end
def beaconref19_road.f (k : Nat) (a0 : Int) (l1_0 : List (S39)) (a1_1 : Bool) (a2_0 : Int) (a2_1 : Int) (a2_2 : Int) (a2_3 : Int) (a2_4 : Int) (a2_5 : Int) (a2_6 : Int) (a2_7 : Int) (a2_8 : ByteArray) (a2_9 : Int) (a2_10 : Int) (a2_11 : ByteArray) : Option (Int × Int × Nat × Int × Nat × Int × Bool × Bool) := if a2_3 = a0 then (some (0, 0, 0, 0, 0, 0, true, false)) else ((beaconref17_Find.f k l1_0 a1_1 a2_3).bind fun bt265 => (if bt265.2.2.2.2.2.2 = true then (some (bt265.1, bt265.2.1, bt265.2.2.1, bt265.2.2.2.1, bt265.2.2.2.2.1, bt265.2.2.2.2.2.1, false, true)) else (if a2_4 = 0 then (beaconref19_road.j0 k true l1_0 a1_1 a2_0 a2_1 a2_2 a2_3 a2_4 a2_5 a2_6 a2_7 a2_8 a2_9 a2_10 a2_11) else (beaconref19_road.j0 k (a2_4 == a0) l1_0 a1_1 a2_0 a2_1 a2_2 a2_3 a2_4 a2_5 a2_6 a2_7 a2_8 a2_9 a2_10 a2_11))))
theorem beaconref19_road.mono_l : ∀ k, (∀ y0 y1 y2 y3 y4 y5 y6 y7 y8 y9 y10 y11 y12 y13 y14, LeO (beaconref19_road.j0 k y0 y1 y2 y3 y4 y5 y6 y7 y8 y9 y10 y11 y12 y13 y14) (beaconref19_road.j0 (k + 1) y0 y1 y2 y3 y4 y5 y6 y7 y8 y9 y10 y11 y12 y13 y14)) ∧ (∀ y0 y1 y2 y3 y4 y5 y6 y7 y8 y9 y10 y11 y12 y13 y14, LeO (beaconref19_road.l0 k y0 y1 y2 y3 y4 y5 y6 y7 y8 y9 y10 y11 y12 y13 y14) (beaconref19_road.l0 (k + 1) y0 y1 y2 y3 y4 y5 y6 y7 y8 y9 y10 y11 y12 y13 y14))
 | 0 => ⟨fun _ _ _ _ _ _ _ _ _ _ _ _ _ _ _ r h => by simp [beaconref19_road.j0] at h, fun _ _ _ _ _ _ _ _ _ _ _ _ _ _ _ r h => by simp [beaconref19_road.l0] at h⟩
 | k + 1 => by
  obtain ⟨ih0,ih1⟩:=beaconref19_road.mono_l k
  refine ⟨?_,?_⟩
  ·intro y0 y1 y2 y3 y4 y5 y6 y7 y8 y9 y10 y11 y12 y13 y14
   unfold beaconref19_road.j0
   repeat' first
   | (with_reducible exact ih0 _ _ _ _ _ _ _ _ _ _ _ _ _ _ _)
   | (with_reducible exact ih1 _ _ _ _ _ _ _ _ _ _ _ _ _ _ _)
   | (with_reducible exact beaconref17_Find.mono _ _ _ _)
   | (with_reducible exact LeO.refl _)
   | (with_reducible exact LeO.none _)
   | (with_reducible refine LeO.ite ?_ ?_)
   | (with_reducible refine LeO.bind ?_ (fun _ => ?_))
   | exact ih0 _ _ _ _ _ _ _ _ _ _ _ _ _ _ _
   | exact ih1 _ _ _ _ _ _ _ _ _ _ _ _ _ _ _
   | exact beaconref17_Find.mono _ _ _ _
   | exact LeO.none _
   | refine LeO.ite ?_ ?_
   | refine LeO.bind ?_ (fun _ => ?_)
  ·intro y0 y1 y2 y3 y4 y5 y6 y7 y8 y9 y10 y11 y12 y13 y14
   unfold beaconref19_road.l0
   repeat' first
   | (with_reducible exact ih0 _ _ _ _ _ _ _ _ _ _ _ _ _ _ _)
   | (with_reducible exact ih1 _ _ _ _ _ _ _ _ _ _ _ _ _ _ _)
   | (with_reducible exact beaconref17_Find.mono _ _ _ _)
   | (with_reducible exact LeO.refl _)
   | (with_reducible exact LeO.none _)
   | (with_reducible refine LeO.ite ?_ ?_)
   | (with_reducible refine LeO.bind ?_ (fun _ => ?_))
   | exact ih0 _ _ _ _ _ _ _ _ _ _ _ _ _ _ _
   | exact ih1 _ _ _ _ _ _ _ _ _ _ _ _ _ _ _
   | exact beaconref17_Find.mono _ _ _ _
   | exact LeO.none _
   | refine LeO.ite ?_ ?_
   | refine LeO.bind ?_ (fun _ => ?_)
theorem beaconref19_road.mono : ∀ a0 a1 a2 a3 a4 a5 a6 a7 a8 a9 a10 a11 a12 a13 a14 k, LeO (beaconref19_road.f k a0 a1 a2 a3 a4 a5 a6 a7 a8 a9 a10 a11 a12 a13 a14) (beaconref19_road.f (k + 1) a0 a1 a2 a3 a4 a5 a6 a7 a8 a9 a10 a11 a12 a13 a14) := by
 intro a0 a1 a2 a3 a4 a5 a6 a7 a8 a9 a10 a11 a12 a13 a14 k
 obtain ⟨ih0,ih1⟩:=beaconref19_road.mono_l k
 unfold beaconref19_road.f
 repeat' first
   | (with_reducible exact ih0 _ _ _ _ _ _ _ _ _ _ _ _ _ _ _)
   | (with_reducible exact ih1 _ _ _ _ _ _ _ _ _ _ _ _ _ _ _)
   | (with_reducible exact beaconref17_Find.mono _ _ _ _)
   | (with_reducible exact LeO.refl _)
   | (with_reducible exact LeO.none _)
   | (with_reducible refine LeO.ite ?_ ?_)
   | (with_reducible refine LeO.bind ?_ (fun _ => ?_))
   | exact ih0 _ _ _ _ _ _ _ _ _ _ _ _ _ _ _
   | exact ih1 _ _ _ _ _ _ _ _ _ _ _ _ _ _ _
   | exact beaconref17_Find.mono _ _ _ _
   | exact LeO.none _
   | refine LeO.ite ?_ ?_
   | refine LeO.bind ?_ (fun _ => ?_)
set_option maxHeartbeats 8000000 in
set_option maxRecDepth 100000 in
theorem beaconref19_road.calls (k : Nat) (a0 : Int) (A1_0 : Option Addr) (c1_0 : Nat) (l1_0 : List (S39)) (a1_1 : Bool) (a2_0 : Int) (a2_1 : Int) (a2_2 : Int) (a2_3 : Int) (a2_4 : Int) (a2_5 : Int) (a2_6 : Int) (a2_7 : Int) (a2_8 : ByteArray) (a2_9 : Int) (a2_10 : Int) (a2_11 : ByteArray) (r1 : Int) (r2 : Int) (r3 : Nat) (r4 : Int) (r5 : Nat) (r6 : Int) (r7 : Bool) (r8 : Bool) (w : World) (hr1_0 : Kd.C k39 w A1_0 l1_0.length l1_0) (hc1_0 : l1_0.length ≤ c1_0) (h : beaconref19_road.f k a0 l1_0 a1_1 a2_0 a2_1 a2_2 a2_3 a2_4 a2_5 a2_6 a2_7 a2_8 a2_9 a2_10 a2_11 = some (r1, r2, r3, r4, r5, r6, r7, r8)) :
  Calls Try.prog 81 #[.int .i64 a0,.agg #[.slice A1_0 l1_0.length c1_0,.bool a1_1],.agg #[.int .i64 a2_0,.int .i64 a2_1,.int .i64 a2_2,.int .i64 a2_3,.int .i64 a2_4,.int .i64 a2_5,.int .u64 a2_6,.int .i64 a2_7,.string a2_8,.int .i64 a2_9,.int .i64 a2_10,.string a2_11]] w fun e w' => e = .returned (.tuple #[.agg #[.int .i64 r1,.int .i64 r2,.float .f64 r3,.int .i64 r4,.float .f64 r5,.int .i64 r6],.bool r7,.bool r8]) ∧ Below w.heap.size w w':=by
 have hu24:=Try.underlying24
 have hu48:=Try.underlying48
 have hu39:=Try.underlying39
 have HR1_0:=Aside0.mk hr1_0
 have HC1_0:=Aside0.mk hc1_0
 clear hr1_0 hc1_0
 have HB:=Aside0.mk (Below.refl w.heap.size w)
 have H : (if a2_3 = a0 then (some (0,0,0,0,0,0,true,false)) else ((beaconref17_Find.f k l1_0 a1_1 a2_3).bind fun bt265 => (if bt265.2.2.2.2.2.2 = true then (some (bt265.1,bt265.2.1,bt265.2.2.1,bt265.2.2.2.1,bt265.2.2.2.2.1,bt265.2.2.2.2.2.1,false,true)) else (if a2_4 = 0 then (beaconref19_road.j0 k true l1_0 a1_1 a2_0 a2_1 a2_2 a2_3 a2_4 a2_5 a2_6 a2_7 a2_8 a2_9 a2_10 a2_11) else (beaconref19_road.j0 k (a2_4 == a0) l1_0 a1_1 a2_0 a2_1 a2_2 a2_3 a2_4 a2_5 a2_6 a2_7 a2_8 a2_9 a2_10 a2_11))))) = some (r1,r2,r3,r4,r5,r6,r7,r8):=h
 clear h
 by_cases c4 : a2_3 = a0
 ·rw [if_pos c4] at H
  have c4b0 : (a2_3 == a0) = true:=beq_iff_eq.mpr c4
  have c4b1 : (a2_3 != a0) = false:=bne_eq_false_iff_eq.mpr c4
  clear c4
  simp only [Option.some.injEq,Prod.mk.injEq] at H
  obtain ⟨rfl,rfl,rfl,rfl,rfl,rfl,rfl,rfl⟩:=H
  go_enter Try.func81,Try.ntmps81
  go_wp2_with (first|((with_reducible refine gate_dst (N:=4) rfl ?_);refine zb (N:=4) (cs:=#[.slice A1_0 l1_0.length c1_0,.bool a1_1]) (t:=24) ?_;intro G262 hg w5 hbox hb;have K262:=Aside0.mk (hbox);have GW262:=zN HB hg;have GE262:=zN HB hg;replace HB:=zS HB hb;clear hb hbox hg)|((with_reducible refine gate_dst (N:=5) rfl ?_);refine zb (N:=5) (cs:=#[.int .i64 a2_0,.int .i64 a2_1,.int .i64 a2_2,.int .i64 a2_3,.int .i64 a2_4,.int .i64 a2_5,.int .u64 a2_6,.int .i64 a2_7,.string a2_8,.int .i64 a2_9,.int .i64 a2_10,.string a2_11]) (t:=48) ?_;intro G263 hg w6 hbox hb;have K263:=Aside0.mk (hbox);have GW263:=zN HB hg;have GE263:=zN HB hg;replace HB:=zS HB hb;have NB262_263:=zL K262 hg;have NB263_262:=zG K262 hg;replace K262:=zB K262 hb;clear hb hbox hg)|((with_reducible refine gate_dst (N:=6) rfl ?_);refine zb (N:=6) (cs:=#[.int .i64 0,.int .i64 0,.float .f64 0,.int .i64 0,.float .f64 0,.int .i64 0]) (t:=39) ?_;intro G264 hg w7 hbox hb;have K264:=Aside0.mk (hbox);have GW264:=zN HB hg;have GE264:=zN HB hg;replace HB:=zS HB hb;have NB262_264:=zL K262 hg;have NB264_262:=zG K262 hg;replace K262:=zB K262 hb;have NB263_264:=zL K263 hg;have NB264_263:=zG K263 hg;replace K263:=zB K263 hb;clear hb hbox hg;have:=NB263_262.1;have:=NB262_263.1;have:=NB263_264.1;have:=NB264_263.1;obtain ⟨hcz10_0,hcz10_1,hcz10_2,hcz10_3,hcz10_4,hcz10_5,hcz10_6,hcz10_7,hcz10_8,hcz10_9,hcz10_10,hcz10_11,hfz10_0,hfz10_1,hfz10_2,hfz10_3,hfz10_4,hfz10_5,hfz10_6,hfz10_7,hfz10_8,hfz10_9,hfz10_10,hfz10_11⟩:=zc12 K263;have:=NB264_262.1;have:=NB262_264.1;obtain ⟨hcz12_0,hcz12_1,hcz12_2,hcz12_3,hcz12_4,hcz12_5,hfz12_0,hfz12_1,hfz12_2,hfz12_3,hfz12_4,hfz12_5⟩:=zc6 K264)|((with_reducible refine gate_store (t:=39) (p:=6) rfl ?_);(try (rw [drewN_self w7];generalize hq_ : World.drewN w7 _ = w7;replace K262:=Aside0.mk (blk_at hq_ K262.1);replace K263:=Aside0.mk (blk_at hq_ K263.1);replace K264:=Aside0.mk (blk_at hq_ K264.1);replace HB:=Aside0.mk (below_at hq_ HB.1);clear hq_));refine store_event (t:=39) (p:=6) (v:=?vo_w13) (w1:=((((((w7.setCell ⟨G264,0,none⟩ (.int .i64 0)).setCell ⟨G264,1,none⟩ (.int .i64 0)).setCell ⟨G264,2,none⟩ (.float .f64 0)).setCell ⟨G264,3,none⟩ (.int .i64 0)).setCell ⟨G264,4,none⟩ (.float .f64 0)).setCell ⟨G264,5,none⟩ (.int .i64 0))) ?hg ?ho ?hn ?hr ?_;(case ho => rfl);(case hg => rfl);(case hn => rfl);(case hr => first|(go_simp;done)|(go_simp;rfl));intro w13 hw;replace K262:=zV hw K262;replace K263:=zV hw K263;replace K264:=zVp hw (.cells #[.int .i64 0,.int .i64 0,.float .f64 0,.int .i64 0,.float .f64 0,.int .i64 0] 39 (0,0)) K264;replace HB:=zU hw HB;clear hw))
  repeat (go_quiet (first|((with_reducible refine gate_dst (N:=4) rfl ?_);refine zb (N:=4) (cs:=#[.slice A1_0 l1_0.length c1_0,.bool a1_1]) (t:=24) ?_;intro G262 hg w5 hbox hb;have K262:=Aside0.mk (hbox);have GW262:=zN HB hg;have GE262:=zN HB hg;replace HB:=zS HB hb;clear hb hbox hg)|((with_reducible refine gate_dst (N:=5) rfl ?_);refine zb (N:=5) (cs:=#[.int .i64 a2_0,.int .i64 a2_1,.int .i64 a2_2,.int .i64 a2_3,.int .i64 a2_4,.int .i64 a2_5,.int .u64 a2_6,.int .i64 a2_7,.string a2_8,.int .i64 a2_9,.int .i64 a2_10,.string a2_11]) (t:=48) ?_;intro G263 hg w6 hbox hb;have K263:=Aside0.mk (hbox);have GW263:=zN HB hg;have GE263:=zN HB hg;replace HB:=zS HB hb;have NB262_263:=zL K262 hg;have NB263_262:=zG K262 hg;replace K262:=zB K262 hb;clear hb hbox hg)|((with_reducible refine gate_dst (N:=6) rfl ?_);refine zb (N:=6) (cs:=#[.int .i64 0,.int .i64 0,.float .f64 0,.int .i64 0,.float .f64 0,.int .i64 0]) (t:=39) ?_;intro G264 hg w7 hbox hb;have K264:=Aside0.mk (hbox);have GW264:=zN HB hg;have GE264:=zN HB hg;replace HB:=zS HB hb;have NB262_264:=zL K262 hg;have NB264_262:=zG K262 hg;replace K262:=zB K262 hb;have NB263_264:=zL K263 hg;have NB264_263:=zG K263 hg;replace K263:=zB K263 hb;clear hb hbox hg;have:=NB263_262.1;have:=NB262_263.1;have:=NB263_264.1;have:=NB264_263.1;obtain ⟨hcz10_0,hcz10_1,hcz10_2,hcz10_3,hcz10_4,hcz10_5,hcz10_6,hcz10_7,hcz10_8,hcz10_9,hcz10_10,hcz10_11,hfz10_0,hfz10_1,hfz10_2,hfz10_3,hfz10_4,hfz10_5,hfz10_6,hfz10_7,hfz10_8,hfz10_9,hfz10_10,hfz10_11⟩:=zc12 K263;have:=NB264_262.1;have:=NB262_264.1;obtain ⟨hcz12_0,hcz12_1,hcz12_2,hcz12_3,hcz12_4,hcz12_5,hfz12_0,hfz12_1,hfz12_2,hfz12_3,hfz12_4,hfz12_5⟩:=zc6 K264)|((with_reducible refine gate_store (t:=39) (p:=6) rfl ?_);(try (rw [drewN_self w7];generalize hq_ : World.drewN w7 _ = w7;replace K262:=Aside0.mk (blk_at hq_ K262.1);replace K263:=Aside0.mk (blk_at hq_ K263.1);replace K264:=Aside0.mk (blk_at hq_ K264.1);replace HB:=Aside0.mk (below_at hq_ HB.1);clear hq_));refine store_event (t:=39) (p:=6) (v:=?vo_w13) (w1:=((((((w7.setCell ⟨G264,0,none⟩ (.int .i64 0)).setCell ⟨G264,1,none⟩ (.int .i64 0)).setCell ⟨G264,2,none⟩ (.float .f64 0)).setCell ⟨G264,3,none⟩ (.int .i64 0)).setCell ⟨G264,4,none⟩ (.float .f64 0)).setCell ⟨G264,5,none⟩ (.int .i64 0))) ?hg ?ho ?hn ?hr ?_;(case ho => rfl);(case hg => rfl);(case hn => rfl);(case hr => first|(go_simp;done)|(go_simp;rfl));intro w13 hw;replace K262:=zV hw K262;replace K263:=zV hw K263;replace K264:=zVp hw (.cells #[.int .i64 0,.int .i64 0,.float .f64 0,.int .i64 0,.float .f64 0,.int .i64 0] 39 (0,0)) K264;replace HB:=zU hw HB;clear hw));try go_wp2_with (first|((with_reducible refine gate_dst (N:=4) rfl ?_);refine zb (N:=4) (cs:=#[.slice A1_0 l1_0.length c1_0,.bool a1_1]) (t:=24) ?_;intro G262 hg w5 hbox hb;have K262:=Aside0.mk (hbox);have GW262:=zN HB hg;have GE262:=zN HB hg;replace HB:=zS HB hb;clear hb hbox hg)|((with_reducible refine gate_dst (N:=5) rfl ?_);refine zb (N:=5) (cs:=#[.int .i64 a2_0,.int .i64 a2_1,.int .i64 a2_2,.int .i64 a2_3,.int .i64 a2_4,.int .i64 a2_5,.int .u64 a2_6,.int .i64 a2_7,.string a2_8,.int .i64 a2_9,.int .i64 a2_10,.string a2_11]) (t:=48) ?_;intro G263 hg w6 hbox hb;have K263:=Aside0.mk (hbox);have GW263:=zN HB hg;have GE263:=zN HB hg;replace HB:=zS HB hb;have NB262_263:=zL K262 hg;have NB263_262:=zG K262 hg;replace K262:=zB K262 hb;clear hb hbox hg)|((with_reducible refine gate_dst (N:=6) rfl ?_);refine zb (N:=6) (cs:=#[.int .i64 0,.int .i64 0,.float .f64 0,.int .i64 0,.float .f64 0,.int .i64 0]) (t:=39) ?_;intro G264 hg w7 hbox hb;have K264:=Aside0.mk (hbox);have GW264:=zN HB hg;have GE264:=zN HB hg;replace HB:=zS HB hb;have NB262_264:=zL K262 hg;have NB264_262:=zG K262 hg;replace K262:=zB K262 hb;have NB263_264:=zL K263 hg;have NB264_263:=zG K263 hg;replace K263:=zB K263 hb;clear hb hbox hg;have:=NB263_262.1;have:=NB262_263.1;have:=NB263_264.1;have:=NB264_263.1;obtain ⟨hcz10_0,hcz10_1,hcz10_2,hcz10_3,hcz10_4,hcz10_5,hcz10_6,hcz10_7,hcz10_8,hcz10_9,hcz10_10,hcz10_11,hfz10_0,hfz10_1,hfz10_2,hfz10_3,hfz10_4,hfz10_5,hfz10_6,hfz10_7,hfz10_8,hfz10_9,hfz10_10,hfz10_11⟩:=zc12 K263;have:=NB264_262.1;have:=NB262_264.1;obtain ⟨hcz12_0,hcz12_1,hcz12_2,hcz12_3,hcz12_4,hcz12_5,hfz12_0,hfz12_1,hfz12_2,hfz12_3,hfz12_4,hfz12_5⟩:=zc6 K264)|((with_reducible refine gate_store (t:=39) (p:=6) rfl ?_);(try (rw [drewN_self w7];generalize hq_ : World.drewN w7 _ = w7;replace K262:=Aside0.mk (blk_at hq_ K262.1);replace K263:=Aside0.mk (blk_at hq_ K263.1);replace K264:=Aside0.mk (blk_at hq_ K264.1);replace HB:=Aside0.mk (below_at hq_ HB.1);clear hq_));refine store_event (t:=39) (p:=6) (v:=?vo_w13) (w1:=((((((w7.setCell ⟨G264,0,none⟩ (.int .i64 0)).setCell ⟨G264,1,none⟩ (.int .i64 0)).setCell ⟨G264,2,none⟩ (.float .f64 0)).setCell ⟨G264,3,none⟩ (.int .i64 0)).setCell ⟨G264,4,none⟩ (.float .f64 0)).setCell ⟨G264,5,none⟩ (.int .i64 0))) ?hg ?ho ?hn ?hr ?_;(case ho => rfl);(case hg => rfl);(case hn => rfl);(case hr => first|(go_simp;done)|(go_simp;rfl));intro w13 hw;replace K262:=zV hw K262;replace K263:=zV hw K263;replace K264:=zVp hw (.cells #[.int .i64 0,.int .i64 0,.float .f64 0,.int .i64 0,.float .f64 0,.int .i64 0] 39 (0,0)) K264;replace HB:=zU hw HB;clear hw)))
  refine bodyPost_ret (results_ctt rfl _ _ G264 39 #[.int .i64 0,.int .i64 0,.float .f64 0,.int .i64 0,.float .f64 0,.int .i64 0] (0,0) _ rfl (zF K264) Try.underlying39 rfl (by kernel_rfl)) rfl ?_
  exact ⟨zE,zH HB⟩
 ·rw [if_neg c4] at H
  have c4b0 : (a2_3 == a0) = false:=beq_eq_false_iff_ne.mpr c4
  have c4b1 : (a2_3 != a0) = true:=bne_iff_ne.mpr c4
  replace H:=Option.bind_eq_some_iff.mp H
  obtain ⟨⟨t265,t266,t267,t268,t269,t270,t271⟩,A140,H⟩:=H
  (try dsimp only at H)
  have A14:=Aside0.mk A140
  clear A140
  by_cases c15 : t271 = true
  ·subst c15
   rw [if_pos rfl] at H
   simp only [Option.some.injEq,Prod.mk.injEq] at H
   obtain ⟨rfl,rfl,rfl,rfl,rfl,rfl,rfl,rfl⟩:=H
   go_enter Try.func81,Try.ntmps81
   go_wp2_with (first|((with_reducible refine gate_dst (N:=4) rfl ?_);refine zb (N:=4) (cs:=#[.slice A1_0 l1_0.length c1_0,.bool a1_1]) (t:=24) ?_;intro G262 hg w16 hbox hb;have K262:=Aside0.mk (hbox);have GW262:=zN HB hg;have GE262:=zN HB hg;replace HB:=zS HB hb;clear hb hbox hg)|((with_reducible refine gate_dst (N:=5) rfl ?_);refine zb (N:=5) (cs:=#[.int .i64 a2_0,.int .i64 a2_1,.int .i64 a2_2,.int .i64 a2_3,.int .i64 a2_4,.int .i64 a2_5,.int .u64 a2_6,.int .i64 a2_7,.string a2_8,.int .i64 a2_9,.int .i64 a2_10,.string a2_11]) (t:=48) ?_;intro G263 hg w17 hbox hb;have K263:=Aside0.mk (hbox);have GW263:=zN HB hg;have GE263:=zN HB hg;replace HB:=zS HB hb;have NB262_263:=zL K262 hg;have NB263_262:=zG K262 hg;replace K262:=zB K262 hb;clear hb hbox hg)|((with_reducible refine gate_dst (N:=6) rfl ?_);refine zb (N:=6) (cs:=#[.int .i64 0,.int .i64 0,.float .f64 0,.int .i64 0,.float .f64 0,.int .i64 0]) (t:=39) ?_;intro G264 hg w18 hbox hb;have K264:=Aside0.mk (hbox);have GW264:=zN HB hg;have GE264:=zN HB hg;replace HB:=zS HB hb;have NB262_264:=zL K262 hg;have NB264_262:=zG K262 hg;replace K262:=zB K262 hb;have NB263_264:=zL K263 hg;have NB264_263:=zG K263 hg;replace K263:=zB K263 hb;clear hb hbox hg;have:=NB263_262.1;have:=NB262_263.1;have:=NB263_264.1;have:=NB264_263.1;obtain ⟨hcz21_0,hcz21_1,hcz21_2,hcz21_3,hcz21_4,hcz21_5,hcz21_6,hcz21_7,hcz21_8,hcz21_9,hcz21_10,hcz21_11,hfz21_0,hfz21_1,hfz21_2,hfz21_3,hfz21_4,hfz21_5,hfz21_6,hfz21_7,hfz21_8,hfz21_9,hfz21_10,hfz21_11⟩:=zc12 K263;have:=NB262_264.1;have:=NB264_262.1;obtain ⟨hcz23_0,hcz23_1,hfz23_0,hfz23_1⟩:=zc2 K262)|(go_at_call 24;(with_reducible refine (beaconref17_Find.calls k _ _ l1_0 a1_1 a2_3 t265 t266 t267 t268 t269 t270 true _ ?side1 ?side2 A14.out).mono ?_);(case side1 => exact zC (Kd.C_below HR1_0.out HB.1));(case side2 => exact HC1_0.out);rintro e w24 ⟨rfl,hb⟩;replace K262:=zB K262 hb;replace K263:=zB K263 hb;replace K264:=zB K264 hb;replace HB:=zS HB hb;(try clear hb);obtain ⟨hcz25_0,hcz25_1,hcz25_2,hcz25_3,hcz25_4,hcz25_5,hfz25_0,hfz25_1,hfz25_2,hfz25_3,hfz25_4,hfz25_5⟩:=zc6 K264)|((with_reducible refine gate_store (t:=39) (p:=6) rfl ?_);(try (rw [drewN_self w24];generalize hq_ : World.drewN w24 _ = w24;replace K262:=Aside0.mk (blk_at hq_ K262.1);replace K263:=Aside0.mk (blk_at hq_ K263.1);replace K264:=Aside0.mk (blk_at hq_ K264.1);replace HB:=Aside0.mk (below_at hq_ HB.1);clear hq_));refine store_event (t:=39) (p:=6) (v:=?vo_w26) (w1:=((((((w24.setCell ⟨G264,0,none⟩ (.int .i64 t265)).setCell ⟨G264,1,none⟩ (.int .i64 t266)).setCell ⟨G264,2,none⟩ (.float .f64 t267)).setCell ⟨G264,3,none⟩ (.int .i64 t268)).setCell ⟨G264,4,none⟩ (.float .f64 t269)).setCell ⟨G264,5,none⟩ (.int .i64 t270))) ?hg ?ho ?hn ?hr ?_;(case ho => rfl);(case hg => rfl);(case hn => rfl);(case hr => first|(go_simp;done)|(go_simp;rfl));intro w26 hw;replace K262:=zV hw K262;replace K263:=zV hw K263;replace K264:=zVp hw (.cells #[.int .i64 t265,.int .i64 t266,.float .f64 t267,.int .i64 t268,.float .f64 t269,.int .i64 t270] 39 (0,0)) K264;replace HB:=zU hw HB;clear hw;obtain ⟨hcz27_0,hcz27_1,hcz27_2,hcz27_3,hcz27_4,hcz27_5,hfz27_0,hfz27_1,hfz27_2,hfz27_3,hfz27_4,hfz27_5⟩:=zc6 K264)|((with_reducible refine gate_store (t:=39) (p:=6) rfl ?_);(try (rw [drewN_self w26];generalize hq_ : World.drewN w26 _ = w26;replace K262:=Aside0.mk (blk_at hq_ K262.1);replace K263:=Aside0.mk (blk_at hq_ K263.1);replace K264:=Aside0.mk (blk_at hq_ K264.1);replace HB:=Aside0.mk (below_at hq_ HB.1);clear hq_));refine store_event (t:=39) (p:=6) (v:=?vo_w28) (w1:=((((((w26.setCell ⟨G264,0,none⟩ (.int .i64 t265)).setCell ⟨G264,1,none⟩ (.int .i64 t266)).setCell ⟨G264,2,none⟩ (.float .f64 t267)).setCell ⟨G264,3,none⟩ (.int .i64 t268)).setCell ⟨G264,4,none⟩ (.float .f64 t269)).setCell ⟨G264,5,none⟩ (.int .i64 t270))) ?hg ?ho ?hn ?hr ?_;(case ho => rfl);(case hg => rfl);(case hn => rfl);(case hr => first|(go_simp;done)|(go_simp;rfl));intro w28 hw;replace K262:=zV hw K262;replace K263:=zV hw K263;replace K264:=zVp hw (.cells #[.int .i64 t265,.int .i64 t266,.float .f64 t267,.int .i64 t268,.float .f64 t269,.int .i64 t270] 39 (0,0)) K264;replace HB:=zU hw HB;clear hw))
   repeat (go_quiet (first|((with_reducible refine gate_dst (N:=4) rfl ?_);refine zb (N:=4) (cs:=#[.slice A1_0 l1_0.length c1_0,.bool a1_1]) (t:=24) ?_;intro G262 hg w16 hbox hb;have K262:=Aside0.mk (hbox);have GW262:=zN HB hg;have GE262:=zN HB hg;replace HB:=zS HB hb;clear hb hbox hg)|((with_reducible refine gate_dst (N:=5) rfl ?_);refine zb (N:=5) (cs:=#[.int .i64 a2_0,.int .i64 a2_1,.int .i64 a2_2,.int .i64 a2_3,.int .i64 a2_4,.int .i64 a2_5,.int .u64 a2_6,.int .i64 a2_7,.string a2_8,.int .i64 a2_9,.int .i64 a2_10,.string a2_11]) (t:=48) ?_;intro G263 hg w17 hbox hb;have K263:=Aside0.mk (hbox);have GW263:=zN HB hg;have GE263:=zN HB hg;replace HB:=zS HB hb;have NB262_263:=zL K262 hg;have NB263_262:=zG K262 hg;replace K262:=zB K262 hb;clear hb hbox hg)|((with_reducible refine gate_dst (N:=6) rfl ?_);refine zb (N:=6) (cs:=#[.int .i64 0,.int .i64 0,.float .f64 0,.int .i64 0,.float .f64 0,.int .i64 0]) (t:=39) ?_;intro G264 hg w18 hbox hb;have K264:=Aside0.mk (hbox);have GW264:=zN HB hg;have GE264:=zN HB hg;replace HB:=zS HB hb;have NB262_264:=zL K262 hg;have NB264_262:=zG K262 hg;replace K262:=zB K262 hb;have NB263_264:=zL K263 hg;have NB264_263:=zG K263 hg;replace K263:=zB K263 hb;clear hb hbox hg;have:=NB263_262.1;have:=NB262_263.1;have:=NB263_264.1;have:=NB264_263.1;obtain ⟨hcz21_0,hcz21_1,hcz21_2,hcz21_3,hcz21_4,hcz21_5,hcz21_6,hcz21_7,hcz21_8,hcz21_9,hcz21_10,hcz21_11,hfz21_0,hfz21_1,hfz21_2,hfz21_3,hfz21_4,hfz21_5,hfz21_6,hfz21_7,hfz21_8,hfz21_9,hfz21_10,hfz21_11⟩:=zc12 K263;have:=NB262_264.1;have:=NB264_262.1;obtain ⟨hcz23_0,hcz23_1,hfz23_0,hfz23_1⟩:=zc2 K262)|(go_at_call 24;(with_reducible refine (beaconref17_Find.calls k _ _ l1_0 a1_1 a2_3 t265 t266 t267 t268 t269 t270 true _ ?side1 ?side2 A14.out).mono ?_);(case side1 => exact zC (Kd.C_below HR1_0.out HB.1));(case side2 => exact HC1_0.out);rintro e w24 ⟨rfl,hb⟩;replace K262:=zB K262 hb;replace K263:=zB K263 hb;replace K264:=zB K264 hb;replace HB:=zS HB hb;(try clear hb);obtain ⟨hcz25_0,hcz25_1,hcz25_2,hcz25_3,hcz25_4,hcz25_5,hfz25_0,hfz25_1,hfz25_2,hfz25_3,hfz25_4,hfz25_5⟩:=zc6 K264)|((with_reducible refine gate_store (t:=39) (p:=6) rfl ?_);(try (rw [drewN_self w24];generalize hq_ : World.drewN w24 _ = w24;replace K262:=Aside0.mk (blk_at hq_ K262.1);replace K263:=Aside0.mk (blk_at hq_ K263.1);replace K264:=Aside0.mk (blk_at hq_ K264.1);replace HB:=Aside0.mk (below_at hq_ HB.1);clear hq_));refine store_event (t:=39) (p:=6) (v:=?vo_w26) (w1:=((((((w24.setCell ⟨G264,0,none⟩ (.int .i64 t265)).setCell ⟨G264,1,none⟩ (.int .i64 t266)).setCell ⟨G264,2,none⟩ (.float .f64 t267)).setCell ⟨G264,3,none⟩ (.int .i64 t268)).setCell ⟨G264,4,none⟩ (.float .f64 t269)).setCell ⟨G264,5,none⟩ (.int .i64 t270))) ?hg ?ho ?hn ?hr ?_;(case ho => rfl);(case hg => rfl);(case hn => rfl);(case hr => first|(go_simp;done)|(go_simp;rfl));intro w26 hw;replace K262:=zV hw K262;replace K263:=zV hw K263;replace K264:=zVp hw (.cells #[.int .i64 t265,.int .i64 t266,.float .f64 t267,.int .i64 t268,.float .f64 t269,.int .i64 t270] 39 (0,0)) K264;replace HB:=zU hw HB;clear hw;obtain ⟨hcz27_0,hcz27_1,hcz27_2,hcz27_3,hcz27_4,hcz27_5,hfz27_0,hfz27_1,hfz27_2,hfz27_3,hfz27_4,hfz27_5⟩:=zc6 K264)|((with_reducible refine gate_store (t:=39) (p:=6) rfl ?_);(try (rw [drewN_self w26];generalize hq_ : World.drewN w26 _ = w26;replace K262:=Aside0.mk (blk_at hq_ K262.1);replace K263:=Aside0.mk (blk_at hq_ K263.1);replace K264:=Aside0.mk (blk_at hq_ K264.1);replace HB:=Aside0.mk (below_at hq_ HB.1);clear hq_));refine store_event (t:=39) (p:=6) (v:=?vo_w28) (w1:=((((((w26.setCell ⟨G264,0,none⟩ (.int .i64 t265)).setCell ⟨G264,1,none⟩ (.int .i64 t266)).setCell ⟨G264,2,none⟩ (.float .f64 t267)).setCell ⟨G264,3,none⟩ (.int .i64 t268)).setCell ⟨G264,4,none⟩ (.float .f64 t269)).setCell ⟨G264,5,none⟩ (.int .i64 t270))) ?hg ?ho ?hn ?hr ?_;(case ho => rfl);(case hg => rfl);(case hn => rfl);(case hr => first|(go_simp;done)|(go_simp;rfl));intro w28 hw;replace K262:=zV hw K262;replace K263:=zV hw K263;replace K264:=zVp hw (.cells #[.int .i64 t265,.int .i64 t266,.float .f64 t267,.int .i64 t268,.float .f64 t269,.int .i64 t270] 39 (0,0)) K264;replace HB:=zU hw HB;clear hw));try go_wp2_with (first|((with_reducible refine gate_dst (N:=4) rfl ?_);refine zb (N:=4) (cs:=#[.slice A1_0 l1_0.length c1_0,.bool a1_1]) (t:=24) ?_;intro G262 hg w16 hbox hb;have K262:=Aside0.mk (hbox);have GW262:=zN HB hg;have GE262:=zN HB hg;replace HB:=zS HB hb;clear hb hbox hg)|((with_reducible refine gate_dst (N:=5) rfl ?_);refine zb (N:=5) (cs:=#[.int .i64 a2_0,.int .i64 a2_1,.int .i64 a2_2,.int .i64 a2_3,.int .i64 a2_4,.int .i64 a2_5,.int .u64 a2_6,.int .i64 a2_7,.string a2_8,.int .i64 a2_9,.int .i64 a2_10,.string a2_11]) (t:=48) ?_;intro G263 hg w17 hbox hb;have K263:=Aside0.mk (hbox);have GW263:=zN HB hg;have GE263:=zN HB hg;replace HB:=zS HB hb;have NB262_263:=zL K262 hg;have NB263_262:=zG K262 hg;replace K262:=zB K262 hb;clear hb hbox hg)|((with_reducible refine gate_dst (N:=6) rfl ?_);refine zb (N:=6) (cs:=#[.int .i64 0,.int .i64 0,.float .f64 0,.int .i64 0,.float .f64 0,.int .i64 0]) (t:=39) ?_;intro G264 hg w18 hbox hb;have K264:=Aside0.mk (hbox);have GW264:=zN HB hg;have GE264:=zN HB hg;replace HB:=zS HB hb;have NB262_264:=zL K262 hg;have NB264_262:=zG K262 hg;replace K262:=zB K262 hb;have NB263_264:=zL K263 hg;have NB264_263:=zG K263 hg;replace K263:=zB K263 hb;clear hb hbox hg;have:=NB263_262.1;have:=NB262_263.1;have:=NB263_264.1;have:=NB264_263.1;obtain ⟨hcz21_0,hcz21_1,hcz21_2,hcz21_3,hcz21_4,hcz21_5,hcz21_6,hcz21_7,hcz21_8,hcz21_9,hcz21_10,hcz21_11,hfz21_0,hfz21_1,hfz21_2,hfz21_3,hfz21_4,hfz21_5,hfz21_6,hfz21_7,hfz21_8,hfz21_9,hfz21_10,hfz21_11⟩:=zc12 K263;have:=NB262_264.1;have:=NB264_262.1;obtain ⟨hcz23_0,hcz23_1,hfz23_0,hfz23_1⟩:=zc2 K262)|(go_at_call 24;(with_reducible refine (beaconref17_Find.calls k _ _ l1_0 a1_1 a2_3 t265 t266 t267 t268 t269 t270 true _ ?side1 ?side2 A14.out).mono ?_);(case side1 => exact zC (Kd.C_below HR1_0.out HB.1));(case side2 => exact HC1_0.out);rintro e w24 ⟨rfl,hb⟩;replace K262:=zB K262 hb;replace K263:=zB K263 hb;replace K264:=zB K264 hb;replace HB:=zS HB hb;(try clear hb);obtain ⟨hcz25_0,hcz25_1,hcz25_2,hcz25_3,hcz25_4,hcz25_5,hfz25_0,hfz25_1,hfz25_2,hfz25_3,hfz25_4,hfz25_5⟩:=zc6 K264)|((with_reducible refine gate_store (t:=39) (p:=6) rfl ?_);(try (rw [drewN_self w24];generalize hq_ : World.drewN w24 _ = w24;replace K262:=Aside0.mk (blk_at hq_ K262.1);replace K263:=Aside0.mk (blk_at hq_ K263.1);replace K264:=Aside0.mk (blk_at hq_ K264.1);replace HB:=Aside0.mk (below_at hq_ HB.1);clear hq_));refine store_event (t:=39) (p:=6) (v:=?vo_w26) (w1:=((((((w24.setCell ⟨G264,0,none⟩ (.int .i64 t265)).setCell ⟨G264,1,none⟩ (.int .i64 t266)).setCell ⟨G264,2,none⟩ (.float .f64 t267)).setCell ⟨G264,3,none⟩ (.int .i64 t268)).setCell ⟨G264,4,none⟩ (.float .f64 t269)).setCell ⟨G264,5,none⟩ (.int .i64 t270))) ?hg ?ho ?hn ?hr ?_;(case ho => rfl);(case hg => rfl);(case hn => rfl);(case hr => first|(go_simp;done)|(go_simp;rfl));intro w26 hw;replace K262:=zV hw K262;replace K263:=zV hw K263;replace K264:=zVp hw (.cells #[.int .i64 t265,.int .i64 t266,.float .f64 t267,.int .i64 t268,.float .f64 t269,.int .i64 t270] 39 (0,0)) K264;replace HB:=zU hw HB;clear hw;obtain ⟨hcz27_0,hcz27_1,hcz27_2,hcz27_3,hcz27_4,hcz27_5,hfz27_0,hfz27_1,hfz27_2,hfz27_3,hfz27_4,hfz27_5⟩:=zc6 K264)|((with_reducible refine gate_store (t:=39) (p:=6) rfl ?_);(try (rw [drewN_self w26];generalize hq_ : World.drewN w26 _ = w26;replace K262:=Aside0.mk (blk_at hq_ K262.1);replace K263:=Aside0.mk (blk_at hq_ K263.1);replace K264:=Aside0.mk (blk_at hq_ K264.1);replace HB:=Aside0.mk (below_at hq_ HB.1);clear hq_));refine store_event (t:=39) (p:=6) (v:=?vo_w28) (w1:=((((((w26.setCell ⟨G264,0,none⟩ (.int .i64 t265)).setCell ⟨G264,1,none⟩ (.int .i64 t266)).setCell ⟨G264,2,none⟩ (.float .f64 t267)).setCell ⟨G264,3,none⟩ (.int .i64 t268)).setCell ⟨G264,4,none⟩ (.float .f64 t269)).setCell ⟨G264,5,none⟩ (.int .i64 t270))) ?hg ?ho ?hn ?hr ?_;(case ho => rfl);(case hg => rfl);(case hn => rfl);(case hr => first|(go_simp;done)|(go_simp;rfl));intro w28 hw;replace K262:=zV hw K262;replace K263:=zV hw K263;replace K264:=zVp hw (.cells #[.int .i64 t265,.int .i64 t266,.float .f64 t267,.int .i64 t268,.float .f64 t269,.int .i64 t270] 39 (0,0)) K264;replace HB:=zU hw HB;clear hw)))
   refine bodyPost_ret (results_ctt rfl _ _ G264 39 #[.int .i64 t265,.int .i64 t266,.float .f64 t267,.int .i64 t268,.float .f64 t269,.int .i64 t270] (0,0) _ rfl (zF K264) Try.underlying39 rfl (by kernel_rfl)) rfl ?_
   exact ⟨zE,zH HB⟩
  ·replace c15:=Bool.eq_false_iff.mpr c15
   subst c15
   rw [if_neg (show ¬ (false = true) by decide)] at H
   have HC29:=Aside0.mk H
   clear H
   go_enter Try.func81,Try.ntmps81
   go_upto_region 6 with (first|((with_reducible refine gate_dst (N:=4) rfl ?_);refine zb (N:=4) (cs:=#[.slice A1_0 l1_0.length c1_0,.bool a1_1]) (t:=24) ?_;intro G262 hg w30 hbox hb;have K262:=Aside0.mk (hbox);have GW262:=zN HB hg;have GE262:=zN HB hg;replace HB:=zS HB hb;clear hb hbox hg)|((with_reducible refine gate_dst (N:=5) rfl ?_);refine zb (N:=5) (cs:=#[.int .i64 a2_0,.int .i64 a2_1,.int .i64 a2_2,.int .i64 a2_3,.int .i64 a2_4,.int .i64 a2_5,.int .u64 a2_6,.int .i64 a2_7,.string a2_8,.int .i64 a2_9,.int .i64 a2_10,.string a2_11]) (t:=48) ?_;intro G263 hg w31 hbox hb;have K263:=Aside0.mk (hbox);have GW263:=zN HB hg;have GE263:=zN HB hg;replace HB:=zS HB hb;have NB262_263:=zL K262 hg;have NB263_262:=zG K262 hg;replace K262:=zB K262 hb;clear hb hbox hg)|((with_reducible refine gate_dst (N:=6) rfl ?_);refine zb (N:=6) (cs:=#[.int .i64 0,.int .i64 0,.float .f64 0,.int .i64 0,.float .f64 0,.int .i64 0]) (t:=39) ?_;intro G264 hg w32 hbox hb;have K264:=Aside0.mk (hbox);have GW264:=zN HB hg;have GE264:=zN HB hg;replace HB:=zS HB hb;have NB262_264:=zL K262 hg;have NB264_262:=zG K262 hg;replace K262:=zB K262 hb;have NB263_264:=zL K263 hg;have NB264_263:=zG K263 hg;replace K263:=zB K263 hb;clear hb hbox hg;have:=NB263_262.1;have:=NB262_263.1;have:=NB263_264.1;have:=NB264_263.1;obtain ⟨hcz35_0,hcz35_1,hcz35_2,hcz35_3,hcz35_4,hcz35_5,hcz35_6,hcz35_7,hcz35_8,hcz35_9,hcz35_10,hcz35_11,hfz35_0,hfz35_1,hfz35_2,hfz35_3,hfz35_4,hfz35_5,hfz35_6,hfz35_7,hfz35_8,hfz35_9,hfz35_10,hfz35_11⟩:=zc12 K263;have:=NB262_264.1;have:=NB264_262.1;obtain ⟨hcz37_0,hcz37_1,hfz37_0,hfz37_1⟩:=zc2 K262)|(go_at_call 24;(with_reducible refine (beaconref17_Find.calls k _ _ l1_0 a1_1 a2_3 t265 t266 t267 t268 t269 t270 false _ ?side1 ?side2 A14.out).mono ?_);(case side1 => exact zC (Kd.C_below HR1_0.out HB.1));(case side2 => exact HC1_0.out);rintro e w38 ⟨rfl,hb⟩;replace K262:=zB K262 hb;replace K263:=zB K263 hb;replace K264:=zB K264 hb;replace HB:=zS HB hb;(try clear hb);obtain ⟨hcz39_0,hcz39_1,hcz39_2,hcz39_3,hcz39_4,hcz39_5,hfz39_0,hfz39_1,hfz39_2,hfz39_3,hfz39_4,hfz39_5⟩:=zc6 K264)|((with_reducible refine gate_store (t:=39) (p:=6) rfl ?_);(try (rw [drewN_self w38];generalize hq_ : World.drewN w38 _ = w38;replace K262:=Aside0.mk (blk_at hq_ K262.1);replace K263:=Aside0.mk (blk_at hq_ K263.1);replace K264:=Aside0.mk (blk_at hq_ K264.1);replace HB:=Aside0.mk (below_at hq_ HB.1);clear hq_));refine store_event (t:=39) (p:=6) (v:=?vo_w40) (w1:=((((((w38.setCell ⟨G264,0,none⟩ (.int .i64 t265)).setCell ⟨G264,1,none⟩ (.int .i64 t266)).setCell ⟨G264,2,none⟩ (.float .f64 t267)).setCell ⟨G264,3,none⟩ (.int .i64 t268)).setCell ⟨G264,4,none⟩ (.float .f64 t269)).setCell ⟨G264,5,none⟩ (.int .i64 t270))) ?hg ?ho ?hn ?hr ?_;(case ho => rfl);(case hg => rfl);(case hn => rfl);(case hr => first|(go_simp;done)|(go_simp;rfl));intro w40 hw;replace K262:=zV hw K262;replace K263:=zV hw K263;replace K264:=zVp hw (.cells #[.int .i64 t265,.int .i64 t266,.float .f64 t267,.int .i64 t268,.float .f64 t269,.int .i64 t270] 39 (0,0)) K264;replace HB:=zU hw HB;clear hw))
   repeat (go_quiet (first|((with_reducible refine gate_dst (N:=4) rfl ?_);refine zb (N:=4) (cs:=#[.slice A1_0 l1_0.length c1_0,.bool a1_1]) (t:=24) ?_;intro G262 hg w30 hbox hb;have K262:=Aside0.mk (hbox);have GW262:=zN HB hg;have GE262:=zN HB hg;replace HB:=zS HB hb;clear hb hbox hg)|((with_reducible refine gate_dst (N:=5) rfl ?_);refine zb (N:=5) (cs:=#[.int .i64 a2_0,.int .i64 a2_1,.int .i64 a2_2,.int .i64 a2_3,.int .i64 a2_4,.int .i64 a2_5,.int .u64 a2_6,.int .i64 a2_7,.string a2_8,.int .i64 a2_9,.int .i64 a2_10,.string a2_11]) (t:=48) ?_;intro G263 hg w31 hbox hb;have K263:=Aside0.mk (hbox);have GW263:=zN HB hg;have GE263:=zN HB hg;replace HB:=zS HB hb;have NB262_263:=zL K262 hg;have NB263_262:=zG K262 hg;replace K262:=zB K262 hb;clear hb hbox hg)|((with_reducible refine gate_dst (N:=6) rfl ?_);refine zb (N:=6) (cs:=#[.int .i64 0,.int .i64 0,.float .f64 0,.int .i64 0,.float .f64 0,.int .i64 0]) (t:=39) ?_;intro G264 hg w32 hbox hb;have K264:=Aside0.mk (hbox);have GW264:=zN HB hg;have GE264:=zN HB hg;replace HB:=zS HB hb;have NB262_264:=zL K262 hg;have NB264_262:=zG K262 hg;replace K262:=zB K262 hb;have NB263_264:=zL K263 hg;have NB264_263:=zG K263 hg;replace K263:=zB K263 hb;clear hb hbox hg;have:=NB263_262.1;have:=NB262_263.1;have:=NB263_264.1;have:=NB264_263.1;obtain ⟨hcz35_0,hcz35_1,hcz35_2,hcz35_3,hcz35_4,hcz35_5,hcz35_6,hcz35_7,hcz35_8,hcz35_9,hcz35_10,hcz35_11,hfz35_0,hfz35_1,hfz35_2,hfz35_3,hfz35_4,hfz35_5,hfz35_6,hfz35_7,hfz35_8,hfz35_9,hfz35_10,hfz35_11⟩:=zc12 K263;have:=NB262_264.1;have:=NB264_262.1;obtain ⟨hcz37_0,hcz37_1,hfz37_0,hfz37_1⟩:=zc2 K262)|(go_at_call 24;(with_reducible refine (beaconref17_Find.calls k _ _ l1_0 a1_1 a2_3 t265 t266 t267 t268 t269 t270 false _ ?side1 ?side2 A14.out).mono ?_);(case side1 => exact zC (Kd.C_below HR1_0.out HB.1));(case side2 => exact HC1_0.out);rintro e w38 ⟨rfl,hb⟩;replace K262:=zB K262 hb;replace K263:=zB K263 hb;replace K264:=zB K264 hb;replace HB:=zS HB hb;(try clear hb);obtain ⟨hcz39_0,hcz39_1,hcz39_2,hcz39_3,hcz39_4,hcz39_5,hfz39_0,hfz39_1,hfz39_2,hfz39_3,hfz39_4,hfz39_5⟩:=zc6 K264)|((with_reducible refine gate_store (t:=39) (p:=6) rfl ?_);(try (rw [drewN_self w38];generalize hq_ : World.drewN w38 _ = w38;replace K262:=Aside0.mk (blk_at hq_ K262.1);replace K263:=Aside0.mk (blk_at hq_ K263.1);replace K264:=Aside0.mk (blk_at hq_ K264.1);replace HB:=Aside0.mk (below_at hq_ HB.1);clear hq_));refine store_event (t:=39) (p:=6) (v:=?vo_w40) (w1:=((((((w38.setCell ⟨G264,0,none⟩ (.int .i64 t265)).setCell ⟨G264,1,none⟩ (.int .i64 t266)).setCell ⟨G264,2,none⟩ (.float .f64 t267)).setCell ⟨G264,3,none⟩ (.int .i64 t268)).setCell ⟨G264,4,none⟩ (.float .f64 t269)).setCell ⟨G264,5,none⟩ (.int .i64 t270))) ?hg ?ho ?hn ?hr ?_;(case ho => rfl);(case hg => rfl);(case hn => rfl);(case hr => first|(go_simp;done)|(go_simp;rfl));intro w40 hw;replace K262:=zV hw K262;replace K263:=zV hw K263;replace K264:=zVp hw (.cells #[.int .i64 t265,.int .i64 t266,.float .f64 t267,.int .i64 t268,.float .f64 t269,.int .i64 t270] 39 (0,0)) K264;replace HB:=zU hw HB;clear hw));go_upto_region 6 with (first|((with_reducible refine gate_dst (N:=4) rfl ?_);refine zb (N:=4) (cs:=#[.slice A1_0 l1_0.length c1_0,.bool a1_1]) (t:=24) ?_;intro G262 hg w30 hbox hb;have K262:=Aside0.mk (hbox);have GW262:=zN HB hg;have GE262:=zN HB hg;replace HB:=zS HB hb;clear hb hbox hg)|((with_reducible refine gate_dst (N:=5) rfl ?_);refine zb (N:=5) (cs:=#[.int .i64 a2_0,.int .i64 a2_1,.int .i64 a2_2,.int .i64 a2_3,.int .i64 a2_4,.int .i64 a2_5,.int .u64 a2_6,.int .i64 a2_7,.string a2_8,.int .i64 a2_9,.int .i64 a2_10,.string a2_11]) (t:=48) ?_;intro G263 hg w31 hbox hb;have K263:=Aside0.mk (hbox);have GW263:=zN HB hg;have GE263:=zN HB hg;replace HB:=zS HB hb;have NB262_263:=zL K262 hg;have NB263_262:=zG K262 hg;replace K262:=zB K262 hb;clear hb hbox hg)|((with_reducible refine gate_dst (N:=6) rfl ?_);refine zb (N:=6) (cs:=#[.int .i64 0,.int .i64 0,.float .f64 0,.int .i64 0,.float .f64 0,.int .i64 0]) (t:=39) ?_;intro G264 hg w32 hbox hb;have K264:=Aside0.mk (hbox);have GW264:=zN HB hg;have GE264:=zN HB hg;replace HB:=zS HB hb;have NB262_264:=zL K262 hg;have NB264_262:=zG K262 hg;replace K262:=zB K262 hb;have NB263_264:=zL K263 hg;have NB264_263:=zG K263 hg;replace K263:=zB K263 hb;clear hb hbox hg;have:=NB263_262.1;have:=NB262_263.1;have:=NB263_264.1;have:=NB264_263.1;obtain ⟨hcz35_0,hcz35_1,hcz35_2,hcz35_3,hcz35_4,hcz35_5,hcz35_6,hcz35_7,hcz35_8,hcz35_9,hcz35_10,hcz35_11,hfz35_0,hfz35_1,hfz35_2,hfz35_3,hfz35_4,hfz35_5,hfz35_6,hfz35_7,hfz35_8,hfz35_9,hfz35_10,hfz35_11⟩:=zc12 K263;have:=NB262_264.1;have:=NB264_262.1;obtain ⟨hcz37_0,hcz37_1,hfz37_0,hfz37_1⟩:=zc2 K262)|(go_at_call 24;(with_reducible refine (beaconref17_Find.calls k _ _ l1_0 a1_1 a2_3 t265 t266 t267 t268 t269 t270 false _ ?side1 ?side2 A14.out).mono ?_);(case side1 => exact zC (Kd.C_below HR1_0.out HB.1));(case side2 => exact HC1_0.out);rintro e w38 ⟨rfl,hb⟩;replace K262:=zB K262 hb;replace K263:=zB K263 hb;replace K264:=zB K264 hb;replace HB:=zS HB hb;(try clear hb);obtain ⟨hcz39_0,hcz39_1,hcz39_2,hcz39_3,hcz39_4,hcz39_5,hfz39_0,hfz39_1,hfz39_2,hfz39_3,hfz39_4,hfz39_5⟩:=zc6 K264)|((with_reducible refine gate_store (t:=39) (p:=6) rfl ?_);(try (rw [drewN_self w38];generalize hq_ : World.drewN w38 _ = w38;replace K262:=Aside0.mk (blk_at hq_ K262.1);replace K263:=Aside0.mk (blk_at hq_ K263.1);replace K264:=Aside0.mk (blk_at hq_ K264.1);replace HB:=Aside0.mk (below_at hq_ HB.1);clear hq_));refine store_event (t:=39) (p:=6) (v:=?vo_w40) (w1:=((((((w38.setCell ⟨G264,0,none⟩ (.int .i64 t265)).setCell ⟨G264,1,none⟩ (.int .i64 t266)).setCell ⟨G264,2,none⟩ (.float .f64 t267)).setCell ⟨G264,3,none⟩ (.int .i64 t268)).setCell ⟨G264,4,none⟩ (.float .f64 t269)).setCell ⟨G264,5,none⟩ (.int .i64 t270))) ?hg ?ho ?hn ?hr ?_;(case ho => rfl);(case hg => rfl);(case hn => rfl);(case hr => first|(go_simp;done)|(go_simp;rfl));intro w40 hw;replace K262:=zV hw K262;replace K263:=zV hw K263;replace K264:=zVp hw (.cells #[.int .i64 t265,.int .i64 t266,.float .f64 t267,.int .i64 t268,.float .f64 t269,.int .i64 t270] 39 (0,0)) K264;replace HB:=zU hw HB;clear hw)))
   (try simp only [Act.put,xA,xB,xC])
   go_cut [32] (fun v32 wc => ∃ (kq : Nat) (x32_28 : Bool),v32 = .bool x32_28 ∧ Aside0 (beaconref19_road.j0 kq x32_28 l1_0 a1_1 a2_0 a2_1 a2_2 a2_3 a2_4 a2_5 a2_6 a2_7 a2_8 a2_9 a2_10 a2_11 = some (r1,r2,r3,r4,r5,r6,r7,r8)) ∧ Aside0 (kq ≤ k) ∧ Aside0 (wc.heap[G262]? = some (.cells #[(.slice A1_0 l1_0.length c1_0),.bool a1_1] 24 (0,0))) ∧ Aside0 (wc.heap[G263]? = some (.cells #[.int .i64 a2_0,.int .i64 a2_1,.int .i64 a2_2,.int .i64 a2_3,.int .i64 a2_4,.int .i64 a2_5,.int .u64 a2_6,.int .i64 a2_7,.string a2_8,.int .i64 a2_9,.int .i64 a2_10,.string a2_11] 48 (0,0))) ∧ Aside0 (wc.heap[G264]? = some (.cells #[.int .i64 t265,.int .i64 t266,.float .f64 t267,.int .i64 t268,.float .f64 t269,.int .i64 t270] 39 (0,0))) ∧ Aside0 (Below w.heap.size w wc))
   case first =>
    have H:=HC29.out
    clear HC29
    by_cases c41 : a2_4 = 0
    ·rw [if_pos c41] at H
     have c41b0 : (a2_4 == 0) = true:=beq_iff_eq.mpr c41
     have c41b1 : (a2_4 != 0) = false:=bne_eq_false_iff_eq.mpr c41
     clear c41
     (first|rw [c41b0]|(simp only [i64_w,i32_w];rw [c41b0])|skip)
     have H':=Aside0.mk H
     clear H
     have:=NB263_262.1
     have:=NB262_263.1
     have:=NB263_264.1
     have:=NB264_263.1
     obtain ⟨hcz44_0,hcz44_1,hcz44_2,hcz44_3,hcz44_4,hcz44_5,hcz44_6,hcz44_7,hcz44_8,hcz44_9,hcz44_10,hcz44_11,hfz44_0,hfz44_1,hfz44_2,hfz44_3,hfz44_4,hfz44_5,hfz44_6,hfz44_7,hfz44_8,hfz44_9,hfz44_10,hfz44_11⟩:=zc12 K263
     go_wp2
     repeat (go_quiet (fail);try go_wp2)
     go_meet
     case rel => exact ⟨_,(true),ze,H',⟨zo⟩,⟨z1 K262.1⟩,⟨z1 K263.1⟩,⟨z1 K264.1⟩,⟨zH HB⟩⟩
    ·rw [if_neg c41] at H
     have c41b0 : (a2_4 == 0) = false:=beq_eq_false_iff_ne.mpr c41
     have c41b1 : (a2_4 != 0) = true:=bne_iff_ne.mpr c41
     (first|rw [c41b0]|(simp only [i64_w,i32_w];rw [c41b0])|skip)
     have H':=Aside0.mk H
     clear H
     have:=NB263_262.1
     have:=NB262_263.1
     have:=NB263_264.1
     have:=NB264_263.1
     obtain ⟨hcz47_0,hcz47_1,hcz47_2,hcz47_3,hcz47_4,hcz47_5,hcz47_6,hcz47_7,hcz47_8,hcz47_9,hcz47_10,hcz47_11,hfz47_0,hfz47_1,hfz47_2,hfz47_3,hfz47_4,hfz47_5,hfz47_6,hfz47_7,hfz47_8,hfz47_9,hfz47_10,hfz47_11⟩:=zc12 K263
     go_wp2
     repeat (go_quiet (fail);try go_wp2)
     go_meet
     case rel => exact ⟨_,((a2_4 == a0)),ze,H',⟨zo⟩,⟨z1 K262.1⟩,⟨z1 K263.1⟩,⟨z1 K264.1⟩,⟨zH HB⟩⟩
   case rest =>
    clear HC29
    try clear c4;try clear c4b0;try clear c4b1;try clear c15;try clear hcz35_0;try clear hcz35_1;try clear hcz35_10;try clear hcz35_11;try clear hcz35_2;try clear hcz35_3;try clear hcz35_4;try clear hcz35_5;try clear hcz35_6;try clear hcz35_7;try clear hcz35_8;try clear hcz35_9;try clear hcz37_0;try clear hcz37_1;try clear hcz39_0;try clear hcz39_1;try clear hcz39_2;try clear hcz39_3;try clear hcz39_4;try clear hcz39_5;try clear hfz35_0;try clear hfz35_1;try clear hfz35_10;try clear hfz35_11;try clear hfz35_2;try clear hfz35_3;try clear hfz35_4;try clear hfz35_5;try clear hfz35_6;try clear hfz35_7;try clear hfz35_8;try clear hfz35_9;try clear hfz37_0;try clear hfz37_1;try clear hfz39_0;try clear hfz39_1;try clear hfz39_2;try clear hfz39_3;try clear hfz39_4;try clear hfz39_5
    obtain ⟨kq,x32_28,rfl,HA,HJ28,K262,K263,K264,HB⟩:=hcut
    cases kq with
    | zero => exact absurd HA.out (by simp [beaconref19_road.j0])
    | succ kj28 =>
     have H:=HA.out
     clear HA
     simp only [beaconref19_road.j0] at H
     by_cases c48 : x32_28 = true
     ·subst c48
      rw [if_pos rfl] at H
      simp only [Option.some.injEq,Prod.mk.injEq] at H
      obtain ⟨rfl,rfl,rfl,rfl,rfl,rfl,rfl,rfl⟩:=H
      have:=NB264_262.1
      have:=NB262_264.1
      have:=NB264_263.1
      have:=NB263_264.1
      obtain ⟨hcz51_0,hcz51_1,hcz51_2,hcz51_3,hcz51_4,hcz51_5,hfz51_0,hfz51_1,hfz51_2,hfz51_3,hfz51_4,hfz51_5⟩:=zc6 K264
      go_wp2_with (first|((with_reducible refine gate_store (t:=39) (p:=6) rfl ?_);(try (rw [drewN_self wc];generalize hq_ : World.drewN wc _ = wc;replace K262:=Aside0.mk (blk_at hq_ K262.1);replace K263:=Aside0.mk (blk_at hq_ K263.1);replace K264:=Aside0.mk (blk_at hq_ K264.1);replace HB:=Aside0.mk (below_at hq_ HB.1);clear hq_));refine store_event (t:=39) (p:=6) (v:=?vo_w52) (w1:=((((((wc.setCell ⟨G264,0,none⟩ (.int .i64 0)).setCell ⟨G264,1,none⟩ (.int .i64 0)).setCell ⟨G264,2,none⟩ (.float .f64 0)).setCell ⟨G264,3,none⟩ (.int .i64 0)).setCell ⟨G264,4,none⟩ (.float .f64 0)).setCell ⟨G264,5,none⟩ (.int .i64 0))) ?hg ?ho ?hn ?hr ?_;(case ho => rfl);(case hg => rfl);(case hn => rfl);(case hr => first|(go_simp;done)|(go_simp;rfl));intro w52 hw;replace K262:=zV hw K262;replace K263:=zV hw K263;replace K264:=zVp hw (.cells #[.int .i64 0,.int .i64 0,.float .f64 0,.int .i64 0,.float .f64 0,.int .i64 0] 39 (0,0)) K264;replace HB:=zU hw HB;clear hw))
      repeat (go_quiet (first|((with_reducible refine gate_store (t:=39) (p:=6) rfl ?_);(try (rw [drewN_self wc];generalize hq_ : World.drewN wc _ = wc;replace K262:=Aside0.mk (blk_at hq_ K262.1);replace K263:=Aside0.mk (blk_at hq_ K263.1);replace K264:=Aside0.mk (blk_at hq_ K264.1);replace HB:=Aside0.mk (below_at hq_ HB.1);clear hq_));refine store_event (t:=39) (p:=6) (v:=?vo_w52) (w1:=((((((wc.setCell ⟨G264,0,none⟩ (.int .i64 0)).setCell ⟨G264,1,none⟩ (.int .i64 0)).setCell ⟨G264,2,none⟩ (.float .f64 0)).setCell ⟨G264,3,none⟩ (.int .i64 0)).setCell ⟨G264,4,none⟩ (.float .f64 0)).setCell ⟨G264,5,none⟩ (.int .i64 0))) ?hg ?ho ?hn ?hr ?_;(case ho => rfl);(case hg => rfl);(case hn => rfl);(case hr => first|(go_simp;done)|(go_simp;rfl));intro w52 hw;replace K262:=zV hw K262;replace K263:=zV hw K263;replace K264:=zVp hw (.cells #[.int .i64 0,.int .i64 0,.float .f64 0,.int .i64 0,.float .f64 0,.int .i64 0] 39 (0,0)) K264;replace HB:=zU hw HB;clear hw));try go_wp2_with (first|((with_reducible refine gate_store (t:=39) (p:=6) rfl ?_);(try (rw [drewN_self wc];generalize hq_ : World.drewN wc _ = wc;replace K262:=Aside0.mk (blk_at hq_ K262.1);replace K263:=Aside0.mk (blk_at hq_ K263.1);replace K264:=Aside0.mk (blk_at hq_ K264.1);replace HB:=Aside0.mk (below_at hq_ HB.1);clear hq_));refine store_event (t:=39) (p:=6) (v:=?vo_w52) (w1:=((((((wc.setCell ⟨G264,0,none⟩ (.int .i64 0)).setCell ⟨G264,1,none⟩ (.int .i64 0)).setCell ⟨G264,2,none⟩ (.float .f64 0)).setCell ⟨G264,3,none⟩ (.int .i64 0)).setCell ⟨G264,4,none⟩ (.float .f64 0)).setCell ⟨G264,5,none⟩ (.int .i64 0))) ?hg ?ho ?hn ?hr ?_;(case ho => rfl);(case hg => rfl);(case hn => rfl);(case hr => first|(go_simp;done)|(go_simp;rfl));intro w52 hw;replace K262:=zV hw K262;replace K263:=zV hw K263;replace K264:=zVp hw (.cells #[.int .i64 0,.int .i64 0,.float .f64 0,.int .i64 0,.float .f64 0,.int .i64 0] 39 (0,0)) K264;replace HB:=zU hw HB;clear hw)))
      refine bodyPost_ret (results_ctt rfl _ _ G264 39 #[.int .i64 0,.int .i64 0,.float .f64 0,.int .i64 0,.float .f64 0,.int .i64 0] (0,0) _ rfl (zF K264) Try.underlying39 rfl (by kernel_rfl)) rfl ?_
      exact ⟨zE,zH HB⟩
     ·replace c48:=Bool.eq_false_iff.mpr c48
      subst c48
      rw [if_neg (show ¬ (false = true) by decide)] at H
      have H':=Aside0.mk H
      clear H
      go_wp2
      repeat (go_quiet (fail);try go_wp2)
      go_loopg [9] kj28 (fun kq v9 w' => ∃ (x9_2 : Int) (x265000_2 : Int) (x265001_2 : Int) (x265002_2 : Nat) (x265003_2 : Int) (x265004_2 : Nat) (x265005_2 : Int),v9 = .int .i64 x9_2 ∧ Aside0 (beaconref19_road.l0 kq x9_2 l1_0 a1_1 a2_0 a2_1 a2_2 a2_3 a2_4 a2_5 a2_6 a2_7 a2_8 a2_9 a2_10 a2_11 = some (r1,r2,r3,r4,r5,r6,r7,r8)) ∧ Aside0 (kq ≤ kj28) ∧ Aside0 (w'.heap[G262]? = some (.cells #[(.slice A1_0 l1_0.length c1_0),.bool a1_1] 24 (0,0))) ∧ Aside0 (w'.heap[G263]? = some (.cells #[.int .i64 a2_0,.int .i64 a2_1,.int .i64 a2_2,.int .i64 a2_3,.int .i64 a2_4,.int .i64 a2_5,.int .u64 a2_6,.int .i64 a2_7,.string a2_8,.int .i64 a2_9,.int .i64 a2_10,.string a2_11] 48 (0,0))) ∧ Aside0 (w'.heap[G264]? = some (.cells #[.int .i64 x265000_2,.int .i64 x265001_2,.float .f64 x265002_2,.int .i64 x265003_2,.float .f64 x265004_2,.int .i64 x265005_2] 39 (0,0))) ∧ Aside0 (Below w.heap.size w w'))
      case atStart => exact ⟨(0),(t265),(t266),(t267),(t268),(t269),(t270),ze,H',⟨Nat.le_refl _⟩,⟨z1 K262.1⟩,⟨z1 K263.1⟩,⟨z1 K264.1⟩,⟨zH HB⟩⟩
      case round =>
       clear H'
       try clear c4;try clear c4b0;try clear c4b1;try clear c15;try clear c48;try clear hcz35_0;try clear hcz35_1;try clear hcz35_10;try clear hcz35_11;try clear hcz35_2;try clear hcz35_3;try clear hcz35_4;try clear hcz35_5;try clear hcz35_6;try clear hcz35_7;try clear hcz35_8;try clear hcz35_9;try clear hcz37_0;try clear hcz37_1;try clear hcz39_0;try clear hcz39_1;try clear hcz39_2;try clear hcz39_3;try clear hcz39_4;try clear hcz39_5;try clear hfz35_0;try clear hfz35_1;try clear hfz35_10;try clear hfz35_11;try clear hfz35_2;try clear hfz35_3;try clear hfz35_4;try clear hfz35_5;try clear hfz35_6;try clear hfz35_7;try clear hfz35_8;try clear hfz35_9;try clear hfz37_0;try clear hfz37_1;try clear hfz39_0;try clear hfz39_1;try clear hfz39_2;try clear hfz39_3;try clear hfz39_4;try clear hfz39_5
       obtain ⟨x9_2,x265000_2,x265001_2,x265002_2,x265003_2,x265004_2,x265005_2,rfl,HA,HK2,K262,K263,K264,HB⟩:=hrel
       cases gk with
       | zero => exact absurd HA.out (by simp [beaconref19_road.l0])
       | succ k2 =>
        have H:=HA.out
        clear HA
        simp only [beaconref19_road.l0] at H
        by_cases c53 : x9_2 < (l1_0.length : Int)
        ·rw [if_pos c53] at H
         have c53b0 : decide (x9_2 < (l1_0.length : Int)) = true:=decide_eq_true c53
         clear c53
         by_cases c54 : 0 ≤ x9_2
         ·rw [if_pos c54] at H
          have c54b0 : decide (0 ≤ x9_2) = true:=decide_eq_true c54
          clear c54
          by_cases c55 : ((rd_T39 l1_0 x9_2).f1) = 1
          ·rw [if_pos c55] at H
           have c55b0 : (((rd_T39 l1_0 x9_2).f1) == 1) = true:=beq_iff_eq.mpr c55
           have c55b1 : (((rd_T39 l1_0 x9_2).f1) != 1) = false:=bne_eq_false_iff_eq.mpr c55
           clear c55
           by_cases c56 : ((rd_T39 l1_0 x9_2).f0) = a2_4
           ·rw [if_pos c56] at H
            have c56b0 : (((rd_T39 l1_0 x9_2).f0) == a2_4) = true:=beq_iff_eq.mpr c56
            have c56b1 : (((rd_T39 l1_0 x9_2).f0) != a2_4) = false:=bne_eq_false_iff_eq.mpr c56
            clear c56
            simp only [Option.some.injEq,Prod.mk.injEq] at H
            obtain ⟨rfl,rfl,rfl,rfl,rfl,rfl,rfl,rfl⟩:=H
            have:=NB262_263.1
            have:=NB263_262.1
            have:=NB262_264.1
            have:=NB264_262.1
            obtain ⟨hcz59_0,hcz59_1,hfz59_0,hfz59_1⟩:=zc2 K262
            have p272 : 0 ≤ (x9_2 : Int):=zd
            have q272 : x9_2 < (l1_0.length : Int):=zd
            obtain ⟨ad272,e272,hx272_0,hx272_1,hx272_2,hx272_3,hx272_4,hx272_5⟩:=at_T39 HR1_0.out x9_2 p272 q272
            cases e272
            replace hx272_0:=zh HB hx272_0
            replace hx272_1:=zh HB hx272_1
            replace hx272_2:=zh HB hx272_2
            replace hx272_3:=zh HB hx272_3
            replace hx272_4:=zh HB hx272_4
            replace hx272_5:=zh HB hx272_5
            replace p272:=eq_true p272
            replace q272:=eq_true q272
            have p273 : 0 ≤ (x9_2 : Int):=zd
            have q273 : x9_2 < (l1_0.length : Int):=zd
            obtain ⟨ad273,e273,hx273_0,hx273_1,hx273_2,hx273_3,hx273_4,hx273_5⟩:=at_T39 HR1_0.out x9_2 p273 q273
            obtain rfl : ad272 = ad273:=(by injection e273)
            replace hx273_0:=zh HB hx273_0
            replace hx273_1:=zh HB hx273_1
            replace hx273_2:=zh HB hx273_2
            replace hx273_3:=zh HB hx273_3
            replace hx273_4:=zh HB hx273_4
            replace hx273_5:=zh HB hx273_5
            replace p273:=eq_true p273
            replace q273:=eq_true q273
            have:=NB263_264.1
            have:=NB264_263.1
            obtain ⟨hcz61_0,hcz61_1,hcz61_2,hcz61_3,hcz61_4,hcz61_5,hcz61_6,hcz61_7,hcz61_8,hcz61_9,hcz61_10,hcz61_11,hfz61_0,hfz61_1,hfz61_2,hfz61_3,hfz61_4,hfz61_5,hfz61_6,hfz61_7,hfz61_8,hfz61_9,hfz61_10,hfz61_11⟩:=zc12 K263
            have p274 : 0 ≤ (x9_2 : Int):=zd
            have q274 : x9_2 < (l1_0.length : Int):=zd
            obtain ⟨ad274,e274,hx274_0,hx274_1,hx274_2,hx274_3,hx274_4,hx274_5⟩:=at_T39 HR1_0.out x9_2 p274 q274
            obtain rfl : ad272 = ad274:=(by injection e274)
            replace hx274_0:=zh HB hx274_0
            replace hx274_1:=zh HB hx274_1
            replace hx274_2:=zh HB hx274_2
            replace hx274_3:=zh HB hx274_3
            replace hx274_4:=zh HB hx274_4
            replace hx274_5:=zh HB hx274_5
            replace p274:=eq_true p274
            replace q274:=eq_true q274
            obtain ⟨hcz62_0,hcz62_1,hcz62_2,hcz62_3,hcz62_4,hcz62_5,hfz62_0,hfz62_1,hfz62_2,hfz62_3,hfz62_4,hfz62_5⟩:=zc6 K264
            go_wp2_with (first|((with_reducible refine gate_store (t:=39) (p:=6) rfl ?_);(try (rw [drewN_self wr];generalize hq_ : World.drewN wr _ = wr;replace K262:=Aside0.mk (blk_at hq_ K262.1);replace K263:=Aside0.mk (blk_at hq_ K263.1);replace K264:=Aside0.mk (blk_at hq_ K264.1);replace HB:=Aside0.mk (below_at hq_ HB.1);clear hq_));refine store_event (t:=39) (p:=6) (v:=?vo_w63) (w1:=((((((wr.setCell ⟨G264,0,none⟩ (.int .i64 ((rd_T39 l1_0 x9_2).f0))).setCell ⟨G264,1,none⟩ (.int .i64 ((rd_T39 l1_0 x9_2).f1))).setCell ⟨G264,2,none⟩ (.float .f64 ((rd_T39 l1_0 x9_2).f2))).setCell ⟨G264,3,none⟩ (.int .i64 ((rd_T39 l1_0 x9_2).f3))).setCell ⟨G264,4,none⟩ (.float .f64 ((rd_T39 l1_0 x9_2).f4))).setCell ⟨G264,5,none⟩ (.int .i64 ((rd_T39 l1_0 x9_2).f5)))) ?hg ?ho ?hn ?hr ?_;(case ho => rfl);(case hg => rfl);(case hn => rfl);(case hr => first|(go_simp;done)|(go_simp;rfl));intro w63 hw;replace K262:=zV hw K262;replace K263:=zV hw K263;replace K264:=zVp hw (.cells #[.int .i64 ((rd_T39 l1_0 x9_2).f0),.int .i64 ((rd_T39 l1_0 x9_2).f1),.float .f64 ((rd_T39 l1_0 x9_2).f2),.int .i64 ((rd_T39 l1_0 x9_2).f3),.float .f64 ((rd_T39 l1_0 x9_2).f4),.int .i64 ((rd_T39 l1_0 x9_2).f5)] 39 (0,0)) K264;replace HB:=zU hw HB;clear hw))
            repeat (go_quiet (first|((with_reducible refine gate_store (t:=39) (p:=6) rfl ?_);(try (rw [drewN_self wr];generalize hq_ : World.drewN wr _ = wr;replace K262:=Aside0.mk (blk_at hq_ K262.1);replace K263:=Aside0.mk (blk_at hq_ K263.1);replace K264:=Aside0.mk (blk_at hq_ K264.1);replace HB:=Aside0.mk (below_at hq_ HB.1);clear hq_));refine store_event (t:=39) (p:=6) (v:=?vo_w63) (w1:=((((((wr.setCell ⟨G264,0,none⟩ (.int .i64 ((rd_T39 l1_0 x9_2).f0))).setCell ⟨G264,1,none⟩ (.int .i64 ((rd_T39 l1_0 x9_2).f1))).setCell ⟨G264,2,none⟩ (.float .f64 ((rd_T39 l1_0 x9_2).f2))).setCell ⟨G264,3,none⟩ (.int .i64 ((rd_T39 l1_0 x9_2).f3))).setCell ⟨G264,4,none⟩ (.float .f64 ((rd_T39 l1_0 x9_2).f4))).setCell ⟨G264,5,none⟩ (.int .i64 ((rd_T39 l1_0 x9_2).f5)))) ?hg ?ho ?hn ?hr ?_;(case ho => rfl);(case hg => rfl);(case hn => rfl);(case hr => first|(go_simp;done)|(go_simp;rfl));intro w63 hw;replace K262:=zV hw K262;replace K263:=zV hw K263;replace K264:=zVp hw (.cells #[.int .i64 ((rd_T39 l1_0 x9_2).f0),.int .i64 ((rd_T39 l1_0 x9_2).f1),.float .f64 ((rd_T39 l1_0 x9_2).f2),.int .i64 ((rd_T39 l1_0 x9_2).f3),.float .f64 ((rd_T39 l1_0 x9_2).f4),.int .i64 ((rd_T39 l1_0 x9_2).f5)] 39 (0,0)) K264;replace HB:=zU hw HB;clear hw));try go_wp2_with (first|((with_reducible refine gate_store (t:=39) (p:=6) rfl ?_);(try (rw [drewN_self wr];generalize hq_ : World.drewN wr _ = wr;replace K262:=Aside0.mk (blk_at hq_ K262.1);replace K263:=Aside0.mk (blk_at hq_ K263.1);replace K264:=Aside0.mk (blk_at hq_ K264.1);replace HB:=Aside0.mk (below_at hq_ HB.1);clear hq_));refine store_event (t:=39) (p:=6) (v:=?vo_w63) (w1:=((((((wr.setCell ⟨G264,0,none⟩ (.int .i64 ((rd_T39 l1_0 x9_2).f0))).setCell ⟨G264,1,none⟩ (.int .i64 ((rd_T39 l1_0 x9_2).f1))).setCell ⟨G264,2,none⟩ (.float .f64 ((rd_T39 l1_0 x9_2).f2))).setCell ⟨G264,3,none⟩ (.int .i64 ((rd_T39 l1_0 x9_2).f3))).setCell ⟨G264,4,none⟩ (.float .f64 ((rd_T39 l1_0 x9_2).f4))).setCell ⟨G264,5,none⟩ (.int .i64 ((rd_T39 l1_0 x9_2).f5)))) ?hg ?ho ?hn ?hr ?_;(case ho => rfl);(case hg => rfl);(case hn => rfl);(case hr => first|(go_simp;done)|(go_simp;rfl));intro w63 hw;replace K262:=zV hw K262;replace K263:=zV hw K263;replace K264:=zVp hw (.cells #[.int .i64 ((rd_T39 l1_0 x9_2).f0),.int .i64 ((rd_T39 l1_0 x9_2).f1),.float .f64 ((rd_T39 l1_0 x9_2).f2),.int .i64 ((rd_T39 l1_0 x9_2).f3),.float .f64 ((rd_T39 l1_0 x9_2).f4),.int .i64 ((rd_T39 l1_0 x9_2).f5)] 39 (0,0)) K264;replace HB:=zU hw HB;clear hw)))
            refine bodyPost_ret (results_ctt rfl _ _ G264 39 #[.int .i64 ((rd_T39 l1_0 x9_2).f0),.int .i64 ((rd_T39 l1_0 x9_2).f1),.float .f64 ((rd_T39 l1_0 x9_2).f2),.int .i64 ((rd_T39 l1_0 x9_2).f3),.float .f64 ((rd_T39 l1_0 x9_2).f4),.int .i64 ((rd_T39 l1_0 x9_2).f5)] (0,0) _ rfl (zF K264) Try.underlying39 rfl (by kernel_rfl)) rfl ?_
            exact ⟨zE,zH HB⟩
           ·rw [if_neg c56] at H
            have c56b0 : (((rd_T39 l1_0 x9_2).f0) == a2_4) = false:=beq_eq_false_iff_ne.mpr c56
            have c56b1 : (((rd_T39 l1_0 x9_2).f0) != a2_4) = true:=bne_iff_ne.mpr c56
            have H':=Aside0.mk H
            clear H
            have:=NB262_263.1
            have:=NB263_262.1
            have:=NB262_264.1
            have:=NB264_262.1
            obtain ⟨hcz66_0,hcz66_1,hfz66_0,hfz66_1⟩:=zc2 K262
            have p272 : 0 ≤ (x9_2 : Int):=zd
            have q272 : x9_2 < (l1_0.length : Int):=zd
            obtain ⟨ad272,e272,hx272_0,hx272_1,hx272_2,hx272_3,hx272_4,hx272_5⟩:=at_T39 HR1_0.out x9_2 p272 q272
            cases e272
            replace hx272_0:=zh HB hx272_0
            replace hx272_1:=zh HB hx272_1
            replace hx272_2:=zh HB hx272_2
            replace hx272_3:=zh HB hx272_3
            replace hx272_4:=zh HB hx272_4
            replace hx272_5:=zh HB hx272_5
            replace p272:=eq_true p272
            replace q272:=eq_true q272
            have p273 : 0 ≤ (x9_2 : Int):=zd
            have q273 : x9_2 < (l1_0.length : Int):=zd
            obtain ⟨ad273,e273,hx273_0,hx273_1,hx273_2,hx273_3,hx273_4,hx273_5⟩:=at_T39 HR1_0.out x9_2 p273 q273
            obtain rfl : ad272 = ad273:=(by injection e273)
            replace hx273_0:=zh HB hx273_0
            replace hx273_1:=zh HB hx273_1
            replace hx273_2:=zh HB hx273_2
            replace hx273_3:=zh HB hx273_3
            replace hx273_4:=zh HB hx273_4
            replace hx273_5:=zh HB hx273_5
            replace p273:=eq_true p273
            replace q273:=eq_true q273
            have:=NB263_264.1
            have:=NB264_263.1
            obtain ⟨hcz68_0,hcz68_1,hcz68_2,hcz68_3,hcz68_4,hcz68_5,hcz68_6,hcz68_7,hcz68_8,hcz68_9,hcz68_10,hcz68_11,hfz68_0,hfz68_1,hfz68_2,hfz68_3,hfz68_4,hfz68_5,hfz68_6,hfz68_7,hfz68_8,hfz68_9,hfz68_10,hfz68_11⟩:=zc12 K263
            go_wp2
            repeat (go_quiet (fail);try go_wp2)
            go_roundg k2
            case measure => have:=HJ28.out;have:=HK2.out;omega
            case rel => exact ⟨(wrap64 (x9_2 + 1)),(x265000_2),(x265001_2),(x265002_2),(x265003_2),(x265004_2),(x265005_2),ze,H',⟨by have:=HJ28.out;have:=HK2.out;omega⟩,⟨z1 K262.1⟩,⟨z1 K263.1⟩,⟨z1 K264.1⟩,⟨zH HB⟩⟩
          ·rw [if_neg c55] at H
           have c55b0 : (((rd_T39 l1_0 x9_2).f1) == 1) = false:=beq_eq_false_iff_ne.mpr c55
           have c55b1 : (((rd_T39 l1_0 x9_2).f1) != 1) = true:=bne_iff_ne.mpr c55
           have H':=Aside0.mk H
           clear H
           have:=NB262_263.1
           have:=NB263_262.1
           have:=NB262_264.1
           have:=NB264_262.1
           obtain ⟨hcz71_0,hcz71_1,hfz71_0,hfz71_1⟩:=zc2 K262
           have p272 : 0 ≤ (x9_2 : Int):=zd
           have q272 : x9_2 < (l1_0.length : Int):=zd
           obtain ⟨ad272,e272,hx272_0,hx272_1,hx272_2,hx272_3,hx272_4,hx272_5⟩:=at_T39 HR1_0.out x9_2 p272 q272
           cases e272
           replace hx272_0:=zh HB hx272_0
           replace hx272_1:=zh HB hx272_1
           replace hx272_2:=zh HB hx272_2
           replace hx272_3:=zh HB hx272_3
           replace hx272_4:=zh HB hx272_4
           replace hx272_5:=zh HB hx272_5
           replace p272:=eq_true p272
           replace q272:=eq_true q272
           go_wp2
           repeat (go_quiet (fail);try go_wp2)
           go_roundg k2
           case measure => have:=HJ28.out;have:=HK2.out;omega
           case rel => exact ⟨(wrap64 (x9_2 + 1)),(x265000_2),(x265001_2),(x265002_2),(x265003_2),(x265004_2),(x265005_2),ze,H',⟨by have:=HJ28.out;have:=HK2.out;omega⟩,⟨z1 K262.1⟩,⟨z1 K263.1⟩,⟨z1 K264.1⟩,⟨zH HB⟩⟩
         ·rw [if_neg c54] at H
          exact absurd H (by simp)
        ·rw [if_neg c53] at H
         have c53b0 : decide (x9_2 < (l1_0.length : Int)) = false:=decide_eq_false c53
         clear c53
         simp only [Option.some.injEq,Prod.mk.injEq] at H
         obtain ⟨rfl,rfl,rfl,rfl,rfl,rfl,rfl,rfl⟩:=H
         have:=NB262_263.1
         have:=NB263_262.1
         have:=NB262_264.1
         have:=NB264_262.1
         obtain ⟨hcz74_0,hcz74_1,hfz74_0,hfz74_1⟩:=zc2 K262
         have:=NB264_263.1
         have:=NB263_264.1
         obtain ⟨hcz76_0,hcz76_1,hcz76_2,hcz76_3,hcz76_4,hcz76_5,hfz76_0,hfz76_1,hfz76_2,hfz76_3,hfz76_4,hfz76_5⟩:=zc6 K264
         go_wp2_with (first|((with_reducible refine gate_store (t:=39) (p:=6) rfl ?_);(try (rw [drewN_self wr];generalize hq_ : World.drewN wr _ = wr;replace K262:=Aside0.mk (blk_at hq_ K262.1);replace K263:=Aside0.mk (blk_at hq_ K263.1);replace K264:=Aside0.mk (blk_at hq_ K264.1);replace HB:=Aside0.mk (below_at hq_ HB.1);clear hq_));refine store_event (t:=39) (p:=6) (v:=?vo_w77) (w1:=((((((wr.setCell ⟨G264,0,none⟩ (.int .i64 0)).setCell ⟨G264,1,none⟩ (.int .i64 0)).setCell ⟨G264,2,none⟩ (.float .f64 0)).setCell ⟨G264,3,none⟩ (.int .i64 0)).setCell ⟨G264,4,none⟩ (.float .f64 0)).setCell ⟨G264,5,none⟩ (.int .i64 0))) ?hg ?ho ?hn ?hr ?_;(case ho => rfl);(case hg => rfl);(case hn => rfl);(case hr => first|(go_simp;done)|(go_simp;rfl));intro w77 hw;replace K262:=zV hw K262;replace K263:=zV hw K263;replace K264:=zVp hw (.cells #[.int .i64 0,.int .i64 0,.float .f64 0,.int .i64 0,.float .f64 0,.int .i64 0] 39 (0,0)) K264;replace HB:=zU hw HB;clear hw))
         repeat (go_quiet (first|((with_reducible refine gate_store (t:=39) (p:=6) rfl ?_);(try (rw [drewN_self wr];generalize hq_ : World.drewN wr _ = wr;replace K262:=Aside0.mk (blk_at hq_ K262.1);replace K263:=Aside0.mk (blk_at hq_ K263.1);replace K264:=Aside0.mk (blk_at hq_ K264.1);replace HB:=Aside0.mk (below_at hq_ HB.1);clear hq_));refine store_event (t:=39) (p:=6) (v:=?vo_w77) (w1:=((((((wr.setCell ⟨G264,0,none⟩ (.int .i64 0)).setCell ⟨G264,1,none⟩ (.int .i64 0)).setCell ⟨G264,2,none⟩ (.float .f64 0)).setCell ⟨G264,3,none⟩ (.int .i64 0)).setCell ⟨G264,4,none⟩ (.float .f64 0)).setCell ⟨G264,5,none⟩ (.int .i64 0))) ?hg ?ho ?hn ?hr ?_;(case ho => rfl);(case hg => rfl);(case hn => rfl);(case hr => first|(go_simp;done)|(go_simp;rfl));intro w77 hw;replace K262:=zV hw K262;replace K263:=zV hw K263;replace K264:=zVp hw (.cells #[.int .i64 0,.int .i64 0,.float .f64 0,.int .i64 0,.float .f64 0,.int .i64 0] 39 (0,0)) K264;replace HB:=zU hw HB;clear hw));try go_wp2_with (first|((with_reducible refine gate_store (t:=39) (p:=6) rfl ?_);(try (rw [drewN_self wr];generalize hq_ : World.drewN wr _ = wr;replace K262:=Aside0.mk (blk_at hq_ K262.1);replace K263:=Aside0.mk (blk_at hq_ K263.1);replace K264:=Aside0.mk (blk_at hq_ K264.1);replace HB:=Aside0.mk (below_at hq_ HB.1);clear hq_));refine store_event (t:=39) (p:=6) (v:=?vo_w77) (w1:=((((((wr.setCell ⟨G264,0,none⟩ (.int .i64 0)).setCell ⟨G264,1,none⟩ (.int .i64 0)).setCell ⟨G264,2,none⟩ (.float .f64 0)).setCell ⟨G264,3,none⟩ (.int .i64 0)).setCell ⟨G264,4,none⟩ (.float .f64 0)).setCell ⟨G264,5,none⟩ (.int .i64 0))) ?hg ?ho ?hn ?hr ?_;(case ho => rfl);(case hg => rfl);(case hn => rfl);(case hr => first|(go_simp;done)|(go_simp;rfl));intro w77 hw;replace K262:=zV hw K262;replace K263:=zV hw K263;replace K264:=zVp hw (.cells #[.int .i64 0,.int .i64 0,.float .f64 0,.int .i64 0,.float .f64 0,.int .i64 0] 39 (0,0)) K264;replace HB:=zU hw HB;clear hw)))
         refine bodyPost_ret (results_ctt rfl _ _ G264 39 #[.int .i64 0,.int .i64 0,.float .f64 0,.int .i64 0,.float .f64 0,.int .i64 0] (0,0) _ rfl (zF K264) Try.underlying39 rfl (by kernel_rfl)) rfl ?_
         exact ⟨zE,zH HB⟩

end Go.Proofs.Ytgmjlhpigfaicaa.XF
