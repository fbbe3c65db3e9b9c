/- Go functions of this seat as Lean functions, with proofs that the calls come to them. (Written by xprint.py, a program of this session, over the kit's print.) -/
import Derived.Test.YtgmjlhpigfaicaaXAx0
import Derived.Test.YtgmjlhpigfaicaaXAx5
import Derived.Test.YtgmjlhpigfaicaaXAx6
import Derived.Test.YtgmjlhpigfaicaaXAx12
import Derived.Test.YtgmjlhpigfaicaaXAx13
import Derived.Test.YtgmjlhpigfaicaaXAx14
namespace Go.Proofs.Ytgmjlhpigfaicaa.XA
open Go.RowKit Go.Proofs.YtgmjlhpigfaicaaW.PrintWords Go.Proofs.YtgmjlhpigfaicaaW.PrintLast Go.Proofs.YtgmjlhpigfaicaaW.PrintMore
attribute [local go_sem] max2_int min2_int max_two min_two max_three min_three max_four min_four   -- for this text's walks alone
set_option linter.unusedVariables false
set_option linter.unusedSimpArgs false
open List renaming setIfInBounds_toArray → xA, set_cons_zero → xB, set_cons_succ → xC
open Go.Proofs.YtgmjlhpigfaicaaW.PrintWords renaming blk_drewN → bN, blk_drew → bD, blk_alloc → bA, below_set → bS, blk_frozen → bF, blk_cell → bC, cell_far → cF, blk_far → bZ, blk_below → bB, pw_below_drewN → bwN, below_drew1 → bw1, below_alloc → bwA
open Go.Proofs.YtgmjlhpigfaicaaW.PrintZ
open Bool renaming true → T,false → F

/-! ### beaconlaw17_TableKeeps: function 4 -/
def beaconlaw17_TableKeeps.f (k : Nat) (l0_0 : List (S39)) (a0_1 : Bool) (l1 : List (S39)) (a2 : Int) : Option (Bool) := (beaconlaw17_own.f k l0_0 a0_1).bind fun bt238 => ((beaconref15_Entries.f k l1).bind fun t242 => ((table_Keep.f k bt238.1 bt238.2 t242 a2).bind fun bt245 => ((beaconref17_Keep.f k l0_0 a0_1 l1 a2).bind fun bt251 => (if bt245.2.2 = bt251.2.2 then ((beaconlaw17_same.f k bt245.1 bt245.2.1 bt251.1 bt251.2.1).bind fun t257 => (if t257 = true then ((beaconlaw17_own.f k l0_0 a0_1).bind fun bt258 => ((table_Check.f k bt258.1 bt258.2).bind fun t262 => ((beaconref17_Check.f k l0_0 a0_1).bind fun t263 => (if t262 = t263 then ((beaconlaw17_awake.f k).bind fun t264 => (some t264)) else (some false))))) else (some false))) else (some false)))))
theorem beaconlaw17_TableKeeps.mono : ∀ a0 a1 a2 a3 k, LeO (beaconlaw17_TableKeeps.f k a0 a1 a2 a3) (beaconlaw17_TableKeeps.f (k + 1) a0 a1 a2 a3) := by
 intro a0 a1 a2 a3 k
 unfold beaconlaw17_TableKeeps.f
 repeat' first
   | (with_reducible exact beaconlaw17_awake.mono _)
   | (with_reducible exact beaconlaw17_own.mono _ _ _)
   | (with_reducible exact beaconlaw17_same.mono _ _ _ _ _)
   | (with_reducible exact beaconref15_Entries.mono _ _)
   | (with_reducible exact beaconref17_Check.mono _ _ _)
   | (with_reducible exact beaconref17_Keep.mono _ _ _ _ _)
   | (with_reducible exact table_Check.mono _ _ _)
   | (with_reducible exact table_Keep.mono _ _ _ _ _)
   | (with_reducible exact LeO.refl _)
   | (with_reducible exact LeO.none _)
   | (with_reducible refine LeO.ite ?_ ?_)
   | (with_reducible refine LeO.bind ?_ (fun _ => ?_))
   | exact beaconlaw17_awake.mono _
   | exact beaconlaw17_own.mono _ _ _
   | exact beaconlaw17_same.mono _ _ _ _ _
   | exact beaconref15_Entries.mono _ _
   | exact beaconref17_Check.mono _ _ _
   | exact beaconref17_Keep.mono _ _ _ _ _
   | exact table_Check.mono _ _ _
   | exact table_Keep.mono _ _ _ _ _
   | exact LeO.none _
   | refine LeO.ite ?_ ?_
   | refine LeO.bind ?_ (fun _ => ?_)
def beaconlaw17_TableKeeps.T3 : Bool × List (List Nat × List Nat) := (true, [([], []), ([], []), ([0, 1], [0, 1]), ([2], [2]), ([3], [3]), ([3], [3]), ([4, 5, 3, 3], [3, 4, 5]), ([3, 6], [3, 6]), ([7, 6], [7]), ([8], [8]), ([9, 8, 8], [8, 9]), ([10, 10, 8], [8, 10]), ([8], [8]), ([12, 11, 8], [8, 12]), ([11, 13, 8], [8, 11, 13]), ([8, 14], [8, 14]), ([15, 13], [15]), ([16, 16], [16]), ([16, 17], [16, 17]), ([18, 17, 0, 1, 2, 3, 4, 5, 6, 7, 8, 9, 10, 11, 12, 13, 14, 15, 16, 17, 18], [18])])
def beaconlaw17_TableKeeps.B3 : List Nat := [0, 0, 3, 7, 15, 15, 63, 127, 255, 511, 1023, 2047, 511, 8191, 16383, 32767, 65535, 131071, 262143, 524287]
theorem beaconlaw17_TableKeeps.tab3 : rtab .any (opsOf Try.f4 3) = beaconlaw17_TableKeeps.T3 := by kernel_rfl
theorem beaconlaw17_TableKeeps.bits3 : waitsOk beaconlaw17_TableKeeps.T3.2 beaconlaw17_TableKeeps.B3 = true := by kernel_rfl
set_option maxHeartbeats 8000000 in
set_option maxRecDepth 100000 in
theorem beaconlaw17_TableKeeps.calls (k : Nat) (A0_0 : Option Addr) (c0_0 : Nat) (l0_0 : List (S39)) (a0_1 : Bool) (A1 : Option Addr) (c1 : Nat) (l1 : List (S39)) (a2 : Int) (r : Bool) (w : World) (hr0_0 : Kd.C k39 w A0_0 l0_0.length l0_0) (hc0_0 : l0_0.length ≤ c0_0) (hr1 : Kd.C k39 w A1 l1.length l1) (hc1 : l1.length ≤ c1) (h : beaconlaw17_TableKeeps.f k l0_0 a0_1 l1 a2 = some r) :
  Calls Try.prog 4 #[.agg #[.slice A0_0 l0_0.length c0_0,.bool a0_1],.slice A1 l1.length c1,.int .i64 a2] w fun e w' => e = .returned (.bool r) ∧ Below w.heap.size w w':=by
 have hu24:=Try.underlying24
 have HR0_0:=Aside0.mk hr0_0
 have HC0_0:=Aside0.mk hc0_0
 clear hr0_0 hc0_0
 have HR1:=Aside0.mk hr1
 have HC1:=Aside0.mk hc1
 clear hr1 hc1
 have HB:=Aside0.mk (Below.refl w.heap.size w)
 have H : ((beaconlaw17_own.f k l0_0 a0_1).bind fun bt238 => ((beaconref15_Entries.f k l1).bind fun t242 => ((table_Keep.f k bt238.1 bt238.2 t242 a2).bind fun bt245 => ((beaconref17_Keep.f k l0_0 a0_1 l1 a2).bind fun bt251 => (if bt245.2.2 = bt251.2.2 then ((beaconlaw17_same.f k bt245.1 bt245.2.1 bt251.1 bt251.2.1).bind fun t257 => (if t257 = true then ((beaconlaw17_own.f k l0_0 a0_1).bind fun bt258 => ((table_Check.f k bt258.1 bt258.2).bind fun t262 => ((beaconref17_Check.f k l0_0 a0_1).bind fun t263 => (if t262 = t263 then ((beaconlaw17_awake.f k).bind fun t264 => (some t264)) else (some false))))) else (some false))) else (some false)))))) = some r:=h
 clear h
 replace H:=Option.bind_eq_some_iff.mp H
 obtain ⟨⟨t238,t241⟩,A40,H⟩:=H
 replace H : ((beaconref15_Entries.f k l1).bind fun t242 => ((table_Keep.f k t238 t241 t242 a2).bind fun bt245 => ((beaconref17_Keep.f k l0_0 a0_1 l1 a2).bind fun bt251 => (if bt245.2.2 = bt251.2.2 then ((beaconlaw17_same.f k bt245.1 bt245.2.1 bt251.1 bt251.2.1).bind fun t257 => (if t257 = true then ((beaconlaw17_own.f k l0_0 a0_1).bind fun bt258 => ((table_Check.f k bt258.1 bt258.2).bind fun t262 => ((beaconref17_Check.f k l0_0 a0_1).bind fun t263 => (if t262 = t263 then ((beaconlaw17_awake.f k).bind fun t264 => (some t264)) else (some false))))) else (some false))) else (some false))))) = some r:=H
 have A4:=Aside0.mk A40
 clear A40
 replace H:=Option.bind_eq_some_iff.mp H
 obtain ⟨t242,A50,H⟩:=H
 replace H : ((table_Keep.f k t238 t241 t242 a2).bind fun bt245 => ((beaconref17_Keep.f k l0_0 a0_1 l1 a2).bind fun bt251 => (if bt245.2.2 = bt251.2.2 then ((beaconlaw17_same.f k bt245.1 bt245.2.1 bt251.1 bt251.2.1).bind fun t257 => (if t257 = true then ((beaconlaw17_own.f k l0_0 a0_1).bind fun bt258 => ((table_Check.f k bt258.1 bt258.2).bind fun t262 => ((beaconref17_Check.f k l0_0 a0_1).bind fun t263 => (if t262 = t263 then ((beaconlaw17_awake.f k).bind fun t264 => (some t264)) else (some false))))) else (some false))) else (some false)))) = some r:=H
 have A5:=Aside0.mk A50
 clear A50
 replace H:=Option.bind_eq_some_iff.mp H
 obtain ⟨⟨t245,t248,t249⟩,A60,H⟩:=H
 replace H : ((beaconref17_Keep.f k l0_0 a0_1 l1 a2).bind fun bt251 => (if t249 = bt251.2.2 then ((beaconlaw17_same.f k t245 t248 bt251.1 bt251.2.1).bind fun t257 => (if t257 = true then ((beaconlaw17_own.f k l0_0 a0_1).bind fun bt258 => ((table_Check.f k bt258.1 bt258.2).bind fun t262 => ((beaconref17_Check.f k l0_0 a0_1).bind fun t263 => (if t262 = t263 then ((beaconlaw17_awake.f k).bind fun t264 => (some t264)) else (some false))))) else (some false))) else (some false))) = some r:=H
 have A6:=Aside0.mk A60
 clear A60
 replace H:=Option.bind_eq_some_iff.mp H
 obtain ⟨⟨t251,t254,t255⟩,A70,H⟩:=H
 replace H : (if t249 = t255 then ((beaconlaw17_same.f k t245 t248 t251 t254).bind fun t257 => (if t257 = true then ((beaconlaw17_own.f k l0_0 a0_1).bind fun bt258 => ((table_Check.f k bt258.1 bt258.2).bind fun t262 => ((beaconref17_Check.f k l0_0 a0_1).bind fun t263 => (if t262 = t263 then ((beaconlaw17_awake.f k).bind fun t264 => (some t264)) else (some false))))) else (some false))) else (some false)) = some r:=H
 have A7:=Aside0.mk A70
 clear A70
 by_cases c8 : t249 = t255
 ·rw [if_pos c8] at H
  have c8b0 : (t249 == t255) = true:=beq_iff_eq.mpr c8
  have c8b1 : (t249 != t255) = false:=bne_eq_false_iff_eq.mpr c8
  clear c8
  replace H:=Option.bind_eq_some_iff.mp H
  obtain ⟨t257,A90,H⟩:=H
  replace H : (if t257 = true then ((beaconlaw17_own.f k l0_0 a0_1).bind fun bt258 => ((table_Check.f k bt258.1 bt258.2).bind fun t262 => ((beaconref17_Check.f k l0_0 a0_1).bind fun t263 => (if t262 = t263 then ((beaconlaw17_awake.f k).bind fun t264 => (some t264)) else (some false))))) else (some false)) = some r:=H
  have A9:=Aside0.mk A90
  clear A90
  by_cases c10 : t257 = true
  ·subst c10
   have H1 : ((beaconlaw17_own.f k l0_0 a0_1).bind fun bt258 => ((table_Check.f k bt258.1 bt258.2).bind fun t262 => ((beaconref17_Check.f k l0_0 a0_1).bind fun t263 => (if t262 = t263 then ((beaconlaw17_awake.f k).bind fun t264 => (some t264)) else (some false))))) = some r:=by rw [if_pos rfl] at H;exact H
   clear H
   have H:=H1
   clear H1
   replace H:=Option.bind_eq_some_iff.mp H
   obtain ⟨⟨t258,t261⟩,A110,H⟩:=H
   replace H : ((table_Check.f k t258 t261).bind fun t262 => ((beaconref17_Check.f k l0_0 a0_1).bind fun t263 => (if t262 = t263 then ((beaconlaw17_awake.f k).bind fun t264 => (some t264)) else (some false)))) = some r:=H
   have A11:=Aside0.mk A110
   clear A110
   replace H:=Option.bind_eq_some_iff.mp H
   obtain ⟨t262,A120,H⟩:=H
   replace H : ((beaconref17_Check.f k l0_0 a0_1).bind fun t263 => (if t262 = t263 then ((beaconlaw17_awake.f k).bind fun t264 => (some t264)) else (some false))) = some r:=H
   have A12:=Aside0.mk A120
   clear A120
   replace H:=Option.bind_eq_some_iff.mp H
   obtain ⟨t263,A130,H⟩:=H
   replace H : (if t262 = t263 then ((beaconlaw17_awake.f k).bind fun t264 => (some t264)) else (some false)) = some r:=H
   have A13:=Aside0.mk A130
   clear A130
   by_cases c14 : t262 = t263
   ·rw [if_pos c14] at H
    have c14b0 : (t262 == t263) = true:=beq_iff_eq.mpr c14
    have c14b1 : (t262 != t263) = false:=bne_eq_false_iff_eq.mpr c14
    clear c14
    replace H:=Option.bind_eq_some_iff.mp H
    obtain ⟨t264,A150,H⟩:=H
    replace H : (some t264) = some r:=H
    have A15:=Aside0.mk A150
    clear A150
    obtain rfl:=Option.some.inj H
    go_enter Try.func4,Try.ntmps4
    try go_wp2_with (first|((with_reducible refine gate_dst (N:=3) rfl ?_);refine zb (N:=3) (cs:=#[.slice A0_0 l0_0.length c0_0,.bool a0_1]) (t:=24) ?_;intro G237 hg w16 hbox hb;have K237:=Aside0.mk (hbox);have GW237:=zN HB hg;have GE237:=zN HB hg;replace HB:=zS HB hb;clear hb hbox hg;have hcz17_0 : w16.cell? ⟨G237,0,none⟩ = some (.slice A0_0 l0_0.length c0_0):=zk K237 0;have hcz17_1 : w16.cell? ⟨G237,1,none⟩ = some (.bool a0_1):=zk K237 1;have hfz17_0:=bF K237.1 0;have hfz17_1:=bF K237.1 1)|((with_reducible refine gate_callee (f:=16) rfl ?_);refine zg (some 13) Try.func16 #[.agg #[.slice A0_0 l0_0.length c0_0,.bool a0_1]] ?_;(with_reducible refine (beaconlaw17_own.calls k _ _ l0_0 a0_1 t238 t241 _ ?side1 ?side2 A4.out).mono ?_);(case side1 => exact zC (Kd.C_below HR0_0.out HB.1));(case side2 => exact HC0_0.out);rintro e w18 ⟨v239,rfl,ho0,hb⟩;refine ⟨_,rfl,?_⟩;have HO240:=Aside0.mk (Kd.R_lower ho0 (zW HB));replace K237:=zB K237 hb;replace HB:=zS HB hb;(try clear hb);(try clear ho0))|((with_reducible refine gate_callee (f:=17) rfl ?_);refine zg (some 15) Try.func17 #[.slice A1 l1.length c1] ?_;(with_reducible refine (beaconref15_Entries.calls k _ _ l1 t242 _ ?side1 ?side2 A5.out).mono ?_);(case side1 => exact zC (Kd.C_below HR1.out HB.1));(case side2 => exact HC1.out);rintro e w19 ⟨v243,rfl,ho0,hb⟩;refine ⟨_,rfl,?_⟩;have HO244:=Aside0.mk (Kd.R_lower (Kd.R_new' ho0 (Kd.R_lt (zR HO240))) (zW HB));replace HO240:=Aside0.mk (Kd.R_elder' (zR HO240) (Kd.R_base ho0) hb);replace K237:=zB K237 hb;replace HB:=zS HB hb;(try clear hb);(try clear ho0);obtain ⟨Ao20,co20,eo20⟩:=Kd.R_slice HO240.out;subst eo20;obtain ⟨Ao21,co21,eo21⟩:=Kd.R_slice HO244.out;subst eo21)|((with_reducible refine gate_callee (f:=14) rfl ?_);refine zg (some 17) Try.func14 #[.agg #[.slice Ao20 t238.length co20,.bool t241],.slice Ao21 t242.length co21,.int .i64 a2] ?_;(with_reducible refine (table_Keep.calls k _ _ t238 t241 _ _ t242 a2 t245 t248 t249 _ ?side1 ?side2 ?side3 ?side4 A6.out).mono ?_);(case side1 => exact zC ((Kd.R_reads' HO240.out).2.2));(case side2 => exact (Kd.R_reads' HO240.out).2.1);(case side3 => exact zC ((Kd.R_reads' HO244.out).2.2));(case side4 => exact (Kd.R_reads' HO244.out).2.1);rintro e w22 ⟨v246,rfl,ho0,hb⟩;refine ⟨_,rfl,?_⟩;have HO247:=Aside0.mk (Kd.R_lower (Kd.R_new' (Kd.R_new' ho0 (Kd.R_lt (zR HO240))) (Kd.R_lt (zR HO244))) (zW HB));replace HO240:=Aside0.mk (Kd.R_elder' (zR HO240) (Kd.R_base ho0) hb);replace HO244:=Aside0.mk (Kd.R_elder' (zR HO244) (Kd.R_base ho0) hb);replace K237:=zB K237 hb;replace HB:=zS HB hb;(try clear hb);(try clear ho0))|((with_reducible refine gate_dst (N:=7) rfl ?_);refine zb (N:=7) (cs:=#[.slice none 0 0,.bool false]) (t:=24) ?_;intro G250 hg w23 hbox hb;replace HO240:=Aside0.mk (Kd.R_below (zR HO240) hb);replace HO244:=Aside0.mk (Kd.R_below (zR HO244) hb);replace HO247:=Aside0.mk (Kd.R_below (zR HO247) hb);have K250:=Aside0.mk (hbox);have GW250:=zN HB hg;have GE250:=zN HB hg;replace HB:=zS HB hb;have NB237_250:=zL K237 hg;have NB250_237:=zG K237 hg;replace K237:=zB K237 hb;clear hb hbox hg;obtain ⟨Ao24,co24,eo24⟩:=Kd.R_slice HO247.out;subst eo24;have hnb25:=NB250_237.1;have hnc25:=NB237_250.1;have hcz26_0 : w23.cell? ⟨G250,0,none⟩ = some (.slice none 0 0):=zk K250 0;have hcz26_1 : w23.cell? ⟨G250,1,none⟩ = some (.bool false):=zk K250 1;have hfz26_0:=bF K250.1 0;have hfz26_1:=bF K250.1 1;have hcz27_0 : w23.cell? ⟨G237,0,none⟩ = some (.slice A0_0 l0_0.length c0_0):=zk K237 0;have hcz27_1 : w23.cell? ⟨G237,1,none⟩ = some (.bool a0_1):=zk K237 1;have hfz27_0:=bF K237.1 0;have hfz27_1:=bF K237.1 1)|((with_reducible refine gate_callee (f:=18) rfl ?_);refine zg (some 24) Try.func18 #[.agg #[.slice A0_0 l0_0.length c0_0,.bool a0_1],.slice A1 l1.length c1,.int .i64 a2] ?_;(with_reducible refine (beaconref17_Keep.calls k _ _ l0_0 a0_1 _ _ l1 a2 t251 t254 t255 _ ?side1 ?side2 ?side3 ?side4 A7.out).mono ?_);(case side1 => exact Kd.C_below HR0_0.out (zH HB));(case side2 => exact HC0_0.out);(case side3 => exact Kd.C_below HR1.out (zH HB));(case side4 => exact HC1.out);rintro e w28 ⟨v252,rfl,ho0,hb⟩;refine ⟨_,rfl,?_⟩;have HO253:=Aside0.mk (Kd.R_lower (Kd.R_new' (Kd.R_new' (Kd.R_new' ho0 (Kd.R_lt (by (with_reducible repeat (first|apply Kd.R_alloc|apply Kd.R_drewN|apply Kd.R_drew));exact (Kd.R_mono (Kd.R_far (p:=⟨G250,1,none⟩) (Kd.R_far (p:=⟨G250,0,none⟩) (Kd.R_types HO240.out K250.1 (by decide)) (fun _ hk => hk.2) (.slice Ao24 t245.length co24)) (fun _ hk => hk.2) (.bool t248)) (fun _ h_ => h_.1))))) (Kd.R_lt (by (with_reducible repeat (first|apply Kd.R_alloc|apply Kd.R_drewN|apply Kd.R_drew));exact (Kd.R_mono (Kd.R_far (p:=⟨G250,1,none⟩) (Kd.R_far (p:=⟨G250,0,none⟩) (Kd.R_types HO244.out K250.1 (by decide)) (fun _ hk => hk.2) (.slice Ao24 t245.length co24)) (fun _ hk => hk.2) (.bool t248)) (fun _ h_ => h_.1))))) (Kd.R_lt (by (with_reducible repeat (first|apply Kd.R_alloc|apply Kd.R_drewN|apply Kd.R_drew));exact (Kd.R_mono (Kd.R_far (p:=⟨G250,1,none⟩) (Kd.R_far (p:=⟨G250,0,none⟩) (Kd.R_types HO247.out K250.1 (by decide)) (fun _ hk => hk.2) (.slice Ao24 t245.length co24)) (fun _ hk => hk.2) (.bool t248)) (fun _ h_ => h_.1))))) (zW HB));replace HO240:=Aside0.mk (Kd.R_elder' (by (with_reducible repeat (first|apply Kd.R_alloc|apply Kd.R_drewN|apply Kd.R_drew));exact (Kd.R_mono (Kd.R_far (p:=⟨G250,1,none⟩) (Kd.R_far (p:=⟨G250,0,none⟩) (Kd.R_types HO240.out K250.1 (by decide)) (fun _ hk => hk.2) (.slice Ao24 t245.length co24)) (fun _ hk => hk.2) (.bool t248)) (fun _ h_ => h_.1))) (Kd.R_base ho0) hb);replace HO244:=Aside0.mk (Kd.R_elder' (by (with_reducible repeat (first|apply Kd.R_alloc|apply Kd.R_drewN|apply Kd.R_drew));exact (Kd.R_mono (Kd.R_far (p:=⟨G250,1,none⟩) (Kd.R_far (p:=⟨G250,0,none⟩) (Kd.R_types HO244.out K250.1 (by decide)) (fun _ hk => hk.2) (.slice Ao24 t245.length co24)) (fun _ hk => hk.2) (.bool t248)) (fun _ h_ => h_.1))) (Kd.R_base ho0) hb);replace HO247:=Aside0.mk (Kd.R_elder' (by (with_reducible repeat (first|apply Kd.R_alloc|apply Kd.R_drewN|apply Kd.R_drew));exact (Kd.R_mono (Kd.R_far (p:=⟨G250,1,none⟩) (Kd.R_far (p:=⟨G250,0,none⟩) (Kd.R_types HO247.out K250.1 (by decide)) (fun _ hk => hk.2) (.slice Ao24 t245.length co24)) (fun _ hk => hk.2) (.bool t248)) (fun _ h_ => h_.1))) (Kd.R_base ho0) hb);replace K237:=zBf K237 hb;replace K250:=zBp (.cells #[.slice Ao24 t245.length co24,.bool t248] 24 (0,0)) K250 hb;replace HB:=zS HB hb;(try clear hb);(try clear ho0))|((with_reducible refine gate_dst (N:=9) rfl ?_);refine zb (N:=9) (cs:=#[.slice none 0 0,.bool false]) (t:=24) ?_;intro G256 hg w29 hbox hb;replace HO240:=Aside0.mk (Kd.R_below (zR HO240) hb);replace HO244:=Aside0.mk (Kd.R_below (zR HO244) hb);replace HO247:=Aside0.mk (Kd.R_below (zR HO247) hb);replace HO253:=Aside0.mk (Kd.R_below (zR HO253) hb);have K256:=Aside0.mk (hbox);have GW256:=zN HB hg;have GE256:=zN HB hg;replace HB:=zS HB hb;have NB237_256:=zL K237 hg;have NB256_237:=zG K237 hg;replace K237:=zB K237 hb;have NB250_256:=zL K250 hg;have NB256_250:=zG K250 hg;replace K250:=zB K250 hb;clear hb hbox hg;obtain ⟨Ao30,co30,eo30⟩:=Kd.R_slice HO253.out;subst eo30;have hnb31:=NB256_237.1;have hnc31:=NB237_256.1;have hnb32:=NB256_250.1;have hnc32:=NB250_256.1;have hcz33_0 : w29.cell? ⟨G256,0,none⟩ = some (.slice none 0 0):=zk K256 0;have hcz33_1 : w29.cell? ⟨G256,1,none⟩ = some (.bool false):=zk K256 1;have hfz33_0:=bF K256.1 0;have hfz33_1:=bF K256.1 1))
    have n0_ : Aside0 (Kd.R k39 39 ((w29.setCell ⟨G256,0,none⟩ (.slice Ao30 t251.length co30)).setCell ⟨G256,1,none⟩ (.bool t254)) w.heap.size (fun k_ => some k_ ≠ (.slice Ao21 t242.length co21 : Value).ownBlock ∧ some k_ ≠ (.slice Ao24 t245.length co24 : Value).ownBlock ∧ some k_ ≠ (.slice Ao30 t251.length co30 : Value).ownBlock) (.slice Ao20 t238.length co20) t238):=⟨by (with_reducible repeat (first|apply Kd.R_alloc|apply Kd.R_drewN|apply Kd.R_drew));exact Kd.R_mono (Kd.R_far (p:=⟨G256,1,none⟩) (Kd.R_far (p:=⟨G256,0,none⟩) (Kd.R_types HO240.out K256.1 (by decide)) (fun _ hk => hk.2) (.slice Ao30 t251.length co30)) (fun _ hk => hk.2) (.bool t254)) (fun _ hk => ⟨hk.1.1.1.2,⟨hk.1.1.2,hk.1.2⟩⟩)⟩
    have n1_ : Aside0 (Kd.R k39 39 ((w29.setCell ⟨G256,0,none⟩ (.slice Ao30 t251.length co30)).setCell ⟨G256,1,none⟩ (.bool t254)) w.heap.size (fun k_ => some k_ ≠ (.slice Ao20 t238.length co20 : Value).ownBlock ∧ some k_ ≠ (.slice Ao24 t245.length co24 : Value).ownBlock ∧ some k_ ≠ (.slice Ao30 t251.length co30 : Value).ownBlock) (.slice Ao21 t242.length co21) t242):=⟨by (with_reducible repeat (first|apply Kd.R_alloc|apply Kd.R_drewN|apply Kd.R_drew));exact Kd.R_mono (Kd.R_far (p:=⟨G256,1,none⟩) (Kd.R_far (p:=⟨G256,0,none⟩) (Kd.R_types HO244.out K256.1 (by decide)) (fun _ hk => hk.2) (.slice Ao30 t251.length co30)) (fun _ hk => hk.2) (.bool t254)) (fun _ hk => ⟨hk.1.1.1.2,⟨hk.1.1.2,hk.1.2⟩⟩)⟩
    have n2_ : Aside0 (Kd.R k39 39 ((w29.setCell ⟨G256,0,none⟩ (.slice Ao30 t251.length co30)).setCell ⟨G256,1,none⟩ (.bool t254)) w.heap.size (fun k_ => some k_ ≠ (.slice Ao20 t238.length co20 : Value).ownBlock ∧ some k_ ≠ (.slice Ao21 t242.length co21 : Value).ownBlock ∧ some k_ ≠ (.slice Ao30 t251.length co30 : Value).ownBlock) (.slice Ao24 t245.length co24) t245):=⟨by (with_reducible repeat (first|apply Kd.R_alloc|apply Kd.R_drewN|apply Kd.R_drew));exact Kd.R_mono (Kd.R_far (p:=⟨G256,1,none⟩) (Kd.R_far (p:=⟨G256,0,none⟩) (Kd.R_types HO247.out K256.1 (by decide)) (fun _ hk => hk.2) (.slice Ao30 t251.length co30)) (fun _ hk => hk.2) (.bool t254)) (fun _ hk => ⟨hk.1.1.1.2,⟨hk.1.1.2,hk.1.2⟩⟩)⟩
    have n3_ : Aside0 (Kd.R k39 39 ((w29.setCell ⟨G256,0,none⟩ (.slice Ao30 t251.length co30)).setCell ⟨G256,1,none⟩ (.bool t254)) w.heap.size (fun k_ => some k_ ≠ (.slice Ao20 t238.length co20 : Value).ownBlock ∧ some k_ ≠ (.slice Ao21 t242.length co21 : Value).ownBlock ∧ some k_ ≠ (.slice Ao24 t245.length co24 : Value).ownBlock) (.slice Ao30 t251.length co30) t251):=⟨by (with_reducible repeat (first|apply Kd.R_alloc|apply Kd.R_drewN|apply Kd.R_drew));exact Kd.R_mono (Kd.R_far (p:=⟨G256,1,none⟩) (Kd.R_far (p:=⟨G256,0,none⟩) (Kd.R_types HO253.out K256.1 (by decide)) (fun _ hk => hk.2) (.slice Ao30 t251.length co30)) (fun _ hk => hk.2) (.bool t254)) (fun _ hk => ⟨hk.1.1.1.2,⟨hk.1.1.2,hk.1.2⟩⟩)⟩
    have n4_ : Aside0 (((w29.setCell ⟨G256,0,none⟩ (.slice Ao30 t251.length co30)).setCell ⟨G256,1,none⟩ (.bool t254)).heap[G237]? = some (.cells #[.slice A0_0 l0_0.length c0_0,.bool a0_1] 24 (0,0))):=⟨zf K237⟩
    have n5_ : Aside0 (((w29.setCell ⟨G256,0,none⟩ (.slice Ao30 t251.length co30)).setCell ⟨G256,1,none⟩ (.bool t254)).heap[G250]? = some (.cells #[.slice Ao24 t245.length co24,.bool t248] 24 (0,0))):=⟨zf K250⟩
    have n6_ : Aside0 (((w29.setCell ⟨G256,0,none⟩ (.slice Ao30 t251.length co30)).setCell ⟨G256,1,none⟩ (.bool t254)).heap[G256]? = some (.cells #[.slice Ao30 t251.length co30,.bool t254] 24 (0,0))):=⟨zF K256⟩
    have n7_ : Aside0 (Below w.heap.size w ((w29.setCell ⟨G256,0,none⟩ (.slice Ao30 t251.length co30)).setCell ⟨G256,1,none⟩ (.bool t254))):=⟨zH HB⟩
    (try clear HO240)
    (try clear HO244)
    (try clear HO247)
    (try clear HO253)
    (try clear K237)
    (try clear K250)
    (try clear K256)
    (try clear HB)
    generalize ((w29.setCell ⟨G256,0,none⟩ (.slice Ao30 t251.length co30)).setCell ⟨G256,1,none⟩ (.bool t254)) = w34 at n0_ n1_ n2_ n3_ n4_ n5_ n6_ n7_ ⊢
    have HO240:=n0_
    have HO244:=n1_
    have HO247:=n2_
    have HO253:=n3_
    have K237:=n4_
    have K250:=n5_
    have K256:=n6_
    have HB:=n7_
    clear n0_ n1_ n2_ n3_ n4_ n5_ n6_ n7_
    replace HO240:=Aside0.mk (Kd.R_drew HO240.out)
    replace HO244:=Aside0.mk (Kd.R_drew HO244.out)
    replace HO247:=Aside0.mk (Kd.R_drew HO247.out)
    replace HO253:=Aside0.mk (Kd.R_drew HO253.out)
    replace K237:=Aside0.mk (bD K237.1)
    replace K250:=Aside0.mk (bD K250.1)
    replace K256:=Aside0.mk (bD K256.1)
    replace HB:=Aside0.mk (bw1 HB.1)
    refine start_ (n:=20) (S:=fun w' => w'.cell? ⟨G250,0,none⟩ = some (.slice Ao24 t245.length co24) ∧ w'.cell? ⟨G250,1,none⟩ = some (.bool t248) ∧ w'.cell? ⟨G256,0,none⟩ = some (.slice Ao30 t251.length co30) ∧ w'.cell? ⟨G256,1,none⟩ = some (.bool t254) ∧ w'.cell? ⟨G237,0,none⟩ = some (.slice A0_0 l0_0.length c0_0) ∧ w'.cell? ⟨G237,1,none⟩ = some (.bool a0_1)) (ds:=[]) #[F,F,F,F,F,F,F,F,F,F,F,F,F,F,F,F,F,F,F,F] (by kernel_rfl) rfl rfl ⟨zk K250 0,zk K250 1,zk K256 0,zk K256 1,zk K237 0,zk K237 1⟩ (fun hHeld => ?_);refine with_tabW beaconlaw17_TableKeeps.tab3 beaconlaw17_TableKeeps.bits3 (fun HT_ HW_ => ?_)
    generalize w34.drew = w35 at HO240 HO244 HO247 HO253 K237 K250 K256 HB hHeld ⊢
    refine pz 0 27 #[T,F,F,F,F,F,F,F,F,F,F,F,F,F,F,F,F,F,F,F] HT_.1 ?_
    refine pz 1 28 #[T,T,F,F,F,F,F,F,F,F,F,F,F,F,F,F,F,F,F,F] HT_.1 ?_
    refine pz 2 29 #[T,T,T,F,F,F,F,F,F,F,F,F,F,F,F,F,F,F,F,F] HT_.1 ?_
    refine pz 3 30 #[T,T,T,T,F,F,F,F,F,F,F,F,F,F,F,F,F,F,F,F] HT_.1 ?_
    refine tz 4 31 #[T,T,T,T,T,F,F,F,F,F,F,F,F,F,F,F,F,F,F,F] HT_.1 HW_.1 hHeld ?_
    refine tz 5 32 #[T,T,T,T,T,T,F,F,F,F,F,F,F,F,F,F,F,F,F,F] HT_.1 HW_.1 hHeld ?_
    refine one_ (i:=6) (N:=some 33) #[T,T,T,T,T,T,T,F,F,F,F,F,F,F,F,F,F,F,F,F] rfl rfl (one_of HT_.out (by kernel_rfl)) (by decide) (fun K hK => ?_)
    refine goes_ Try.func15 (by kernel_rfl) rfl #[.agg #[.slice Ao24 t245.length co24,.bool t248],.agg #[.slice Ao30 t251.length co30,.bool t254]] (by rfl) rfl rfl (by (try simp only [List.map_toArray,List.map_cons,List.map_nil]);first|done|rfl|(simp only [List.length_drop,List.length_take];rfl)) ?_
    with_reducible refine (beaconlaw17_same.calls k _ _ t245 t248 _ _ t251 t254 true _ ?side1 ?side2 ?side3 ?side4 A9.out).mono ?_
    (case side1 => exact zC ((Kd.R_reads' HO247.out).2.2))
    (case side2 => exact (Kd.R_reads' HO247.out).2.1)
    (case side3 => exact zC ((Kd.R_reads' HO253.out).2.2))
    (case side4 => exact (Kd.R_reads' HO253.out).2.1)
    rintro e w36 ⟨rfl,hb⟩
    refine ⟨_,rfl,?_⟩
    replace HO240:=Aside0.mk (Kd.R_below (zR HO240) hb)
    replace HO244:=Aside0.mk (Kd.R_below (zR HO244) hb)
    replace HO247:=Aside0.mk (Kd.R_below (zR HO247) hb)
    replace HO253:=Aside0.mk (Kd.R_below (zR HO253) hb)
    replace K237:=zB K237 hb
    replace K250:=zB K250 hb
    replace K256:=zB K256 hb
    replace HB:=zS HB hb
    (try clear hb)
    (try clear hb2)
    (try clear hk)
    (try clear hi)
    refine hK.out _ _ ⟨zk K250 0,zk K250 1,zk K256 0,zk K256 1,zk K237 0,zk K237 1⟩ (fun hHeld => ?_)
    clear hK K
    refine nz 33 ?_
    refine pz 7 34 #[T,T,T,T,T,T,T,T,F,F,F,F,F,F,F,F,F,F,F,F] HT_.1 ?_
    refine pz 8 35 #[T,T,T,T,T,T,T,T,T,F,F,F,F,F,F,F,F,F,F,F] HT_.1 ?_
    refine tz 9 36 #[T,T,T,T,T,T,T,T,T,T,F,F,F,F,F,F,F,F,F,F] HT_.1 HW_.1 hHeld ?_
    refine tz 12 39 #[T,T,T,T,T,T,T,T,T,T,F,F,T,F,F,F,F,F,F,F] HT_.1 HW_.1 hHeld ?_
    refine one_ (i:=10) (N:=some 37) #[T,T,T,T,T,T,T,T,T,T,T,F,T,F,F,F,F,F,F,F] rfl rfl (one_of HT_.out (by kernel_rfl)) (by decide) (fun K hK => ?_)
    refine goes_ Try.func16 (by kernel_rfl) rfl #[.agg #[.slice A0_0 l0_0.length c0_0,.bool a0_1]] (by rfl) rfl rfl (by (try simp only [List.map_toArray,List.map_cons,List.map_nil]);first|done|rfl|(simp only [List.length_drop,List.length_take];rfl)) ?_
    with_reducible refine (beaconlaw17_own.calls k _ _ l0_0 a0_1 t258 t261 _ ?side1 ?side2 A11.out).mono ?_
    (case side1 => exact zC (Kd.C_below HR0_0.out HB.1))
    (case side2 => exact HC0_0.out)
    rintro e w37 ⟨v259,rfl,ho0,hb⟩
    refine ⟨_,rfl,?_⟩
    have HO260:=Aside0.mk (Kd.R_lower (Kd.R_new' (Kd.R_new' (Kd.R_new' (Kd.R_new' ho0 (Kd.R_lt (zR HO240))) (Kd.R_lt (zR HO244))) (Kd.R_lt (zR HO247))) (Kd.R_lt (zR HO253))) (zW HB))
    replace HO240:=Aside0.mk (Kd.R_elder' (zR HO240) (Kd.R_base ho0) hb)
    replace HO244:=Aside0.mk (Kd.R_elder' (zR HO244) (Kd.R_base ho0) hb)
    replace HO247:=Aside0.mk (Kd.R_elder' (zR HO247) (Kd.R_base ho0) hb)
    replace HO253:=Aside0.mk (Kd.R_elder' (zR HO253) (Kd.R_base ho0) hb)
    replace K237:=zB K237 hb
    replace K250:=zB K250 hb
    replace K256:=zB K256 hb
    replace HB:=zS HB hb
    (try clear hb)
    (try clear hb2)
    (try clear hk)
    (try clear hi)
    (try clear ho0)
    obtain ⟨Ao38,co38,eo38⟩:=Kd.R_slice HO260.out
    (first|subst eo38|(injection eo38 with f1_ f2_ f3_;have f4_:=f1_.symm;have f5_:=f3_.symm;clear f1_ f2_ f3_;subst f4_;subst f5_))
    refine hK.out _ _ ⟨zk K250 0,zk K250 1,zk K256 0,zk K256 1,zk K237 0,zk K237 1⟩ (fun hHeld => ?_)
    clear hK K
    refine nz 37 ?_
    refine one_ (i:=11) (N:=some 38) #[T,T,T,T,T,T,T,T,T,T,T,T,T,F,F,F,F,F,F,F] rfl rfl (one_of HT_.out (by kernel_rfl)) (by decide) (fun K hK => ?_)
    refine goes_ Try.func19 (by kernel_rfl) rfl #[.agg #[.slice Ao38 t258.length co38,.bool t261]] (by rfl) rfl rfl (by (try simp only [List.map_toArray,List.map_cons,List.map_nil]);first|done|rfl|(simp only [List.length_drop,List.length_take];rfl)) ?_
    with_reducible refine (table_Check.calls k _ _ t258 t261 t262 _ ?side1 ?side2 A12.out).mono ?_
    (case side1 => exact zC ((Kd.R_reads' HO260.out).2.2))
    (case side2 => exact (Kd.R_reads' HO260.out).2.1)
    rintro e w39 ⟨rfl,hb⟩
    refine ⟨_,rfl,?_⟩
    replace HO240:=Aside0.mk (Kd.R_below (zR HO240) hb)
    replace HO244:=Aside0.mk (Kd.R_below (zR HO244) hb)
    replace HO247:=Aside0.mk (Kd.R_below (zR HO247) hb)
    replace HO253:=Aside0.mk (Kd.R_below (zR HO253) hb)
    replace HO260:=Aside0.mk (Kd.R_below (zR HO260) hb)
    replace K237:=zB K237 hb
    replace K250:=zB K250 hb
    replace K256:=zB K256 hb
    replace HB:=zS HB hb
    (try clear hb)
    (try clear hb2)
    (try clear hk)
    (try clear hi)
    refine hK.out _ _ ⟨zk K250 0,zk K250 1,zk K256 0,zk K256 1,zk K237 0,zk K237 1⟩ (fun hHeld => ?_)
    clear hK K
    refine nz 38 ?_
    refine one_ (i:=13) (N:=some 40) #[T,T,T,T,T,T,T,T,T,T,T,T,T,T,F,F,F,F,F,F] rfl rfl (one_of HT_.out (by kernel_rfl)) (by decide) (fun K hK => ?_)
    refine goes_ Try.func12 (by kernel_rfl) rfl #[.agg #[.slice A0_0 l0_0.length c0_0,.bool a0_1]] (by rfl) rfl rfl (by (try simp only [List.map_toArray,List.map_cons,List.map_nil]);first|done|rfl|(simp only [List.length_drop,List.length_take];rfl)) ?_
    with_reducible refine (beaconref17_Check.calls k _ _ l0_0 a0_1 t263 _ ?side1 ?side2 A13.out).mono ?_
    (case side1 => exact zC (Kd.C_below HR0_0.out HB.1))
    (case side2 => exact HC0_0.out)
    rintro e w40 ⟨rfl,hb⟩
    refine ⟨_,rfl,?_⟩
    replace HO240:=Aside0.mk (Kd.R_below (zR HO240) hb)
    replace HO244:=Aside0.mk (Kd.R_below (zR HO244) hb)
    replace HO247:=Aside0.mk (Kd.R_below (zR HO247) hb)
    replace HO253:=Aside0.mk (Kd.R_below (zR HO253) hb)
    replace HO260:=Aside0.mk (Kd.R_below (zR HO260) hb)
    replace K237:=zB K237 hb
    replace K250:=zB K250 hb
    replace K256:=zB K256 hb
    replace HB:=zS HB hb
    (try clear hb)
    (try clear hb2)
    (try clear hk)
    (try clear hi)
    refine hK.out _ _ ⟨zk K250 0,zk K250 1,zk K256 0,zk K256 1,zk K237 0,zk K237 1⟩ (fun hHeld => ?_)
    clear hK K
    refine nz 40 ?_
    refine pz 14 41 #[T,T,T,T,T,T,T,T,T,T,T,T,T,T,T,F,F,F,F,F] HT_.1 ?_
    refine pz 15 42 #[T,T,T,T,T,T,T,T,T,T,T,T,T,T,T,T,F,F,F,F] HT_.1 ?_
    refine pz 16 43 #[T,T,T,T,T,T,T,T,T,T,T,T,T,T,T,T,T,F,F,F] HT_.1 ?_
    refine one_ (i:=17) (N:=some 44) #[T,T,T,T,T,T,T,T,T,T,T,T,T,T,T,T,T,T,F,F] rfl rfl (one_of HT_.out (by kernel_rfl)) (by decide) (fun K hK => ?_)
    refine goes_ Try.func13 (by kernel_rfl) rfl #[] (by rfl) rfl rfl (by (try simp only [List.map_toArray,List.map_cons,List.map_nil]);first|done|rfl|(simp only [List.length_drop,List.length_take];rfl)) ?_
    with_reducible refine (beaconlaw17_awake.calls k  t264 _ A15.out).mono ?_
    rintro e w41 ⟨rfl,hb⟩
    refine ⟨_,rfl,?_⟩
    replace HO240:=Aside0.mk (Kd.R_below (zR HO240) hb)
    replace HO244:=Aside0.mk (Kd.R_below (zR HO244) hb)
    replace HO247:=Aside0.mk (Kd.R_below (zR HO247) hb)
    replace HO253:=Aside0.mk (Kd.R_below (zR HO253) hb)
    replace HO260:=Aside0.mk (Kd.R_below (zR HO260) hb)
    replace K237:=zB K237 hb
    replace K250:=zB K250 hb
    replace K256:=zB K256 hb
    replace HB:=zS HB hb
    (try clear hb)
    (try clear hb2)
    (try clear hk)
    (try clear hi)
    refine hK.out _ _ ⟨zk K250 0,zk K250 1,zk K256 0,zk K256 1,zk K237 0,zk K237 1⟩ (fun hHeld => ?_)
    clear hK K
    refine nz 44 ?_
    refine pz 18 45 #[T,T,T,T,T,T,T,T,T,T,T,T,T,T,T,T,T,T,T,F] HT_.1 ?_
    refine pz 19 6 #[T,T,T,T,T,T,T,T,T,T,T,T,T,T,T,T,T,T,T,T] HT_.1 ?_
    refine done_ (done_of HT_.out (by kernel_rfl)) ?_
    try go_wp2
    go_ret
    exact ⟨by first|rfl|(simp [errW_none,errW_some] <;> rfl)|(simp [*,errW_none,errW_some] <;> rfl),zH HB⟩
   ·rw [if_neg c14] at H
    have c14b0 : (t262 == t263) = false:=beq_eq_false_iff_ne.mpr c14
    have c14b1 : (t262 != t263) = true:=bne_iff_ne.mpr c14
    obtain rfl:=Option.some.inj H
    go_enter Try.func4,Try.ntmps4
    try go_wp2_with (first|((with_reducible refine gate_dst (N:=3) rfl ?_);refine zb (N:=3) (cs:=#[.slice A0_0 l0_0.length c0_0,.bool a0_1]) (t:=24) ?_;intro G237 hg w42 hbox hb;have K237:=Aside0.mk (hbox);have GW237:=zN HB hg;have GE237:=zN HB hg;replace HB:=zS HB hb;clear hb hbox hg;have hcz43_0 : w42.cell? ⟨G237,0,none⟩ = some (.slice A0_0 l0_0.length c0_0):=zk K237 0;have hcz43_1 : w42.cell? ⟨G237,1,none⟩ = some (.bool a0_1):=zk K237 1;have hfz43_0:=bF K237.1 0;have hfz43_1:=bF K237.1 1)|((with_reducible refine gate_callee (f:=16) rfl ?_);refine zg (some 13) Try.func16 #[.agg #[.slice A0_0 l0_0.length c0_0,.bool a0_1]] ?_;(with_reducible refine (beaconlaw17_own.calls k _ _ l0_0 a0_1 t238 t241 _ ?side1 ?side2 A4.out).mono ?_);(case side1 => exact zC (Kd.C_below HR0_0.out HB.1));(case side2 => exact HC0_0.out);rintro e w44 ⟨v239,rfl,ho0,hb⟩;refine ⟨_,rfl,?_⟩;have HO240:=Aside0.mk (Kd.R_lower ho0 (zW HB));replace K237:=zB K237 hb;replace HB:=zS HB hb;(try clear hb);(try clear ho0))|((with_reducible refine gate_callee (f:=17) rfl ?_);refine zg (some 15) Try.func17 #[.slice A1 l1.length c1] ?_;(with_reducible refine (beaconref15_Entries.calls k _ _ l1 t242 _ ?side1 ?side2 A5.out).mono ?_);(case side1 => exact zC (Kd.C_below HR1.out HB.1));(case side2 => exact HC1.out);rintro e w45 ⟨v243,rfl,ho0,hb⟩;refine ⟨_,rfl,?_⟩;have HO244:=Aside0.mk (Kd.R_lower (Kd.R_new' ho0 (Kd.R_lt (zR HO240))) (zW HB));replace HO240:=Aside0.mk (Kd.R_elder' (zR HO240) (Kd.R_base ho0) hb);replace K237:=zB K237 hb;replace HB:=zS HB hb;(try clear hb);(try clear ho0);obtain ⟨Ao46,co46,eo46⟩:=Kd.R_slice HO240.out;subst eo46;obtain ⟨Ao47,co47,eo47⟩:=Kd.R_slice HO244.out;subst eo47)|((with_reducible refine gate_callee (f:=14) rfl ?_);refine zg (some 17) Try.func14 #[.agg #[.slice Ao46 t238.length co46,.bool t241],.slice Ao47 t242.length co47,.int .i64 a2] ?_;(with_reducible refine (table_Keep.calls k _ _ t238 t241 _ _ t242 a2 t245 t248 t249 _ ?side1 ?side2 ?side3 ?side4 A6.out).mono ?_);(case side1 => exact zC ((Kd.R_reads' HO240.out).2.2));(case side2 => exact (Kd.R_reads' HO240.out).2.1);(case side3 => exact zC ((Kd.R_reads' HO244.out).2.2));(case side4 => exact (Kd.R_reads' HO244.out).2.1);rintro e w48 ⟨v246,rfl,ho0,hb⟩;refine ⟨_,rfl,?_⟩;have HO247:=Aside0.mk (Kd.R_lower (Kd.R_new' (Kd.R_new' ho0 (Kd.R_lt (zR HO240))) (Kd.R_lt (zR HO244))) (zW HB));replace HO240:=Aside0.mk (Kd.R_elder' (zR HO240) (Kd.R_base ho0) hb);replace HO244:=Aside0.mk (Kd.R_elder' (zR HO244) (Kd.R_base ho0) hb);replace K237:=zB K237 hb;replace HB:=zS HB hb;(try clear hb);(try clear ho0))|((with_reducible refine gate_dst (N:=7) rfl ?_);refine zb (N:=7) (cs:=#[.slice none 0 0,.bool false]) (t:=24) ?_;intro G250 hg w49 hbox hb;replace HO240:=Aside0.mk (Kd.R_below (zR HO240) hb);replace HO244:=Aside0.mk (Kd.R_below (zR HO244) hb);replace HO247:=Aside0.mk (Kd.R_below (zR HO247) hb);have K250:=Aside0.mk (hbox);have GW250:=zN HB hg;have GE250:=zN HB hg;replace HB:=zS HB hb;have NB237_250:=zL K237 hg;have NB250_237:=zG K237 hg;replace K237:=zB K237 hb;clear hb hbox hg;obtain ⟨Ao50,co50,eo50⟩:=Kd.R_slice HO247.out;subst eo50;have hnb51:=NB250_237.1;have hnc51:=NB237_250.1;have hcz52_0 : w49.cell? ⟨G250,0,none⟩ = some (.slice none 0 0):=zk K250 0;have hcz52_1 : w49.cell? ⟨G250,1,none⟩ = some (.bool false):=zk K250 1;have hfz52_0:=bF K250.1 0;have hfz52_1:=bF K250.1 1;have hcz53_0 : w49.cell? ⟨G237,0,none⟩ = some (.slice A0_0 l0_0.length c0_0):=zk K237 0;have hcz53_1 : w49.cell? ⟨G237,1,none⟩ = some (.bool a0_1):=zk K237 1;have hfz53_0:=bF K237.1 0;have hfz53_1:=bF K237.1 1)|((with_reducible refine gate_callee (f:=18) rfl ?_);refine zg (some 24) Try.func18 #[.agg #[.slice A0_0 l0_0.length c0_0,.bool a0_1],.slice A1 l1.length c1,.int .i64 a2] ?_;(with_reducible refine (beaconref17_Keep.calls k _ _ l0_0 a0_1 _ _ l1 a2 t251 t254 t255 _ ?side1 ?side2 ?side3 ?side4 A7.out).mono ?_);(case side1 => exact Kd.C_below HR0_0.out (zH HB));(case side2 => exact HC0_0.out);(case side3 => exact Kd.C_below HR1.out (zH HB));(case side4 => exact HC1.out);rintro e w54 ⟨v252,rfl,ho0,hb⟩;refine ⟨_,rfl,?_⟩;have HO253:=Aside0.mk (Kd.R_lower (Kd.R_new' (Kd.R_new' (Kd.R_new' ho0 (Kd.R_lt (by (with_reducible repeat (first|apply Kd.R_alloc|apply Kd.R_drewN|apply Kd.R_drew));exact (Kd.R_mono (Kd.R_far (p:=⟨G250,1,none⟩) (Kd.R_far (p:=⟨G250,0,none⟩) (Kd.R_types HO240.out K250.1 (by decide)) (fun _ hk => hk.2) (.slice Ao50 t245.length co50)) (fun _ hk => hk.2) (.bool t248)) (fun _ h_ => h_.1))))) (Kd.R_lt (by (with_reducible repeat (first|apply Kd.R_alloc|apply Kd.R_drewN|apply Kd.R_drew));exact (Kd.R_mono (Kd.R_far (p:=⟨G250,1,none⟩) (Kd.R_far (p:=⟨G250,0,none⟩) (Kd.R_types HO244.out K250.1 (by decide)) (fun _ hk => hk.2) (.slice Ao50 t245.length co50)) (fun _ hk => hk.2) (.bool t248)) (fun _ h_ => h_.1))))) (Kd.R_lt (by (with_reducible repeat (first|apply Kd.R_alloc|apply Kd.R_drewN|apply Kd.R_drew));exact (Kd.R_mono (Kd.R_far (p:=⟨G250,1,none⟩) (Kd.R_far (p:=⟨G250,0,none⟩) (Kd.R_types HO247.out K250.1 (by decide)) (fun _ hk => hk.2) (.slice Ao50 t245.length co50)) (fun _ hk => hk.2) (.bool t248)) (fun _ h_ => h_.1))))) (zW HB));replace HO240:=Aside0.mk (Kd.R_elder' (by (with_reducible repeat (first|apply Kd.R_alloc|apply Kd.R_drewN|apply Kd.R_drew));exact (Kd.R_mono (Kd.R_far (p:=⟨G250,1,none⟩) (Kd.R_far (p:=⟨G250,0,none⟩) (Kd.R_types HO240.out K250.1 (by decide)) (fun _ hk => hk.2) (.slice Ao50 t245.length co50)) (fun _ hk => hk.2) (.bool t248)) (fun _ h_ => h_.1))) (Kd.R_base ho0) hb);replace HO244:=Aside0.mk (Kd.R_elder' (by (with_reducible repeat (first|apply Kd.R_alloc|apply Kd.R_drewN|apply Kd.R_drew));exact (Kd.R_mono (Kd.R_far (p:=⟨G250,1,none⟩) (Kd.R_far (p:=⟨G250,0,none⟩) (Kd.R_types HO244.out K250.1 (by decide)) (fun _ hk => hk.2) (.slice Ao50 t245.length co50)) (fun _ hk => hk.2) (.bool t248)) (fun _ h_ => h_.1))) (Kd.R_base ho0) hb);replace HO247:=Aside0.mk (Kd.R_elder' (by (with_reducible repeat (first|apply Kd.R_alloc|apply Kd.R_drewN|apply Kd.R_drew));exact (Kd.R_mono (Kd.R_far (p:=⟨G250,1,none⟩) (Kd.R_far (p:=⟨G250,0,none⟩) (Kd.R_types HO247.out K250.1 (by decide)) (fun _ hk => hk.2) (.slice Ao50 t245.length co50)) (fun _ hk => hk.2) (.bool t248)) (fun _ h_ => h_.1))) (Kd.R_base ho0) hb);replace K237:=zBf K237 hb;replace K250:=zBp (.cells #[.slice Ao50 t245.length co50,.bool t248] 24 (0,0)) K250 hb;replace HB:=zS HB hb;(try clear hb);(try clear ho0))|((with_reducible refine gate_dst (N:=9) rfl ?_);refine zb (N:=9) (cs:=#[.slice none 0 0,.bool false]) (t:=24) ?_;intro G256 hg w55 hbox hb;replace HO240:=Aside0.mk (Kd.R_below (zR HO240) hb);replace HO244:=Aside0.mk (Kd.R_below (zR HO244) hb);replace HO247:=Aside0.mk (Kd.R_below (zR HO247) hb);replace HO253:=Aside0.mk (Kd.R_below (zR HO253) hb);have K256:=Aside0.mk (hbox);have GW256:=zN HB hg;have GE256:=zN HB hg;replace HB:=zS HB hb;have NB237_256:=zL K237 hg;have NB256_237:=zG K237 hg;replace K237:=zB K237 hb;have NB250_256:=zL K250 hg;have NB256_250:=zG K250 hg;replace K250:=zB K250 hb;clear hb hbox hg;obtain ⟨Ao56,co56,eo56⟩:=Kd.R_slice HO253.out;subst eo56;have hnb57:=NB256_237.1;have hnc57:=NB237_256.1;have hnb58:=NB256_250.1;have hnc58:=NB250_256.1;have hcz59_0 : w55.cell? ⟨G256,0,none⟩ = some (.slice none 0 0):=zk K256 0;have hcz59_1 : w55.cell? ⟨G256,1,none⟩ = some (.bool false):=zk K256 1;have hfz59_0:=bF K256.1 0;have hfz59_1:=bF K256.1 1))
    have n0_ : Aside0 (Kd.R k39 39 ((w55.setCell ⟨G256,0,none⟩ (.slice Ao56 t251.length co56)).setCell ⟨G256,1,none⟩ (.bool t254)) w.heap.size (fun k_ => some k_ ≠ (.slice Ao47 t242.length co47 : Value).ownBlock ∧ some k_ ≠ (.slice Ao50 t245.length co50 : Value).ownBlock ∧ some k_ ≠ (.slice Ao56 t251.length co56 : Value).ownBlock) (.slice Ao46 t238.length co46) t238):=⟨by (with_reducible repeat (first|apply Kd.R_alloc|apply Kd.R_drewN|apply Kd.R_drew));exact Kd.R_mono (Kd.R_far (p:=⟨G256,1,none⟩) (Kd.R_far (p:=⟨G256,0,none⟩) (Kd.R_types HO240.out K256.1 (by decide)) (fun _ hk => hk.2) (.slice Ao56 t251.length co56)) (fun _ hk => hk.2) (.bool t254)) (fun _ hk => ⟨hk.1.1.1.2,⟨hk.1.1.2,hk.1.2⟩⟩)⟩
    have n1_ : Aside0 (Kd.R k39 39 ((w55.setCell ⟨G256,0,none⟩ (.slice Ao56 t251.length co56)).setCell ⟨G256,1,none⟩ (.bool t254)) w.heap.size (fun k_ => some k_ ≠ (.slice Ao46 t238.length co46 : Value).ownBlock ∧ some k_ ≠ (.slice Ao50 t245.length co50 : Value).ownBlock ∧ some k_ ≠ (.slice Ao56 t251.length co56 : Value).ownBlock) (.slice Ao47 t242.length co47) t242):=⟨by (with_reducible repeat (first|apply Kd.R_alloc|apply Kd.R_drewN|apply Kd.R_drew));exact Kd.R_mono (Kd.R_far (p:=⟨G256,1,none⟩) (Kd.R_far (p:=⟨G256,0,none⟩) (Kd.R_types HO244.out K256.1 (by decide)) (fun _ hk => hk.2) (.slice Ao56 t251.length co56)) (fun _ hk => hk.2) (.bool t254)) (fun _ hk => ⟨hk.1.1.1.2,⟨hk.1.1.2,hk.1.2⟩⟩)⟩
    have n2_ : Aside0 (Kd.R k39 39 ((w55.setCell ⟨G256,0,none⟩ (.slice Ao56 t251.length co56)).setCell ⟨G256,1,none⟩ (.bool t254)) w.heap.size (fun k_ => some k_ ≠ (.slice Ao46 t238.length co46 : Value).ownBlock ∧ some k_ ≠ (.slice Ao47 t242.length co47 : Value).ownBlock ∧ some k_ ≠ (.slice Ao56 t251.length co56 : Value).ownBlock) (.slice Ao50 t245.length co50) t245):=⟨by (with_reducible repeat (first|apply Kd.R_alloc|apply Kd.R_drewN|apply Kd.R_drew));exact Kd.R_mono (Kd.R_far (p:=⟨G256,1,none⟩) (Kd.R_far (p:=⟨G256,0,none⟩) (Kd.R_types HO247.out K256.1 (by decide)) (fun _ hk => hk.2) (.slice Ao56 t251.length co56)) (fun _ hk => hk.2) (.bool t254)) (fun _ hk => ⟨hk.1.1.1.2,⟨hk.1.1.2,hk.1.2⟩⟩)⟩
    have n3_ : Aside0 (Kd.R k39 39 ((w55.setCell ⟨G256,0,none⟩ (.slice Ao56 t251.length co56)).setCell ⟨G256,1,none⟩ (.bool t254)) w.heap.size (fun k_ => some k_ ≠ (.slice Ao46 t238.length co46 : Value).ownBlock ∧ some k_ ≠ (.slice Ao47 t242.length co47 : Value).ownBlock ∧ some k_ ≠ (.slice Ao50 t245.length co50 : Value).ownBlock) (.slice Ao56 t251.length co56) t251):=⟨by (with_reducible repeat (first|apply Kd.R_alloc|apply Kd.R_drewN|apply Kd.R_drew));exact Kd.R_mono (Kd.R_far (p:=⟨G256,1,none⟩) (Kd.R_far (p:=⟨G256,0,none⟩) (Kd.R_types HO253.out K256.1 (by decide)) (fun _ hk => hk.2) (.slice Ao56 t251.length co56)) (fun _ hk => hk.2) (.bool t254)) (fun _ hk => ⟨hk.1.1.1.2,⟨hk.1.1.2,hk.1.2⟩⟩)⟩
    have n4_ : Aside0 (((w55.setCell ⟨G256,0,none⟩ (.slice Ao56 t251.length co56)).setCell ⟨G256,1,none⟩ (.bool t254)).heap[G237]? = some (.cells #[.slice A0_0 l0_0.length c0_0,.bool a0_1] 24 (0,0))):=⟨zf K237⟩
    have n5_ : Aside0 (((w55.setCell ⟨G256,0,none⟩ (.slice Ao56 t251.length co56)).setCell ⟨G256,1,none⟩ (.bool t254)).heap[G250]? = some (.cells #[.slice Ao50 t245.length co50,.bool t248] 24 (0,0))):=⟨zf K250⟩
    have n6_ : Aside0 (((w55.setCell ⟨G256,0,none⟩ (.slice Ao56 t251.length co56)).setCell ⟨G256,1,none⟩ (.bool t254)).heap[G256]? = some (.cells #[.slice Ao56 t251.length co56,.bool t254] 24 (0,0))):=⟨zF K256⟩
    have n7_ : Aside0 (Below w.heap.size w ((w55.setCell ⟨G256,0,none⟩ (.slice Ao56 t251.length co56)).setCell ⟨G256,1,none⟩ (.bool t254))):=⟨zH HB⟩
    (try clear HO240)
    (try clear HO244)
    (try clear HO247)
    (try clear HO253)
    (try clear K237)
    (try clear K250)
    (try clear K256)
    (try clear HB)
    generalize ((w55.setCell ⟨G256,0,none⟩ (.slice Ao56 t251.length co56)).setCell ⟨G256,1,none⟩ (.bool t254)) = w60 at n0_ n1_ n2_ n3_ n4_ n5_ n6_ n7_ ⊢
    have HO240:=n0_
    have HO244:=n1_
    have HO247:=n2_
    have HO253:=n3_
    have K237:=n4_
    have K250:=n5_
    have K256:=n6_
    have HB:=n7_
    clear n0_ n1_ n2_ n3_ n4_ n5_ n6_ n7_
    replace HO240:=Aside0.mk (Kd.R_drew HO240.out)
    replace HO244:=Aside0.mk (Kd.R_drew HO244.out)
    replace HO247:=Aside0.mk (Kd.R_drew HO247.out)
    replace HO253:=Aside0.mk (Kd.R_drew HO253.out)
    replace K237:=Aside0.mk (bD K237.1)
    replace K250:=Aside0.mk (bD K250.1)
    replace K256:=Aside0.mk (bD K256.1)
    replace HB:=Aside0.mk (bw1 HB.1)
    refine start_ (n:=20) (S:=fun w' => w'.cell? ⟨G250,0,none⟩ = some (.slice Ao50 t245.length co50) ∧ w'.cell? ⟨G250,1,none⟩ = some (.bool t248) ∧ w'.cell? ⟨G256,0,none⟩ = some (.slice Ao56 t251.length co56) ∧ w'.cell? ⟨G256,1,none⟩ = some (.bool t254) ∧ w'.cell? ⟨G237,0,none⟩ = some (.slice A0_0 l0_0.length c0_0) ∧ w'.cell? ⟨G237,1,none⟩ = some (.bool a0_1)) (ds:=[]) #[F,F,F,F,F,F,F,F,F,F,F,F,F,F,F,F,F,F,F,F] (by kernel_rfl) rfl rfl ⟨zk K250 0,zk K250 1,zk K256 0,zk K256 1,zk K237 0,zk K237 1⟩ (fun hHeld => ?_);refine with_tabW beaconlaw17_TableKeeps.tab3 beaconlaw17_TableKeeps.bits3 (fun HT_ HW_ => ?_)
    generalize w60.drew = w61 at HO240 HO244 HO247 HO253 K237 K250 K256 HB hHeld ⊢
    refine pz 0 27 #[T,F,F,F,F,F,F,F,F,F,F,F,F,F,F,F,F,F,F,F] HT_.1 ?_
    refine pz 1 28 #[T,T,F,F,F,F,F,F,F,F,F,F,F,F,F,F,F,F,F,F] HT_.1 ?_
    refine pz 2 29 #[T,T,T,F,F,F,F,F,F,F,F,F,F,F,F,F,F,F,F,F] HT_.1 ?_
    refine pz 3 30 #[T,T,T,T,F,F,F,F,F,F,F,F,F,F,F,F,F,F,F,F] HT_.1 ?_
    refine tz 4 31 #[T,T,T,T,T,F,F,F,F,F,F,F,F,F,F,F,F,F,F,F] HT_.1 HW_.1 hHeld ?_
    refine tz 5 32 #[T,T,T,T,T,T,F,F,F,F,F,F,F,F,F,F,F,F,F,F] HT_.1 HW_.1 hHeld ?_
    refine one_ (i:=6) (N:=some 33) #[T,T,T,T,T,T,T,F,F,F,F,F,F,F,F,F,F,F,F,F] rfl rfl (one_of HT_.out (by kernel_rfl)) (by decide) (fun K hK => ?_)
    refine goes_ Try.func15 (by kernel_rfl) rfl #[.agg #[.slice Ao50 t245.length co50,.bool t248],.agg #[.slice Ao56 t251.length co56,.bool t254]] (by rfl) rfl rfl (by (try simp only [List.map_toArray,List.map_cons,List.map_nil]);first|done|rfl|(simp only [List.length_drop,List.length_take];rfl)) ?_
    with_reducible refine (beaconlaw17_same.calls k _ _ t245 t248 _ _ t251 t254 true _ ?side1 ?side2 ?side3 ?side4 A9.out).mono ?_
    (case side1 => exact zC ((Kd.R_reads' HO247.out).2.2))
    (case side2 => exact (Kd.R_reads' HO247.out).2.1)
    (case side3 => exact zC ((Kd.R_reads' HO253.out).2.2))
    (case side4 => exact (Kd.R_reads' HO253.out).2.1)
    rintro e w62 ⟨rfl,hb⟩
    refine ⟨_,rfl,?_⟩
    replace HO240:=Aside0.mk (Kd.R_below (zR HO240) hb)
    replace HO244:=Aside0.mk (Kd.R_below (zR HO244) hb)
    replace HO247:=Aside0.mk (Kd.R_below (zR HO247) hb)
    replace HO253:=Aside0.mk (Kd.R_below (zR HO253) hb)
    replace K237:=zB K237 hb
    replace K250:=zB K250 hb
    replace K256:=zB K256 hb
    replace HB:=zS HB hb
    (try clear hb)
    (try clear hb2)
    (try clear hk)
    (try clear hi)
    refine hK.out _ _ ⟨zk K250 0,zk K250 1,zk K256 0,zk K256 1,zk K237 0,zk K237 1⟩ (fun hHeld => ?_)
    clear hK K
    refine nz 33 ?_
    refine pz 7 34 #[T,T,T,T,T,T,T,T,F,F,F,F,F,F,F,F,F,F,F,F] HT_.1 ?_
    refine pz 8 35 #[T,T,T,T,T,T,T,T,T,F,F,F,F,F,F,F,F,F,F,F] HT_.1 ?_
    refine tz 9 36 #[T,T,T,T,T,T,T,T,T,T,F,F,F,F,F,F,F,F,F,F] HT_.1 HW_.1 hHeld ?_
    refine tz 12 39 #[T,T,T,T,T,T,T,T,T,T,F,F,T,F,F,F,F,F,F,F] HT_.1 HW_.1 hHeld ?_
    refine one_ (i:=10) (N:=some 37) #[T,T,T,T,T,T,T,T,T,T,T,F,T,F,F,F,F,F,F,F] rfl rfl (one_of HT_.out (by kernel_rfl)) (by decide) (fun K hK => ?_)
    refine goes_ Try.func16 (by kernel_rfl) rfl #[.agg #[.slice A0_0 l0_0.length c0_0,.bool a0_1]] (by rfl) rfl rfl (by (try simp only [List.map_toArray,List.map_cons,List.map_nil]);first|done|rfl|(simp only [List.length_drop,List.length_take];rfl)) ?_
    with_reducible refine (beaconlaw17_own.calls k _ _ l0_0 a0_1 t258 t261 _ ?side1 ?side2 A11.out).mono ?_
    (case side1 => exact zC (Kd.C_below HR0_0.out HB.1))
    (case side2 => exact HC0_0.out)
    rintro e w63 ⟨v259,rfl,ho0,hb⟩
    refine ⟨_,rfl,?_⟩
    have HO260:=Aside0.mk (Kd.R_lower (Kd.R_new' (Kd.R_new' (Kd.R_new' (Kd.R_new' ho0 (Kd.R_lt (zR HO240))) (Kd.R_lt (zR HO244))) (Kd.R_lt (zR HO247))) (Kd.R_lt (zR HO253))) (zW HB))
    replace HO240:=Aside0.mk (Kd.R_elder' (zR HO240) (Kd.R_base ho0) hb)
    replace HO244:=Aside0.mk (Kd.R_elder' (zR HO244) (Kd.R_base ho0) hb)
    replace HO247:=Aside0.mk (Kd.R_elder' (zR HO247) (Kd.R_base ho0) hb)
    replace HO253:=Aside0.mk (Kd.R_elder' (zR HO253) (Kd.R_base ho0) hb)
    replace K237:=zB K237 hb
    replace K250:=zB K250 hb
    replace K256:=zB K256 hb
    replace HB:=zS HB hb
    (try clear hb)
    (try clear hb2)
    (try clear hk)
    (try clear hi)
    (try clear ho0)
    obtain ⟨Ao64,co64,eo64⟩:=Kd.R_slice HO260.out
    (first|subst eo64|(injection eo64 with f1_ f2_ f3_;have f4_:=f1_.symm;have f5_:=f3_.symm;clear f1_ f2_ f3_;subst f4_;subst f5_))
    refine hK.out _ _ ⟨zk K250 0,zk K250 1,zk K256 0,zk K256 1,zk K237 0,zk K237 1⟩ (fun hHeld => ?_)
    clear hK K
    refine nz 37 ?_
    refine one_ (i:=11) (N:=some 38) #[T,T,T,T,T,T,T,T,T,T,T,T,T,F,F,F,F,F,F,F] rfl rfl (one_of HT_.out (by kernel_rfl)) (by decide) (fun K hK => ?_)
    refine goes_ Try.func19 (by kernel_rfl) rfl #[.agg #[.slice Ao64 t258.length co64,.bool t261]] (by rfl) rfl rfl (by (try simp only [List.map_toArray,List.map_cons,List.map_nil]);first|done|rfl|(simp only [List.length_drop,List.length_take];rfl)) ?_
    with_reducible refine (table_Check.calls k _ _ t258 t261 t262 _ ?side1 ?side2 A12.out).mono ?_
    (case side1 => exact zC ((Kd.R_reads' HO260.out).2.2))
    (case side2 => exact (Kd.R_reads' HO260.out).2.1)
    rintro e w65 ⟨rfl,hb⟩
    refine ⟨_,rfl,?_⟩
    replace HO240:=Aside0.mk (Kd.R_below (zR HO240) hb)
    replace HO244:=Aside0.mk (Kd.R_below (zR HO244) hb)
    replace HO247:=Aside0.mk (Kd.R_below (zR HO247) hb)
    replace HO253:=Aside0.mk (Kd.R_below (zR HO253) hb)
    replace HO260:=Aside0.mk (Kd.R_below (zR HO260) hb)
    replace K237:=zB K237 hb
    replace K250:=zB K250 hb
    replace K256:=zB K256 hb
    replace HB:=zS HB hb
    (try clear hb)
    (try clear hb2)
    (try clear hk)
    (try clear hi)
    refine hK.out _ _ ⟨zk K250 0,zk K250 1,zk K256 0,zk K256 1,zk K237 0,zk K237 1⟩ (fun hHeld => ?_)
    clear hK K
    refine nz 38 ?_
    refine one_ (i:=13) (N:=some 40) #[T,T,T,T,T,T,T,T,T,T,T,T,T,T,F,F,F,F,F,F] rfl rfl (one_of HT_.out (by kernel_rfl)) (by decide) (fun K hK => ?_)
    refine goes_ Try.func12 (by kernel_rfl) rfl #[.agg #[.slice A0_0 l0_0.length c0_0,.bool a0_1]] (by rfl) rfl rfl (by (try simp only [List.map_toArray,List.map_cons,List.map_nil]);first|done|rfl|(simp only [List.length_drop,List.length_take];rfl)) ?_
    with_reducible refine (beaconref17_Check.calls k _ _ l0_0 a0_1 t263 _ ?side1 ?side2 A13.out).mono ?_
    (case side1 => exact zC (Kd.C_below HR0_0.out HB.1))
    (case side2 => exact HC0_0.out)
    rintro e w66 ⟨rfl,hb⟩
    refine ⟨_,rfl,?_⟩
    replace HO240:=Aside0.mk (Kd.R_below (zR HO240) hb)
    replace HO244:=Aside0.mk (Kd.R_below (zR HO244) hb)
    replace HO247:=Aside0.mk (Kd.R_below (zR HO247) hb)
    replace HO253:=Aside0.mk (Kd.R_below (zR HO253) hb)
    replace HO260:=Aside0.mk (Kd.R_below (zR HO260) hb)
    replace K237:=zB K237 hb
    replace K250:=zB K250 hb
    replace K256:=zB K256 hb
    replace HB:=zS HB hb
    (try clear hb)
    (try clear hb2)
    (try clear hk)
    (try clear hi)
    refine hK.out _ _ ⟨zk K250 0,zk K250 1,zk K256 0,zk K256 1,zk K237 0,zk K237 1⟩ (fun hHeld => ?_)
    clear hK K
    refine nz 40 ?_
    refine pz 14 41 #[T,T,T,T,T,T,T,T,T,T,T,T,T,T,T,F,F,F,F,F] HT_.1 ?_
    refine pz 15 42 #[T,T,T,T,T,T,T,T,T,T,T,T,T,T,T,T,F,F,F,F] HT_.1 ?_
    refine pz 16 43 #[T,T,T,T,T,T,T,T,T,T,T,T,T,T,T,T,T,F,F,F] HT_.1 ?_
    refine pu 17 44 #[T,T,T,T,T,T,T,T,T,T,T,T,T,T,T,T,T,T,F,F] HT_.1 ?_
    refine pz 18 45 #[T,T,T,T,T,T,T,T,T,T,T,T,T,T,T,T,T,T,T,F] HT_.1 ?_
    refine pz 19 6 #[T,T,T,T,T,T,T,T,T,T,T,T,T,T,T,T,T,T,T,T] HT_.1 ?_
    refine done_ (done_of HT_.out (by kernel_rfl)) ?_
    try go_wp2
    go_ret
    exact ⟨by first|rfl|(simp [errW_none,errW_some] <;> rfl)|(simp [*,errW_none,errW_some] <;> rfl),zH HB⟩
  ·replace c10:=Bool.eq_false_iff.mpr c10
   subst c10
   have H1 : (some false) = some r:=by rw [if_neg (show ¬ (false = true) by decide)] at H;exact H
   clear H
   have H:=H1
   clear H1
   obtain rfl:=Option.some.inj H
   go_enter Try.func4,Try.ntmps4
   try go_wp2_with (first|((with_reducible refine gate_dst (N:=3) rfl ?_);refine zb (N:=3) (cs:=#[.slice A0_0 l0_0.length c0_0,.bool a0_1]) (t:=24) ?_;intro G237 hg w67 hbox hb;have K237:=Aside0.mk (hbox);have GW237:=zN HB hg;have GE237:=zN HB hg;replace HB:=zS HB hb;clear hb hbox hg;have hcz68_0 : w67.cell? ⟨G237,0,none⟩ = some (.slice A0_0 l0_0.length c0_0):=zk K237 0;have hcz68_1 : w67.cell? ⟨G237,1,none⟩ = some (.bool a0_1):=zk K237 1;have hfz68_0:=bF K237.1 0;have hfz68_1:=bF K237.1 1)|((with_reducible refine gate_callee (f:=16) rfl ?_);refine zg (some 13) Try.func16 #[.agg #[.slice A0_0 l0_0.length c0_0,.bool a0_1]] ?_;(with_reducible refine (beaconlaw17_own.calls k _ _ l0_0 a0_1 t238 t241 _ ?side1 ?side2 A4.out).mono ?_);(case side1 => exact zC (Kd.C_below HR0_0.out HB.1));(case side2 => exact HC0_0.out);rintro e w69 ⟨v239,rfl,ho0,hb⟩;refine ⟨_,rfl,?_⟩;have HO240:=Aside0.mk (Kd.R_lower ho0 (zW HB));replace K237:=zB K237 hb;replace HB:=zS HB hb;(try clear hb);(try clear ho0))|((with_reducible refine gate_callee (f:=17) rfl ?_);refine zg (some 15) Try.func17 #[.slice A1 l1.length c1] ?_;(with_reducible refine (beaconref15_Entries.calls k _ _ l1 t242 _ ?side1 ?side2 A5.out).mono ?_);(case side1 => exact zC (Kd.C_below HR1.out HB.1));(case side2 => exact HC1.out);rintro e w70 ⟨v243,rfl,ho0,hb⟩;refine ⟨_,rfl,?_⟩;have HO244:=Aside0.mk (Kd.R_lower (Kd.R_new' ho0 (Kd.R_lt (zR HO240))) (zW HB));replace HO240:=Aside0.mk (Kd.R_elder' (zR HO240) (Kd.R_base ho0) hb);replace K237:=zB K237 hb;replace HB:=zS HB hb;(try clear hb);(try clear ho0);obtain ⟨Ao71,co71,eo71⟩:=Kd.R_slice HO240.out;subst eo71;obtain ⟨Ao72,co72,eo72⟩:=Kd.R_slice HO244.out;subst eo72)|((with_reducible refine gate_callee (f:=14) rfl ?_);refine zg (some 17) Try.func14 #[.agg #[.slice Ao71 t238.length co71,.bool t241],.slice Ao72 t242.length co72,.int .i64 a2] ?_;(with_reducible refine (table_Keep.calls k _ _ t238 t241 _ _ t242 a2 t245 t248 t249 _ ?side1 ?side2 ?side3 ?side4 A6.out).mono ?_);(case side1 => exact zC ((Kd.R_reads' HO240.out).2.2));(case side2 => exact (Kd.R_reads' HO240.out).2.1);(case side3 => exact zC ((Kd.R_reads' HO244.out).2.2));(case side4 => exact (Kd.R_reads' HO244.out).2.1);rintro e w73 ⟨v246,rfl,ho0,hb⟩;refine ⟨_,rfl,?_⟩;have HO247:=Aside0.mk (Kd.R_lower (Kd.R_new' (Kd.R_new' ho0 (Kd.R_lt (zR HO240))) (Kd.R_lt (zR HO244))) (zW HB));replace HO240:=Aside0.mk (Kd.R_elder' (zR HO240) (Kd.R_base ho0) hb);replace HO244:=Aside0.mk (Kd.R_elder' (zR HO244) (Kd.R_base ho0) hb);replace K237:=zB K237 hb;replace HB:=zS HB hb;(try clear hb);(try clear ho0))|((with_reducible refine gate_dst (N:=7) rfl ?_);refine zb (N:=7) (cs:=#[.slice none 0 0,.bool false]) (t:=24) ?_;intro G250 hg w74 hbox hb;replace HO240:=Aside0.mk (Kd.R_below (zR HO240) hb);replace HO244:=Aside0.mk (Kd.R_below (zR HO244) hb);replace HO247:=Aside0.mk (Kd.R_below (zR HO247) hb);have K250:=Aside0.mk (hbox);have GW250:=zN HB hg;have GE250:=zN HB hg;replace HB:=zS HB hb;have NB237_250:=zL K237 hg;have NB250_237:=zG K237 hg;replace K237:=zB K237 hb;clear hb hbox hg;obtain ⟨Ao75,co75,eo75⟩:=Kd.R_slice HO247.out;subst eo75;have hnb76:=NB250_237.1;have hnc76:=NB237_250.1;have hcz77_0 : w74.cell? ⟨G250,0,none⟩ = some (.slice none 0 0):=zk K250 0;have hcz77_1 : w74.cell? ⟨G250,1,none⟩ = some (.bool false):=zk K250 1;have hfz77_0:=bF K250.1 0;have hfz77_1:=bF K250.1 1;have hcz78_0 : w74.cell? ⟨G237,0,none⟩ = some (.slice A0_0 l0_0.length c0_0):=zk K237 0;have hcz78_1 : w74.cell? ⟨G237,1,none⟩ = some (.bool a0_1):=zk K237 1;have hfz78_0:=bF K237.1 0;have hfz78_1:=bF K237.1 1)|((with_reducible refine gate_callee (f:=18) rfl ?_);refine zg (some 24) Try.func18 #[.agg #[.slice A0_0 l0_0.length c0_0,.bool a0_1],.slice A1 l1.length c1,.int .i64 a2] ?_;(with_reducible refine (beaconref17_Keep.calls k _ _ l0_0 a0_1 _ _ l1 a2 t251 t254 t255 _ ?side1 ?side2 ?side3 ?side4 A7.out).mono ?_);(case side1 => exact Kd.C_below HR0_0.out (zH HB));(case side2 => exact HC0_0.out);(case side3 => exact Kd.C_below HR1.out (zH HB));(case side4 => exact HC1.out);rintro e w79 ⟨v252,rfl,ho0,hb⟩;refine ⟨_,rfl,?_⟩;have HO253:=Aside0.mk (Kd.R_lower (Kd.R_new' (Kd.R_new' (Kd.R_new' ho0 (Kd.R_lt (by (with_reducible repeat (first|apply Kd.R_alloc|apply Kd.R_drewN|apply Kd.R_drew));exact (Kd.R_mono (Kd.R_far (p:=⟨G250,1,none⟩) (Kd.R_far (p:=⟨G250,0,none⟩) (Kd.R_types HO240.out K250.1 (by decide)) (fun _ hk => hk.2) (.slice Ao75 t245.length co75)) (fun _ hk => hk.2) (.bool t248)) (fun _ h_ => h_.1))))) (Kd.R_lt (by (with_reducible repeat (first|apply Kd.R_alloc|apply Kd.R_drewN|apply Kd.R_drew));exact (Kd.R_mono (Kd.R_far (p:=⟨G250,1,none⟩) (Kd.R_far (p:=⟨G250,0,none⟩) (Kd.R_types HO244.out K250.1 (by decide)) (fun _ hk => hk.2) (.slice Ao75 t245.length co75)) (fun _ hk => hk.2) (.bool t248)) (fun _ h_ => h_.1))))) (Kd.R_lt (by (with_reducible repeat (first|apply Kd.R_alloc|apply Kd.R_drewN|apply Kd.R_drew));exact (Kd.R_mono (Kd.R_far (p:=⟨G250,1,none⟩) (Kd.R_far (p:=⟨G250,0,none⟩) (Kd.R_types HO247.out K250.1 (by decide)) (fun _ hk => hk.2) (.slice Ao75 t245.length co75)) (fun _ hk => hk.2) (.bool t248)) (fun _ h_ => h_.1))))) (zW HB));replace HO240:=Aside0.mk (Kd.R_elder' (by (with_reducible repeat (first|apply Kd.R_alloc|apply Kd.R_drewN|apply Kd.R_drew));exact (Kd.R_mono (Kd.R_far (p:=⟨G250,1,none⟩) (Kd.R_far (p:=⟨G250,0,none⟩) (Kd.R_types HO240.out K250.1 (by decide)) (fun _ hk => hk.2) (.slice Ao75 t245.length co75)) (fun _ hk => hk.2) (.bool t248)) (fun _ h_ => h_.1))) (Kd.R_base ho0) hb);replace HO244:=Aside0.mk (Kd.R_elder' (by (with_reducible repeat (first|apply Kd.R_alloc|apply Kd.R_drewN|apply Kd.R_drew));exact (Kd.R_mono (Kd.R_far (p:=⟨G250,1,none⟩) (Kd.R_far (p:=⟨G250,0,none⟩) (Kd.R_types HO244.out K250.1 (by decide)) (fun _ hk => hk.2) (.slice Ao75 t245.length co75)) (fun _ hk => hk.2) (.bool t248)) (fun _ h_ => h_.1))) (Kd.R_base ho0) hb);replace HO247:=Aside0.mk (Kd.R_elder' (by (with_reducible repeat (first|apply Kd.R_alloc|apply Kd.R_drewN|apply Kd.R_drew));exact (Kd.R_mono (Kd.R_far (p:=⟨G250,1,none⟩) (Kd.R_far (p:=⟨G250,0,none⟩) (Kd.R_types HO247.out K250.1 (by decide)) (fun _ hk => hk.2) (.slice Ao75 t245.length co75)) (fun _ hk => hk.2) (.bool t248)) (fun _ h_ => h_.1))) (Kd.R_base ho0) hb);replace K237:=zBf K237 hb;replace K250:=zBp (.cells #[.slice Ao75 t245.length co75,.bool t248] 24 (0,0)) K250 hb;replace HB:=zS HB hb;(try clear hb);(try clear ho0))|((with_reducible refine gate_dst (N:=9) rfl ?_);refine zb (N:=9) (cs:=#[.slice none 0 0,.bool false]) (t:=24) ?_;intro G256 hg w80 hbox hb;replace HO240:=Aside0.mk (Kd.R_below (zR HO240) hb);replace HO244:=Aside0.mk (Kd.R_below (zR HO244) hb);replace HO247:=Aside0.mk (Kd.R_below (zR HO247) hb);replace HO253:=Aside0.mk (Kd.R_below (zR HO253) hb);have K256:=Aside0.mk (hbox);have GW256:=zN HB hg;have GE256:=zN HB hg;replace HB:=zS HB hb;have NB237_256:=zL K237 hg;have NB256_237:=zG K237 hg;replace K237:=zB K237 hb;have NB250_256:=zL K250 hg;have NB256_250:=zG K250 hg;replace K250:=zB K250 hb;clear hb hbox hg;obtain ⟨Ao81,co81,eo81⟩:=Kd.R_slice HO253.out;subst eo81;have hnb82:=NB256_237.1;have hnc82:=NB237_256.1;have hnb83:=NB256_250.1;have hnc83:=NB250_256.1;have hcz84_0 : w80.cell? ⟨G256,0,none⟩ = some (.slice none 0 0):=zk K256 0;have hcz84_1 : w80.cell? ⟨G256,1,none⟩ = some (.bool false):=zk K256 1;have hfz84_0:=bF K256.1 0;have hfz84_1:=bF K256.1 1))
   have n0_ : Aside0 (Kd.R k39 39 ((w80.setCell ⟨G256,0,none⟩ (.slice Ao81 t251.length co81)).setCell ⟨G256,1,none⟩ (.bool t254)) w.heap.size (fun k_ => some k_ ≠ (.slice Ao72 t242.length co72 : Value).ownBlock ∧ some k_ ≠ (.slice Ao75 t245.length co75 : Value).ownBlock ∧ some k_ ≠ (.slice Ao81 t251.length co81 : Value).ownBlock) (.slice Ao71 t238.length co71) t238):=⟨by (with_reducible repeat (first|apply Kd.R_alloc|apply Kd.R_drewN|apply Kd.R_drew));exact Kd.R_mono (Kd.R_far (p:=⟨G256,1,none⟩) (Kd.R_far (p:=⟨G256,0,none⟩) (Kd.R_types HO240.out K256.1 (by decide)) (fun _ hk => hk.2) (.slice Ao81 t251.length co81)) (fun _ hk => hk.2) (.bool t254)) (fun _ hk => ⟨hk.1.1.1.2,⟨hk.1.1.2,hk.1.2⟩⟩)⟩
   have n1_ : Aside0 (Kd.R k39 39 ((w80.setCell ⟨G256,0,none⟩ (.slice Ao81 t251.length co81)).setCell ⟨G256,1,none⟩ (.bool t254)) w.heap.size (fun k_ => some k_ ≠ (.slice Ao71 t238.length co71 : Value).ownBlock ∧ some k_ ≠ (.slice Ao75 t245.length co75 : Value).ownBlock ∧ some k_ ≠ (.slice Ao81 t251.length co81 : Value).ownBlock) (.slice Ao72 t242.length co72) t242):=⟨by (with_reducible repeat (first|apply Kd.R_alloc|apply Kd.R_drewN|apply Kd.R_drew));exact Kd.R_mono (Kd.R_far (p:=⟨G256,1,none⟩) (Kd.R_far (p:=⟨G256,0,none⟩) (Kd.R_types HO244.out K256.1 (by decide)) (fun _ hk => hk.2) (.slice Ao81 t251.length co81)) (fun _ hk => hk.2) (.bool t254)) (fun _ hk => ⟨hk.1.1.1.2,⟨hk.1.1.2,hk.1.2⟩⟩)⟩
   have n2_ : Aside0 (Kd.R k39 39 ((w80.setCell ⟨G256,0,none⟩ (.slice Ao81 t251.length co81)).setCell ⟨G256,1,none⟩ (.bool t254)) w.heap.size (fun k_ => some k_ ≠ (.slice Ao71 t238.length co71 : Value).ownBlock ∧ some k_ ≠ (.slice Ao72 t242.length co72 : Value).ownBlock ∧ some k_ ≠ (.slice Ao81 t251.length co81 : Value).ownBlock) (.slice Ao75 t245.length co75) t245):=⟨by (with_reducible repeat (first|apply Kd.R_alloc|apply Kd.R_drewN|apply Kd.R_drew));exact Kd.R_mono (Kd.R_far (p:=⟨G256,1,none⟩) (Kd.R_far (p:=⟨G256,0,none⟩) (Kd.R_types HO247.out K256.1 (by decide)) (fun _ hk => hk.2) (.slice Ao81 t251.length co81)) (fun _ hk => hk.2) (.bool t254)) (fun _ hk => ⟨hk.1.1.1.2,⟨hk.1.1.2,hk.1.2⟩⟩)⟩
   have n3_ : Aside0 (Kd.R k39 39 ((w80.setCell ⟨G256,0,none⟩ (.slice Ao81 t251.length co81)).setCell ⟨G256,1,none⟩ (.bool t254)) w.heap.size (fun k_ => some k_ ≠ (.slice Ao71 t238.length co71 : Value).ownBlock ∧ some k_ ≠ (.slice Ao72 t242.length co72 : Value).ownBlock ∧ some k_ ≠ (.slice Ao75 t245.length co75 : Value).ownBlock) (.slice Ao81 t251.length co81) t251):=⟨by (with_reducible repeat (first|apply Kd.R_alloc|apply Kd.R_drewN|apply Kd.R_drew));exact Kd.R_mono (Kd.R_far (p:=⟨G256,1,none⟩) (Kd.R_far (p:=⟨G256,0,none⟩) (Kd.R_types HO253.out K256.1 (by decide)) (fun _ hk => hk.2) (.slice Ao81 t251.length co81)) (fun _ hk => hk.2) (.bool t254)) (fun _ hk => ⟨hk.1.1.1.2,⟨hk.1.1.2,hk.1.2⟩⟩)⟩
   have n4_ : Aside0 (((w80.setCell ⟨G256,0,none⟩ (.slice Ao81 t251.length co81)).setCell ⟨G256,1,none⟩ (.bool t254)).heap[G237]? = some (.cells #[.slice A0_0 l0_0.length c0_0,.bool a0_1] 24 (0,0))):=⟨zf K237⟩
   have n5_ : Aside0 (((w80.setCell ⟨G256,0,none⟩ (.slice Ao81 t251.length co81)).setCell ⟨G256,1,none⟩ (.bool t254)).heap[G250]? = some (.cells #[.slice Ao75 t245.length co75,.bool t248] 24 (0,0))):=⟨zf K250⟩
   have n6_ : Aside0 (((w80.setCell ⟨G256,0,none⟩ (.slice Ao81 t251.length co81)).setCell ⟨G256,1,none⟩ (.bool t254)).heap[G256]? = some (.cells #[.slice Ao81 t251.length co81,.bool t254] 24 (0,0))):=⟨zF K256⟩
   have n7_ : Aside0 (Below w.heap.size w ((w80.setCell ⟨G256,0,none⟩ (.slice Ao81 t251.length co81)).setCell ⟨G256,1,none⟩ (.bool t254))):=⟨zH HB⟩
   (try clear HO240)
   (try clear HO244)
   (try clear HO247)
   (try clear HO253)
   (try clear K237)
   (try clear K250)
   (try clear K256)
   (try clear HB)
   generalize ((w80.setCell ⟨G256,0,none⟩ (.slice Ao81 t251.length co81)).setCell ⟨G256,1,none⟩ (.bool t254)) = w85 at n0_ n1_ n2_ n3_ n4_ n5_ n6_ n7_ ⊢
   have HO240:=n0_
   have HO244:=n1_
   have HO247:=n2_
   have HO253:=n3_
   have K237:=n4_
   have K250:=n5_
   have K256:=n6_
   have HB:=n7_
   clear n0_ n1_ n2_ n3_ n4_ n5_ n6_ n7_
   replace HO240:=Aside0.mk (Kd.R_drew HO240.out)
   replace HO244:=Aside0.mk (Kd.R_drew HO244.out)
   replace HO247:=Aside0.mk (Kd.R_drew HO247.out)
   replace HO253:=Aside0.mk (Kd.R_drew HO253.out)
   replace K237:=Aside0.mk (bD K237.1)
   replace K250:=Aside0.mk (bD K250.1)
   replace K256:=Aside0.mk (bD K256.1)
   replace HB:=Aside0.mk (bw1 HB.1)
   refine start_ (n:=20) (S:=fun w' => w'.cell? ⟨G250,0,none⟩ = some (.slice Ao75 t245.length co75) ∧ w'.cell? ⟨G250,1,none⟩ = some (.bool t248) ∧ w'.cell? ⟨G256,0,none⟩ = some (.slice Ao81 t251.length co81) ∧ w'.cell? ⟨G256,1,none⟩ = some (.bool t254)) (ds:=[]) #[F,F,F,F,F,F,F,F,F,F,F,F,F,F,F,F,F,F,F,F] (by kernel_rfl) rfl rfl ⟨zk K250 0,zk K250 1,zk K256 0,zk K256 1⟩ (fun hHeld => ?_);refine with_tabW beaconlaw17_TableKeeps.tab3 beaconlaw17_TableKeeps.bits3 (fun HT_ HW_ => ?_)
   generalize w85.drew = w86 at HO240 HO244 HO247 HO253 K237 K250 K256 HB hHeld ⊢
   refine pz 0 27 #[T,F,F,F,F,F,F,F,F,F,F,F,F,F,F,F,F,F,F,F] HT_.1 ?_
   refine pz 1 28 #[T,T,F,F,F,F,F,F,F,F,F,F,F,F,F,F,F,F,F,F] HT_.1 ?_
   refine pz 2 29 #[T,T,T,F,F,F,F,F,F,F,F,F,F,F,F,F,F,F,F,F] HT_.1 ?_
   refine pz 3 30 #[T,T,T,T,F,F,F,F,F,F,F,F,F,F,F,F,F,F,F,F] HT_.1 ?_
   refine tz 4 31 #[T,T,T,T,T,F,F,F,F,F,F,F,F,F,F,F,F,F,F,F] HT_.1 HW_.1 hHeld ?_
   refine tz 5 32 #[T,T,T,T,T,T,F,F,F,F,F,F,F,F,F,F,F,F,F,F] HT_.1 HW_.1 hHeld ?_
   refine one_ (i:=6) (N:=some 33) #[T,T,T,T,T,T,T,F,F,F,F,F,F,F,F,F,F,F,F,F] rfl rfl (one_of HT_.out (by kernel_rfl)) (by decide) (fun K hK => ?_)
   refine goes_ Try.func15 (by kernel_rfl) rfl #[.agg #[.slice Ao75 t245.length co75,.bool t248],.agg #[.slice Ao81 t251.length co81,.bool t254]] (by rfl) rfl rfl (by (try simp only [List.map_toArray,List.map_cons,List.map_nil]);first|done|rfl|(simp only [List.length_drop,List.length_take];rfl)) ?_
   with_reducible refine (beaconlaw17_same.calls k _ _ t245 t248 _ _ t251 t254 false _ ?side1 ?side2 ?side3 ?side4 A9.out).mono ?_
   (case side1 => exact zC ((Kd.R_reads' HO247.out).2.2))
   (case side2 => exact (Kd.R_reads' HO247.out).2.1)
   (case side3 => exact zC ((Kd.R_reads' HO253.out).2.2))
   (case side4 => exact (Kd.R_reads' HO253.out).2.1)
   rintro e w87 ⟨rfl,hb⟩
   refine ⟨_,rfl,?_⟩
   replace HO240:=Aside0.mk (Kd.R_below (zR HO240) hb)
   replace HO244:=Aside0.mk (Kd.R_below (zR HO244) hb)
   replace HO247:=Aside0.mk (Kd.R_below (zR HO247) hb)
   replace HO253:=Aside0.mk (Kd.R_below (zR HO253) hb)
   replace K237:=zB K237 hb
   replace K250:=zB K250 hb
   replace K256:=zB K256 hb
   replace HB:=zS HB hb
   (try clear hb)
   (try clear hb2)
   (try clear hk)
   (try clear hi)
   refine hK.out _ _ ⟨zk K250 0,zk K250 1,zk K256 0,zk K256 1⟩ (fun hHeld => ?_)
   clear hK K
   refine nz 33 ?_
   refine pz 7 34 #[T,T,T,T,T,T,T,T,F,F,F,F,F,F,F,F,F,F,F,F] HT_.1 ?_
   refine pz 8 35 #[T,T,T,T,T,T,T,T,T,F,F,F,F,F,F,F,F,F,F,F] HT_.1 ?_
   refine pu 9 36 #[T,T,T,T,T,T,T,T,T,T,F,F,F,F,F,F,F,F,F,F] HT_.1 ?_
   refine pu 10 37 #[T,T,T,T,T,T,T,T,T,T,T,F,F,F,F,F,F,F,F,F] HT_.1 ?_
   refine pu 11 38 #[T,T,T,T,T,T,T,T,T,T,T,T,F,F,F,F,F,F,F,F] HT_.1 ?_
   refine pu 12 39 #[T,T,T,T,T,T,T,T,T,T,T,T,T,F,F,F,F,F,F,F] HT_.1 ?_
   refine pu 13 40 #[T,T,T,T,T,T,T,T,T,T,T,T,T,T,F,F,F,F,F,F] HT_.1 ?_
   refine pu 14 41 #[T,T,T,T,T,T,T,T,T,T,T,T,T,T,T,F,F,F,F,F] HT_.1 ?_
   refine pz 15 42 #[T,T,T,T,T,T,T,T,T,T,T,T,T,T,T,T,F,F,F,F] HT_.1 ?_
   refine pz 16 43 #[T,T,T,T,T,T,T,T,T,T,T,T,T,T,T,T,T,F,F,F] HT_.1 ?_
   refine pu 17 44 #[T,T,T,T,T,T,T,T,T,T,T,T,T,T,T,T,T,T,F,F] HT_.1 ?_
   refine pz 18 45 #[T,T,T,T,T,T,T,T,T,T,T,T,T,T,T,T,T,T,T,F] HT_.1 ?_
   refine pz 19 6 #[T,T,T,T,T,T,T,T,T,T,T,T,T,T,T,T,T,T,T,T] HT_.1 ?_
   refine done_ (done_of HT_.out (by kernel_rfl)) ?_
   try go_wp2
   go_ret
   exact ⟨by first|rfl|(simp [errW_none,errW_some] <;> rfl)|(simp [*,errW_none,errW_some] <;> rfl),zH HB⟩
 ·rw [if_neg c8] at H
  have c8b0 : (t249 == t255) = false:=beq_eq_false_iff_ne.mpr c8
  have c8b1 : (t249 != t255) = true:=bne_iff_ne.mpr c8
  obtain rfl:=Option.some.inj H
  go_enter Try.func4,Try.ntmps4
  try go_wp2_with (first|((with_reducible refine gate_dst (N:=3) rfl ?_);refine zb (N:=3) (cs:=#[.slice A0_0 l0_0.length c0_0,.bool a0_1]) (t:=24) ?_;intro G237 hg w88 hbox hb;have K237:=Aside0.mk (hbox);have GW237:=zN HB hg;have GE237:=zN HB hg;replace HB:=zS HB hb;clear hb hbox hg;have hcz89_0 : w88.cell? ⟨G237,0,none⟩ = some (.slice A0_0 l0_0.length c0_0):=zk K237 0;have hcz89_1 : w88.cell? ⟨G237,1,none⟩ = some (.bool a0_1):=zk K237 1;have hfz89_0:=bF K237.1 0;have hfz89_1:=bF K237.1 1)|((with_reducible refine gate_callee (f:=16) rfl ?_);refine zg (some 13) Try.func16 #[.agg #[.slice A0_0 l0_0.length c0_0,.bool a0_1]] ?_;(with_reducible refine (beaconlaw17_own.calls k _ _ l0_0 a0_1 t238 t241 _ ?side1 ?side2 A4.out).mono ?_);(case side1 => exact zC (Kd.C_below HR0_0.out HB.1));(case side2 => exact HC0_0.out);rintro e w90 ⟨v239,rfl,ho0,hb⟩;refine ⟨_,rfl,?_⟩;have HO240:=Aside0.mk (Kd.R_lower ho0 (zW HB));replace K237:=zB K237 hb;replace HB:=zS HB hb;(try clear hb);(try clear ho0))|((with_reducible refine gate_callee (f:=17) rfl ?_);refine zg (some 15) Try.func17 #[.slice A1 l1.length c1] ?_;(with_reducible refine (beaconref15_Entries.calls k _ _ l1 t242 _ ?side1 ?side2 A5.out).mono ?_);(case side1 => exact zC (Kd.C_below HR1.out HB.1));(case side2 => exact HC1.out);rintro e w91 ⟨v243,rfl,ho0,hb⟩;refine ⟨_,rfl,?_⟩;have HO244:=Aside0.mk (Kd.R_lower (Kd.R_new' ho0 (Kd.R_lt (zR HO240))) (zW HB));replace HO240:=Aside0.mk (Kd.R_elder' (zR HO240) (Kd.R_base ho0) hb);replace K237:=zB K237 hb;replace HB:=zS HB hb;(try clear hb);(try clear ho0);obtain ⟨Ao92,co92,eo92⟩:=Kd.R_slice HO240.out;subst eo92;obtain ⟨Ao93,co93,eo93⟩:=Kd.R_slice HO244.out;subst eo93)|((with_reducible refine gate_callee (f:=14) rfl ?_);refine zg (some 17) Try.func14 #[.agg #[.slice Ao92 t238.length co92,.bool t241],.slice Ao93 t242.length co93,.int .i64 a2] ?_;(with_reducible refine (table_Keep.calls k _ _ t238 t241 _ _ t242 a2 t245 t248 t249 _ ?side1 ?side2 ?side3 ?side4 A6.out).mono ?_);(case side1 => exact zC ((Kd.R_reads' HO240.out).2.2));(case side2 => exact (Kd.R_reads' HO240.out).2.1);(case side3 => exact zC ((Kd.R_reads' HO244.out).2.2));(case side4 => exact (Kd.R_reads' HO244.out).2.1);rintro e w94 ⟨v246,rfl,ho0,hb⟩;refine ⟨_,rfl,?_⟩;have HO247:=Aside0.mk (Kd.R_lower (Kd.R_new' (Kd.R_new' ho0 (Kd.R_lt (zR HO240))) (Kd.R_lt (zR HO244))) (zW HB));replace HO240:=Aside0.mk (Kd.R_elder' (zR HO240) (Kd.R_base ho0) hb);replace HO244:=Aside0.mk (Kd.R_elder' (zR HO244) (Kd.R_base ho0) hb);replace K237:=zB K237 hb;replace HB:=zS HB hb;(try clear hb);(try clear ho0))|((with_reducible refine gate_dst (N:=7) rfl ?_);refine zb (N:=7) (cs:=#[.slice none 0 0,.bool false]) (t:=24) ?_;intro G250 hg w95 hbox hb;replace HO240:=Aside0.mk (Kd.R_below (zR HO240) hb);replace HO244:=Aside0.mk (Kd.R_below (zR HO244) hb);replace HO247:=Aside0.mk (Kd.R_below (zR HO247) hb);have K250:=Aside0.mk (hbox);have GW250:=zN HB hg;have GE250:=zN HB hg;replace HB:=zS HB hb;have NB237_250:=zL K237 hg;have NB250_237:=zG K237 hg;replace K237:=zB K237 hb;clear hb hbox hg;obtain ⟨Ao96,co96,eo96⟩:=Kd.R_slice HO247.out;subst eo96;have hnb97:=NB250_237.1;have hnc97:=NB237_250.1;have hcz98_0 : w95.cell? ⟨G250,0,none⟩ = some (.slice none 0 0):=zk K250 0;have hcz98_1 : w95.cell? ⟨G250,1,none⟩ = some (.bool false):=zk K250 1;have hfz98_0:=bF K250.1 0;have hfz98_1:=bF K250.1 1;have hcz99_0 : w95.cell? ⟨G237,0,none⟩ = some (.slice A0_0 l0_0.length c0_0):=zk K237 0;have hcz99_1 : w95.cell? ⟨G237,1,none⟩ = some (.bool a0_1):=zk K237 1;have hfz99_0:=bF K237.1 0;have hfz99_1:=bF K237.1 1)|((with_reducible refine gate_callee (f:=18) rfl ?_);refine zg (some 24) Try.func18 #[.agg #[.slice A0_0 l0_0.length c0_0,.bool a0_1],.slice A1 l1.length c1,.int .i64 a2] ?_;(with_reducible refine (beaconref17_Keep.calls k _ _ l0_0 a0_1 _ _ l1 a2 t251 t254 t255 _ ?side1 ?side2 ?side3 ?side4 A7.out).mono ?_);(case side1 => exact Kd.C_below HR0_0.out (zH HB));(case side2 => exact HC0_0.out);(case side3 => exact Kd.C_below HR1.out (zH HB));(case side4 => exact HC1.out);rintro e w100 ⟨v252,rfl,ho0,hb⟩;refine ⟨_,rfl,?_⟩;have HO253:=Aside0.mk (Kd.R_lower (Kd.R_new' (Kd.R_new' (Kd.R_new' ho0 (Kd.R_lt (by (with_reducible repeat (first|apply Kd.R_alloc|apply Kd.R_drewN|apply Kd.R_drew));exact (Kd.R_mono (Kd.R_far (p:=⟨G250,1,none⟩) (Kd.R_far (p:=⟨G250,0,none⟩) (Kd.R_types HO240.out K250.1 (by decide)) (fun _ hk => hk.2) (.slice Ao96 t245.length co96)) (fun _ hk => hk.2) (.bool t248)) (fun _ h_ => h_.1))))) (Kd.R_lt (by (with_reducible repeat (first|apply Kd.R_alloc|apply Kd.R_drewN|apply Kd.R_drew));exact (Kd.R_mono (Kd.R_far (p:=⟨G250,1,none⟩) (Kd.R_far (p:=⟨G250,0,none⟩) (Kd.R_types HO244.out K250.1 (by decide)) (fun _ hk => hk.2) (.slice Ao96 t245.length co96)) (fun _ hk => hk.2) (.bool t248)) (fun _ h_ => h_.1))))) (Kd.R_lt (by (with_reducible repeat (first|apply Kd.R_alloc|apply Kd.R_drewN|apply Kd.R_drew));exact (Kd.R_mono (Kd.R_far (p:=⟨G250,1,none⟩) (Kd.R_far (p:=⟨G250,0,none⟩) (Kd.R_types HO247.out K250.1 (by decide)) (fun _ hk => hk.2) (.slice Ao96 t245.length co96)) (fun _ hk => hk.2) (.bool t248)) (fun _ h_ => h_.1))))) (zW HB));replace HO240:=Aside0.mk (Kd.R_elder' (by (with_reducible repeat (first|apply Kd.R_alloc|apply Kd.R_drewN|apply Kd.R_drew));exact (Kd.R_mono (Kd.R_far (p:=⟨G250,1,none⟩) (Kd.R_far (p:=⟨G250,0,none⟩) (Kd.R_types HO240.out K250.1 (by decide)) (fun _ hk => hk.2) (.slice Ao96 t245.length co96)) (fun _ hk => hk.2) (.bool t248)) (fun _ h_ => h_.1))) (Kd.R_base ho0) hb);replace HO244:=Aside0.mk (Kd.R_elder' (by (with_reducible repeat (first|apply Kd.R_alloc|apply Kd.R_drewN|apply Kd.R_drew));exact (Kd.R_mono (Kd.R_far (p:=⟨G250,1,none⟩) (Kd.R_far (p:=⟨G250,0,none⟩) (Kd.R_types HO244.out K250.1 (by decide)) (fun _ hk => hk.2) (.slice Ao96 t245.length co96)) (fun _ hk => hk.2) (.bool t248)) (fun _ h_ => h_.1))) (Kd.R_base ho0) hb);replace HO247:=Aside0.mk (Kd.R_elder' (by (with_reducible repeat (first|apply Kd.R_alloc|apply Kd.R_drewN|apply Kd.R_drew));exact (Kd.R_mono (Kd.R_far (p:=⟨G250,1,none⟩) (Kd.R_far (p:=⟨G250,0,none⟩) (Kd.R_types HO247.out K250.1 (by decide)) (fun _ hk => hk.2) (.slice Ao96 t245.length co96)) (fun _ hk => hk.2) (.bool t248)) (fun _ h_ => h_.1))) (Kd.R_base ho0) hb);replace K237:=zBf K237 hb;replace K250:=zBp (.cells #[.slice Ao96 t245.length co96,.bool t248] 24 (0,0)) K250 hb;replace HB:=zS HB hb;(try clear hb);(try clear ho0))|((with_reducible refine gate_dst (N:=9) rfl ?_);refine zb (N:=9) (cs:=#[.slice none 0 0,.bool false]) (t:=24) ?_;intro G256 hg w101 hbox hb;replace HO240:=Aside0.mk (Kd.R_below (zR HO240) hb);replace HO244:=Aside0.mk (Kd.R_below (zR HO244) hb);replace HO247:=Aside0.mk (Kd.R_below (zR HO247) hb);replace HO253:=Aside0.mk (Kd.R_below (zR HO253) hb);have K256:=Aside0.mk (hbox);have GW256:=zN HB hg;have GE256:=zN HB hg;replace HB:=zS HB hb;have NB237_256:=zL K237 hg;have NB256_237:=zG K237 hg;replace K237:=zB K237 hb;have NB250_256:=zL K250 hg;have NB256_250:=zG K250 hg;replace K250:=zB K250 hb;clear hb hbox hg;obtain ⟨Ao102,co102,eo102⟩:=Kd.R_slice HO253.out;subst eo102;have hnb103:=NB256_237.1;have hnc103:=NB237_256.1;have hnb104:=NB256_250.1;have hnc104:=NB250_256.1;have hcz105_0 : w101.cell? ⟨G256,0,none⟩ = some (.slice none 0 0):=zk K256 0;have hcz105_1 : w101.cell? ⟨G256,1,none⟩ = some (.bool false):=zk K256 1;have hfz105_0:=bF K256.1 0;have hfz105_1:=bF K256.1 1))
  have n0_ : Aside0 (Kd.R k39 39 ((w101.setCell ⟨G256,0,none⟩ (.slice Ao102 t251.length co102)).setCell ⟨G256,1,none⟩ (.bool t254)) w.heap.size (fun k_ => some k_ ≠ (.slice Ao93 t242.length co93 : Value).ownBlock ∧ some k_ ≠ (.slice Ao96 t245.length co96 : Value).ownBlock ∧ some k_ ≠ (.slice Ao102 t251.length co102 : Value).ownBlock) (.slice Ao92 t238.length co92) t238):=⟨by (with_reducible repeat (first|apply Kd.R_alloc|apply Kd.R_drewN|apply Kd.R_drew));exact Kd.R_mono (Kd.R_far (p:=⟨G256,1,none⟩) (Kd.R_far (p:=⟨G256,0,none⟩) (Kd.R_types HO240.out K256.1 (by decide)) (fun _ hk => hk.2) (.slice Ao102 t251.length co102)) (fun _ hk => hk.2) (.bool t254)) (fun _ hk => ⟨hk.1.1.1.2,⟨hk.1.1.2,hk.1.2⟩⟩)⟩
  have n1_ : Aside0 (Kd.R k39 39 ((w101.setCell ⟨G256,0,none⟩ (.slice Ao102 t251.length co102)).setCell ⟨G256,1,none⟩ (.bool t254)) w.heap.size (fun k_ => some k_ ≠ (.slice Ao92 t238.length co92 : Value).ownBlock ∧ some k_ ≠ (.slice Ao96 t245.length co96 : Value).ownBlock ∧ some k_ ≠ (.slice Ao102 t251.length co102 : Value).ownBlock) (.slice Ao93 t242.length co93) t242):=⟨by (with_reducible repeat (first|apply Kd.R_alloc|apply Kd.R_drewN|apply Kd.R_drew));exact Kd.R_mono (Kd.R_far (p:=⟨G256,1,none⟩) (Kd.R_far (p:=⟨G256,0,none⟩) (Kd.R_types HO244.out K256.1 (by decide)) (fun _ hk => hk.2) (.slice Ao102 t251.length co102)) (fun _ hk => hk.2) (.bool t254)) (fun _ hk => ⟨hk.1.1.1.2,⟨hk.1.1.2,hk.1.2⟩⟩)⟩
  have n2_ : Aside0 (Kd.R k39 39 ((w101.setCell ⟨G256,0,none⟩ (.slice Ao102 t251.length co102)).setCell ⟨G256,1,none⟩ (.bool t254)) w.heap.size (fun k_ => some k_ ≠ (.slice Ao92 t238.length co92 : Value).ownBlock ∧ some k_ ≠ (.slice Ao93 t242.length co93 : Value).ownBlock ∧ some k_ ≠ (.slice Ao102 t251.length co102 : Value).ownBlock) (.slice Ao96 t245.length co96) t245):=⟨by (with_reducible repeat (first|apply Kd.R_alloc|apply Kd.R_drewN|apply Kd.R_drew));exact Kd.R_mono (Kd.R_far (p:=⟨G256,1,none⟩) (Kd.R_far (p:=⟨G256,0,none⟩) (Kd.R_types HO247.out K256.1 (by decide)) (fun _ hk => hk.2) (.slice Ao102 t251.length co102)) (fun _ hk => hk.2) (.bool t254)) (fun _ hk => ⟨hk.1.1.1.2,⟨hk.1.1.2,hk.1.2⟩⟩)⟩
  have n3_ : Aside0 (Kd.R k39 39 ((w101.setCell ⟨G256,0,none⟩ (.slice Ao102 t251.length co102)).setCell ⟨G256,1,none⟩ (.bool t254)) w.heap.size (fun k_ => some k_ ≠ (.slice Ao92 t238.length co92 : Value).ownBlock ∧ some k_ ≠ (.slice Ao93 t242.length co93 : Value).ownBlock ∧ some k_ ≠ (.slice Ao96 t245.length co96 : Value).ownBlock) (.slice Ao102 t251.length co102) t251):=⟨by (with_reducible repeat (first|apply Kd.R_alloc|apply Kd.R_drewN|apply Kd.R_drew));exact Kd.R_mono (Kd.R_far (p:=⟨G256,1,none⟩) (Kd.R_far (p:=⟨G256,0,none⟩) (Kd.R_types HO253.out K256.1 (by decide)) (fun _ hk => hk.2) (.slice Ao102 t251.length co102)) (fun _ hk => hk.2) (.bool t254)) (fun _ hk => ⟨hk.1.1.1.2,⟨hk.1.1.2,hk.1.2⟩⟩)⟩
  have n4_ : Aside0 (((w101.setCell ⟨G256,0,none⟩ (.slice Ao102 t251.length co102)).setCell ⟨G256,1,none⟩ (.bool t254)).heap[G237]? = some (.cells #[.slice A0_0 l0_0.length c0_0,.bool a0_1] 24 (0,0))):=⟨zf K237⟩
  have n5_ : Aside0 (((w101.setCell ⟨G256,0,none⟩ (.slice Ao102 t251.length co102)).setCell ⟨G256,1,none⟩ (.bool t254)).heap[G250]? = some (.cells #[.slice Ao96 t245.length co96,.bool t248] 24 (0,0))):=⟨zf K250⟩
  have n6_ : Aside0 (((w101.setCell ⟨G256,0,none⟩ (.slice Ao102 t251.length co102)).setCell ⟨G256,1,none⟩ (.bool t254)).heap[G256]? = some (.cells #[.slice Ao102 t251.length co102,.bool t254] 24 (0,0))):=⟨zF K256⟩
  have n7_ : Aside0 (Below w.heap.size w ((w101.setCell ⟨G256,0,none⟩ (.slice Ao102 t251.length co102)).setCell ⟨G256,1,none⟩ (.bool t254))):=⟨zH HB⟩
  (try clear HO240)
  (try clear HO244)
  (try clear HO247)
  (try clear HO253)
  (try clear K237)
  (try clear K250)
  (try clear K256)
  (try clear HB)
  generalize ((w101.setCell ⟨G256,0,none⟩ (.slice Ao102 t251.length co102)).setCell ⟨G256,1,none⟩ (.bool t254)) = w106 at n0_ n1_ n2_ n3_ n4_ n5_ n6_ n7_ ⊢
  have HO240:=n0_
  have HO244:=n1_
  have HO247:=n2_
  have HO253:=n3_
  have K237:=n4_
  have K250:=n5_
  have K256:=n6_
  have HB:=n7_
  clear n0_ n1_ n2_ n3_ n4_ n5_ n6_ n7_
  replace HO240:=Aside0.mk (Kd.R_drew HO240.out)
  replace HO244:=Aside0.mk (Kd.R_drew HO244.out)
  replace HO247:=Aside0.mk (Kd.R_drew HO247.out)
  replace HO253:=Aside0.mk (Kd.R_drew HO253.out)
  replace K237:=Aside0.mk (bD K237.1)
  replace K250:=Aside0.mk (bD K250.1)
  replace K256:=Aside0.mk (bD K256.1)
  replace HB:=Aside0.mk (bw1 HB.1)
  refine start_ (n:=20) (S:=fun w' => True) (ds:=[]) #[F,F,F,F,F,F,F,F,F,F,F,F,F,F,F,F,F,F,F,F] (by kernel_rfl) rfl rfl trivial (fun hHeld => ?_);refine with_tabW beaconlaw17_TableKeeps.tab3 beaconlaw17_TableKeeps.bits3 (fun HT_ HW_ => ?_)
  generalize w106.drew = w107 at HO240 HO244 HO247 HO253 K237 K250 K256 HB hHeld ⊢
  refine pz 0 27 #[T,F,F,F,F,F,F,F,F,F,F,F,F,F,F,F,F,F,F,F] HT_.1 ?_
  refine pz 1 28 #[T,T,F,F,F,F,F,F,F,F,F,F,F,F,F,F,F,F,F,F] HT_.1 ?_
  refine pz 2 29 #[T,T,T,F,F,F,F,F,F,F,F,F,F,F,F,F,F,F,F,F] HT_.1 ?_
  refine pz 3 30 #[T,T,T,T,F,F,F,F,F,F,F,F,F,F,F,F,F,F,F,F] HT_.1 ?_
  refine pu 4 31 #[T,T,T,T,T,F,F,F,F,F,F,F,F,F,F,F,F,F,F,F] HT_.1 ?_
  refine pu 5 32 #[T,T,T,T,T,T,F,F,F,F,F,F,F,F,F,F,F,F,F,F] HT_.1 ?_
  refine pu 6 33 #[T,T,T,T,T,T,T,F,F,F,F,F,F,F,F,F,F,F,F,F] HT_.1 ?_
  refine pz 7 34 #[T,T,T,T,T,T,T,T,F,F,F,F,F,F,F,F,F,F,F,F] HT_.1 ?_
  refine pz 8 35 #[T,T,T,T,T,T,T,T,T,F,F,F,F,F,F,F,F,F,F,F] HT_.1 ?_
  refine pu 9 36 #[T,T,T,T,T,T,T,T,T,T,F,F,F,F,F,F,F,F,F,F] HT_.1 ?_
  refine pu 10 37 #[T,T,T,T,T,T,T,T,T,T,T,F,F,F,F,F,F,F,F,F] HT_.1 ?_
  refine pu 11 38 #[T,T,T,T,T,T,T,T,T,T,T,T,F,F,F,F,F,F,F,F] HT_.1 ?_
  refine pu 12 39 #[T,T,T,T,T,T,T,T,T,T,T,T,T,F,F,F,F,F,F,F] HT_.1 ?_
  refine pu 13 40 #[T,T,T,T,T,T,T,T,T,T,T,T,T,T,F,F,F,F,F,F] HT_.1 ?_
  refine pu 14 41 #[T,T,T,T,T,T,T,T,T,T,T,T,T,T,T,F,F,F,F,F] HT_.1 ?_
  refine pz 15 42 #[T,T,T,T,T,T,T,T,T,T,T,T,T,T,T,T,F,F,F,F] HT_.1 ?_
  refine pz 16 43 #[T,T,T,T,T,T,T,T,T,T,T,T,T,T,T,T,T,F,F,F] HT_.1 ?_
  refine pu 17 44 #[T,T,T,T,T,T,T,T,T,T,T,T,T,T,T,T,T,T,F,F] HT_.1 ?_
  refine pz 18 45 #[T,T,T,T,T,T,T,T,T,T,T,T,T,T,T,T,T,T,T,F] HT_.1 ?_
  refine pz 19 6 #[T,T,T,T,T,T,T,T,T,T,T,T,T,T,T,T,T,T,T,T] HT_.1 ?_
  refine done_ (done_of HT_.out (by kernel_rfl)) ?_
  try go_wp2
  go_ret
  exact ⟨by first|rfl|(simp [errW_none,errW_some] <;> rfl)|(simp [*,errW_none,errW_some] <;> rfl),zH HB⟩

end Go.Proofs.Ytgmjlhpigfaicaa.XA
