/- Go functions of this seat as Lean functions, with proofs that the calls come to them. (Written by xprint.py, a program of this session, over the kit's print.) -/
import Derived.Test.YtgmjlhpigfaicaaXAx0
import Derived.Test.YtgmjlhpigfaicaaXAx5
import Derived.Test.YtgmjlhpigfaicaaXAx6
import Derived.Test.YtgmjlhpigfaicaaXAx9
import Derived.Test.YtgmjlhpigfaicaaXAx12
import Derived.Test.YtgmjlhpigfaicaaXAx13
import Derived.Test.YtgmjlhpigfaicaaXAx16
namespace Go.Proofs.Ytgmjlhpigfaicaa.XA
open Go.RowKit Go.Proofs.YtgmjlhpigfaicaaW.PrintWords Go.Proofs.YtgmjlhpigfaicaaW.PrintLast Go.Proofs.YtgmjlhpigfaicaaW.PrintMore
attribute [local go_sem] max2_int min2_int max_two min_two max_three min_three max_four min_four   -- for this text's walks alone
set_option linter.unusedVariables false
set_option linter.unusedSimpArgs false
open List renaming setIfInBounds_toArray → xA, set_cons_zero → xB, set_cons_succ → xC
open Go.Proofs.YtgmjlhpigfaicaaW.PrintWords renaming blk_drewN → bN, blk_drew → bD, blk_alloc → bA, below_set → bS, blk_frozen → bF, blk_cell → bC, cell_far → cF, blk_far → bZ, blk_below → bB, pw_below_drewN → bwN, below_drew1 → bw1, below_alloc → bwA
open Go.Proofs.YtgmjlhpigfaicaaW.PrintZ
open Bool renaming true → T,false → F

/-! ### beaconlaw17_TableOwn: function 6 -/
mutual
def beaconlaw17_TableOwn.l0 : Nat → List (S39) → Int → List (S39) → Int → List (S39) → Bool → List (S39) → Bool → Option (Bool)
 | 0, _, _, _, _, _, _, _, _ => none
 | k + 1, x1, x2, x8, x9, x274000, x274001, x282000, x282001 => if x9 < 2 then ((table_Keep.f k x282000 x282001 x8 x2).bind fun bt285 => ((beaconref17_Keep.f k x274000 x274001 x1 x2).bind fun bt291 => (if bt285.2.2 = bt291.2.2 then ((beaconlaw17_same.f k bt285.1 bt285.2.1 bt291.1 bt291.2.1).bind fun t297 => (beaconlaw17_TableOwn.j1 k x1 x2 x8 x9 (!t297) x274000 x274001 x282000 x282001 bt285.1 bt285.2.1)) else (beaconlaw17_TableOwn.j1 k x1 x2 x8 x9 true x274000 x274001 x282000 x282001 bt285.1 bt285.2.1)))) else ((beaconlaw17_same.f k x282000 x282001 x274000 x274001).bind fun t282 => (if t282 = true then ((beaconref09_SameEntries.f k x8 x1).bind fun t283 => (if t283 = true then ((beaconlaw17_awake.f k).bind fun t284 => (some t284)) else (some false))) else (some false)))
def beaconlaw17_TableOwn.j1 : Nat → List (S39) → Int → List (S39) → Int → Bool → List (S39) → Bool → List (S39) → Bool → List (S39) → Bool → Option (Bool)
 | 0, _, _, _, _, _, _, _, _, _, _, _ => none
 | k + 1, x1, x2, x8, x9, x47, x274000, x274001, x282000, x282001, x291000, x291001 => if x47 = true then (some false) else (beaconlaw17_TableOwn.l1 k x1 x2 x8 x9 0 x274000 x274001 x282000 x282001 x291000 x291001)
def beaconlaw17_TableOwn.l1 : Nat → List (S39) → Int → List (S39) → Int → Int → List (S39) → Bool → List (S39) → Bool → List (S39) → Bool → Option (Bool)
 | 0, _, _, _, _, _, _, _, _, _, _, _ => none
 | k + 1, x1, x2, x8, x9, x14, x274000, x274001, x282000, x282001, x291000, x291001 => if x14 < (x291000.length : Int) then (if 0 ≤ x14 then (beaconlaw17_TableOwn.l1 k x1 x2 x8 x9 (wrap64 (x14 + 1)) x274000 x274001 x282000 x282001 (x291000.set (x14 : Int).toNat (⟨(-7), (rd_T39 x291000 x14).f1, (rd_T39 x291000 x14).f2, (rd_T39 x291000 x14).f3, (rd_T39 x291000 x14).f4, (rd_T39 x291000 x14).f5⟩ : S39)) x291001) else (none)) else ((table_Marks.f k x282000 x282001).bind fun t299 => (beaconlaw17_TableOwn.l2 k x1 x2 x8 x9 t299 0 x274000 x274001 x282000 x282001))
def beaconlaw17_TableOwn.l2 : Nat → List (S39) → Int → List (S39) → Int → List Int → Int → List (S39) → Bool → List (S39) → Bool → Option (Bool)
 | 0, _, _, _, _, _, _, _, _, _, _ => none
 | k + 1, x1, x2, x8, x9, x15, x16, x274000, x274001, x282000, x282001 => if x16 < (x15.length : Int) then (if 0 ≤ x16 then (beaconlaw17_TableOwn.l2 k x1 x2 x8 x9 (x15.set (x16 : Int).toNat (-7)) (wrap64 (x16 + 1)) x274000 x274001 x282000 x282001) else (none)) else (beaconlaw17_TableOwn.l0 k x1 x2 x8 (wrap64 (x9 + 1)) x274000 x274001 x282000 x282001)
end
def beaconlaw17_TableOwn.f (k : Nat) (l0_0 : List (S39)) (a0_1 : Bool) (l1 : List (S39)) (a2 : Int) : Option (Bool) := (beaconlaw17_own.f k l0_0 a0_1).bind fun bt274 => ((beaconref15_Entries.f k l1).bind fun t278 => (beaconlaw17_TableOwn.l0 k l1 a2 t278 0 l0_0 a0_1 bt274.1 bt274.2))
theorem beaconlaw17_TableOwn.mono_l : ∀ k, (∀ y0 y1 y2 y3 y4 y5 y6 y7, LeO (beaconlaw17_TableOwn.l0 k y0 y1 y2 y3 y4 y5 y6 y7) (beaconlaw17_TableOwn.l0 (k + 1) y0 y1 y2 y3 y4 y5 y6 y7)) ∧ (∀ y0 y1 y2 y3 y4 y5 y6 y7 y8 y9 y10, LeO (beaconlaw17_TableOwn.j1 k y0 y1 y2 y3 y4 y5 y6 y7 y8 y9 y10) (beaconlaw17_TableOwn.j1 (k + 1) y0 y1 y2 y3 y4 y5 y6 y7 y8 y9 y10)) ∧ (∀ y0 y1 y2 y3 y4 y5 y6 y7 y8 y9 y10, LeO (beaconlaw17_TableOwn.l1 k y0 y1 y2 y3 y4 y5 y6 y7 y8 y9 y10) (beaconlaw17_TableOwn.l1 (k + 1) y0 y1 y2 y3 y4 y5 y6 y7 y8 y9 y10)) ∧ (∀ y0 y1 y2 y3 y4 y5 y6 y7 y8 y9, LeO (beaconlaw17_TableOwn.l2 k y0 y1 y2 y3 y4 y5 y6 y7 y8 y9) (beaconlaw17_TableOwn.l2 (k + 1) y0 y1 y2 y3 y4 y5 y6 y7 y8 y9))
 | 0 => ⟨fun _ _ _ _ _ _ _ _ r h => by simp [beaconlaw17_TableOwn.l0] at h, fun _ _ _ _ _ _ _ _ _ _ _ r h => by simp [beaconlaw17_TableOwn.j1] at h, fun _ _ _ _ _ _ _ _ _ _ _ r h => by simp [beaconlaw17_TableOwn.l1] at h, fun _ _ _ _ _ _ _ _ _ _ r h => by simp [beaconlaw17_TableOwn.l2] at h⟩
 | k + 1 => by
  obtain ⟨ih0,ih1,ih2,ih3⟩:=beaconlaw17_TableOwn.mono_l k
  refine ⟨?_,?_,?_,?_⟩
  ·intro y0 y1 y2 y3 y4 y5 y6 y7
   unfold beaconlaw17_TableOwn.l0
   repeat' first
   | (with_reducible exact ih0 _ _ _ _ _ _ _ _)
   | (with_reducible exact ih1 _ _ _ _ _ _ _ _ _ _ _)
   | (with_reducible exact ih2 _ _ _ _ _ _ _ _ _ _ _)
   | (with_reducible exact ih3 _ _ _ _ _ _ _ _ _ _)
   | (with_reducible exact beaconlaw17_awake.mono _)
   | (with_reducible exact beaconlaw17_own.mono _ _ _)
   | (with_reducible exact beaconlaw17_same.mono _ _ _ _ _)
   | (with_reducible exact beaconref09_SameEntries.mono _ _ _)
   | (with_reducible exact beaconref15_Entries.mono _ _)
   | (with_reducible exact beaconref17_Keep.mono _ _ _ _ _)
   | (with_reducible exact table_Keep.mono _ _ _ _ _)
   | (with_reducible exact table_Marks.mono _ _ _)
   | (with_reducible exact LeO.refl _)
   | (with_reducible exact LeO.none _)
   | (with_reducible refine LeO.ite ?_ ?_)
   | (with_reducible refine LeO.bind ?_ (fun _ => ?_))
   | exact ih0 _ _ _ _ _ _ _ _
   | exact ih1 _ _ _ _ _ _ _ _ _ _ _
   | exact ih2 _ _ _ _ _ _ _ _ _ _ _
   | exact ih3 _ _ _ _ _ _ _ _ _ _
   | exact beaconlaw17_awake.mono _
   | exact beaconlaw17_own.mono _ _ _
   | exact beaconlaw17_same.mono _ _ _ _ _
   | exact beaconref09_SameEntries.mono _ _ _
   | exact beaconref15_Entries.mono _ _
   | exact beaconref17_Keep.mono _ _ _ _ _
   | exact table_Keep.mono _ _ _ _ _
   | exact table_Marks.mono _ _ _
   | exact LeO.none _
   | refine LeO.ite ?_ ?_
   | refine LeO.bind ?_ (fun _ => ?_)
  ·intro y0 y1 y2 y3 y4 y5 y6 y7 y8 y9 y10
   unfold beaconlaw17_TableOwn.j1
   repeat' first
   | (with_reducible exact ih0 _ _ _ _ _ _ _ _)
   | (with_reducible exact ih1 _ _ _ _ _ _ _ _ _ _ _)
   | (with_reducible exact ih2 _ _ _ _ _ _ _ _ _ _ _)
   | (with_reducible exact ih3 _ _ _ _ _ _ _ _ _ _)
   | (with_reducible exact beaconlaw17_awake.mono _)
   | (with_reducible exact beaconlaw17_own.mono _ _ _)
   | (with_reducible exact beaconlaw17_same.mono _ _ _ _ _)
   | (with_reducible exact beaconref09_SameEntries.mono _ _ _)
   | (with_reducible exact beaconref15_Entries.mono _ _)
   | (with_reducible exact beaconref17_Keep.mono _ _ _ _ _)
   | (with_reducible exact table_Keep.mono _ _ _ _ _)
   | (with_reducible exact table_Marks.mono _ _ _)
   | (with_reducible exact LeO.refl _)
   | (with_reducible exact LeO.none _)
   | (with_reducible refine LeO.ite ?_ ?_)
   | (with_reducible refine LeO.bind ?_ (fun _ => ?_))
   | exact ih0 _ _ _ _ _ _ _ _
   | exact ih1 _ _ _ _ _ _ _ _ _ _ _
   | exact ih2 _ _ _ _ _ _ _ _ _ _ _
   | exact ih3 _ _ _ _ _ _ _ _ _ _
   | exact beaconlaw17_awake.mono _
   | exact beaconlaw17_own.mono _ _ _
   | exact beaconlaw17_same.mono _ _ _ _ _
   | exact beaconref09_SameEntries.mono _ _ _
   | exact beaconref15_Entries.mono _ _
   | exact beaconref17_Keep.mono _ _ _ _ _
   | exact table_Keep.mono _ _ _ _ _
   | exact table_Marks.mono _ _ _
   | exact LeO.none _
   | refine LeO.ite ?_ ?_
   | refine LeO.bind ?_ (fun _ => ?_)
  ·intro y0 y1 y2 y3 y4 y5 y6 y7 y8 y9 y10
   unfold beaconlaw17_TableOwn.l1
   repeat' first
   | (with_reducible exact ih0 _ _ _ _ _ _ _ _)
   | (with_reducible exact ih1 _ _ _ _ _ _ _ _ _ _ _)
   | (with_reducible exact ih2 _ _ _ _ _ _ _ _ _ _ _)
   | (with_reducible exact ih3 _ _ _ _ _ _ _ _ _ _)
   | (with_reducible exact beaconlaw17_awake.mono _)
   | (with_reducible exact beaconlaw17_own.mono _ _ _)
   | (with_reducible exact beaconlaw17_same.mono _ _ _ _ _)
   | (with_reducible exact beaconref09_SameEntries.mono _ _ _)
   | (with_reducible exact beaconref15_Entries.mono _ _)
   | (with_reducible exact beaconref17_Keep.mono _ _ _ _ _)
   | (with_reducible exact table_Keep.mono _ _ _ _ _)
   | (with_reducible exact table_Marks.mono _ _ _)
   | (with_reducible exact LeO.refl _)
   | (with_reducible exact LeO.none _)
   | (with_reducible refine LeO.ite ?_ ?_)
   | (with_reducible refine LeO.bind ?_ (fun _ => ?_))
   | exact ih0 _ _ _ _ _ _ _ _
   | exact ih1 _ _ _ _ _ _ _ _ _ _ _
   | exact ih2 _ _ _ _ _ _ _ _ _ _ _
   | exact ih3 _ _ _ _ _ _ _ _ _ _
   | exact beaconlaw17_awake.mono _
   | exact beaconlaw17_own.mono _ _ _
   | exact beaconlaw17_same.mono _ _ _ _ _
   | exact beaconref09_SameEntries.mono _ _ _
   | exact beaconref15_Entries.mono _ _
   | exact beaconref17_Keep.mono _ _ _ _ _
   | exact table_Keep.mono _ _ _ _ _
   | exact table_Marks.mono _ _ _
   | exact LeO.none _
   | refine LeO.ite ?_ ?_
   | refine LeO.bind ?_ (fun _ => ?_)
  ·intro y0 y1 y2 y3 y4 y5 y6 y7 y8 y9
   unfold beaconlaw17_TableOwn.l2
   repeat' first
   | (with_reducible exact ih0 _ _ _ _ _ _ _ _)
   | (with_reducible exact ih1 _ _ _ _ _ _ _ _ _ _ _)
   | (with_reducible exact ih2 _ _ _ _ _ _ _ _ _ _ _)
   | (with_reducible exact ih3 _ _ _ _ _ _ _ _ _ _)
   | (with_reducible exact beaconlaw17_awake.mono _)
   | (with_reducible exact beaconlaw17_own.mono _ _ _)
   | (with_reducible exact beaconlaw17_same.mono _ _ _ _ _)
   | (with_reducible exact beaconref09_SameEntries.mono _ _ _)
   | (with_reducible exact beaconref15_Entries.mono _ _)
   | (with_reducible exact beaconref17_Keep.mono _ _ _ _ _)
   | (with_reducible exact table_Keep.mono _ _ _ _ _)
   | (with_reducible exact table_Marks.mono _ _ _)
   | (with_reducible exact LeO.refl _)
   | (with_reducible exact LeO.none _)
   | (with_reducible refine LeO.ite ?_ ?_)
   | (with_reducible refine LeO.bind ?_ (fun _ => ?_))
   | exact ih0 _ _ _ _ _ _ _ _
   | exact ih1 _ _ _ _ _ _ _ _ _ _ _
   | exact ih2 _ _ _ _ _ _ _ _ _ _ _
   | exact ih3 _ _ _ _ _ _ _ _ _ _
   | exact beaconlaw17_awake.mono _
   | exact beaconlaw17_own.mono _ _ _
   | exact beaconlaw17_same.mono _ _ _ _ _
   | exact beaconref09_SameEntries.mono _ _ _
   | exact beaconref15_Entries.mono _ _
   | exact beaconref17_Keep.mono _ _ _ _ _
   | exact table_Keep.mono _ _ _ _ _
   | exact table_Marks.mono _ _ _
   | exact LeO.none _
   | refine LeO.ite ?_ ?_
   | refine LeO.bind ?_ (fun _ => ?_)
theorem beaconlaw17_TableOwn.mono : ∀ a0 a1 a2 a3 k, LeO (beaconlaw17_TableOwn.f k a0 a1 a2 a3) (beaconlaw17_TableOwn.f (k + 1) a0 a1 a2 a3) := by
 intro a0 a1 a2 a3 k
 obtain ⟨ih0,ih1,ih2,ih3⟩:=beaconlaw17_TableOwn.mono_l k
 unfold beaconlaw17_TableOwn.f
 repeat' first
   | (with_reducible exact ih0 _ _ _ _ _ _ _ _)
   | (with_reducible exact ih1 _ _ _ _ _ _ _ _ _ _ _)
   | (with_reducible exact ih2 _ _ _ _ _ _ _ _ _ _ _)
   | (with_reducible exact ih3 _ _ _ _ _ _ _ _ _ _)
   | (with_reducible exact beaconlaw17_awake.mono _)
   | (with_reducible exact beaconlaw17_own.mono _ _ _)
   | (with_reducible exact beaconlaw17_same.mono _ _ _ _ _)
   | (with_reducible exact beaconref09_SameEntries.mono _ _ _)
   | (with_reducible exact beaconref15_Entries.mono _ _)
   | (with_reducible exact beaconref17_Keep.mono _ _ _ _ _)
   | (with_reducible exact table_Keep.mono _ _ _ _ _)
   | (with_reducible exact table_Marks.mono _ _ _)
   | (with_reducible exact LeO.refl _)
   | (with_reducible exact LeO.none _)
   | (with_reducible refine LeO.ite ?_ ?_)
   | (with_reducible refine LeO.bind ?_ (fun _ => ?_))
   | exact ih0 _ _ _ _ _ _ _ _
   | exact ih1 _ _ _ _ _ _ _ _ _ _ _
   | exact ih2 _ _ _ _ _ _ _ _ _ _ _
   | exact ih3 _ _ _ _ _ _ _ _ _ _
   | exact beaconlaw17_awake.mono _
   | exact beaconlaw17_own.mono _ _ _
   | exact beaconlaw17_same.mono _ _ _ _ _
   | exact beaconref09_SameEntries.mono _ _ _
   | exact beaconref15_Entries.mono _ _
   | exact beaconref17_Keep.mono _ _ _ _ _
   | exact table_Keep.mono _ _ _ _ _
   | exact table_Marks.mono _ _ _
   | exact LeO.none _
   | refine LeO.ite ?_ ?_
   | refine LeO.bind ?_ (fun _ => ?_)
set_option maxHeartbeats 8000000 in
set_option maxRecDepth 100000 in
theorem beaconlaw17_TableOwn.calls (k : Nat) (A0_0 : Option Addr) (c0_0 : Nat) (l0_0 : List (S39)) (a0_1 : Bool) (A1 : Option Addr) (c1 : Nat) (l1 : List (S39)) (a2 : Int) (r : Bool) (w : World) (hr0_0 : Kd.C k39 w A0_0 l0_0.length l0_0) (hc0_0 : l0_0.length ≤ c0_0) (hr1 : Kd.C k39 w A1 l1.length l1) (hc1 : l1.length ≤ c1) (h : beaconlaw17_TableOwn.f k l0_0 a0_1 l1 a2 = some r) :
  Calls Try.prog 6 #[.agg #[.slice A0_0 l0_0.length c0_0,.bool a0_1],.slice A1 l1.length c1,.int .i64 a2] w fun e w' => e = .returned (.bool r) ∧ Below w.heap.size w w':=by
 have hu24:=Try.underlying24
 have HR0_0:=Aside0.mk hr0_0
 have HC0_0:=Aside0.mk hc0_0
 clear hr0_0 hc0_0
 have HR1:=Aside0.mk hr1
 have HC1:=Aside0.mk hc1
 clear hr1 hc1
 have HB:=Aside0.mk (Below.refl w.heap.size w)
 have H : ((beaconlaw17_own.f k l0_0 a0_1).bind fun bt274 => ((beaconref15_Entries.f k l1).bind fun t278 => (beaconlaw17_TableOwn.l0 k l1 a2 t278 0 l0_0 a0_1 bt274.1 bt274.2))) = some r:=h
 clear h
 replace H:=Option.bind_eq_some_iff.mp H
 obtain ⟨⟨t274,t277⟩,A40,H⟩:=H
 replace H : ((beaconref15_Entries.f k l1).bind fun t278 => (beaconlaw17_TableOwn.l0 k l1 a2 t278 0 l0_0 a0_1 t274 t277)) = some r:=H
 have A4:=Aside0.mk A40
 clear A40
 replace H:=Option.bind_eq_some_iff.mp H
 obtain ⟨t278,A50,H⟩:=H
 replace H : (beaconlaw17_TableOwn.l0 k l1 a2 t278 0 l0_0 a0_1 t274 t277) = some r:=H
 have A5:=Aside0.mk A50
 clear A50
 have H':=Aside0.mk H
 clear H
 go_enter Try.func6,Try.ntmps6
 go_wp2_with (first|((with_reducible refine gate_dst (N:=3) rfl ?_);refine zb (N:=3) (cs:=#[.slice A0_0 l0_0.length c0_0,.bool a0_1]) (t:=24) ?_;intro G273 hg w6 hbox hb;have K273:=Aside0.mk (hbox);have GW273:=zN HB hg;have GE273:=zN HB hg;replace HB:=zS HB hb;clear hb hbox hg;have hcz7_0 : w6.cell? ⟨G273,0,none⟩ = some (.slice A0_0 l0_0.length c0_0):=zk K273 0;have hcz7_1 : w6.cell? ⟨G273,1,none⟩ = some (.bool a0_1):=zk K273 1;have hfz7_0:=bF K273.1 0;have hfz7_1:=bF K273.1 1)|((with_reducible refine gate_callee (f:=16) rfl ?_);refine zg (some 18) Try.func16 #[.agg #[.slice A0_0 l0_0.length c0_0,.bool a0_1]] ?_;(with_reducible refine (beaconlaw17_own.calls k _ _ l0_0 a0_1 t274 t277 _ ?side1 ?side2 A4.out).mono ?_);(case side1 => exact zC (Kd.C_below HR0_0.out HB.1));(case side2 => exact HC0_0.out);rintro e w8 ⟨v275,rfl,ho0,hb⟩;refine ⟨_,rfl,?_⟩;have HO276:=Aside0.mk (Kd.R_lower ho0 (zW HB));replace K273:=zB K273 hb;replace HB:=zS HB hb;(try clear hb);(try clear ho0))|((with_reducible refine gate_callee (f:=17) rfl ?_);refine zg (some 20) Try.func17 #[.slice A1 l1.length c1] ?_;(with_reducible refine (beaconref15_Entries.calls k _ _ l1 t278 _ ?side1 ?side2 A5.out).mono ?_);(case side1 => exact zC (Kd.C_below HR1.out HB.1));(case side2 => exact HC1.out);rintro e w9 ⟨v279,rfl,ho0,hb⟩;refine ⟨_,rfl,?_⟩;have HO280:=Aside0.mk (Kd.R_lower (Kd.R_new' ho0 (Kd.R_lt (zR HO276))) (zW HB));replace HO276:=Aside0.mk (Kd.R_elder' (zR HO276) (Kd.R_base ho0) hb);replace K273:=zB K273 hb;replace HB:=zS HB hb;(try clear hb);(try clear ho0))|((with_reducible refine gate_dst (N:=7) rfl ?_);refine zb (N:=7) (cs:=#[.slice none 0 0,.bool false]) (t:=24) ?_;intro G281 hg w10 hbox hb;replace HO276:=Aside0.mk (Kd.R_below (zR HO276) hb);replace HO280:=Aside0.mk (Kd.R_below (zR HO280) hb);have K281:=Aside0.mk (hbox);have GW281:=zN HB hg;have GE281:=zN HB hg;replace HB:=zS HB hb;have NB273_281:=zL K273 hg;have NB281_273:=zG K273 hg;replace K273:=zB K273 hb;clear hb hbox hg;obtain ⟨Ao11,co11,eo11⟩:=Kd.R_slice HO276.out;subst eo11;have hnb12:=NB281_273.1;have hnc12:=NB273_281.1;have hcz13_0 : w10.cell? ⟨G281,0,none⟩ = some (.slice none 0 0):=zk K281 0;have hcz13_1 : w10.cell? ⟨G281,1,none⟩ = some (.bool false):=zk K281 1;have hfz13_0:=bF K281.1 0;have hfz13_1:=bF K281.1 1))
 go_loopg [9] k (fun kq v9 w' => ∃ (x8_1 : List (S39)) (x9_1 : Int) (x282000_1 : List (S39)) (u282000 : Value),v9 = .int .i64 x9_1 ∧ Aside0 (beaconlaw17_TableOwn.l0 kq l1 a2 x8_1 x9_1 l0_0 a0_1 x282000_1 t277 = some r) ∧ Aside0 (kq ≤ k) ∧ Aside0 (Kd.R k39 39 w' w.heap.size (fun k_ => some k_ ≠ (u282000 : Value).ownBlock) v279 x8_1) ∧ Aside0 (Kd.R k39 39 w' w.heap.size (fun k_ => some k_ ≠ (v279 : Value).ownBlock) u282000 x282000_1) ∧ Aside0 (w'.heap[G273]? = some (.cells #[(.slice A0_0 l0_0.length c0_0),.bool a0_1] 24 (0,0))) ∧ Aside0 (w'.heap[G281]? = some (.cells #[u282000,.bool t277] 24 (0,0))) ∧ Aside0 (Below w.heap.size w w'))
 case atStart => exact ⟨(t278),(0),(t274),(.slice Ao11 t274.length co11),ze,H',⟨Nat.le_refl _⟩,⟨by (with_reducible repeat (first|apply Kd.R_alloc|apply Kd.R_drewN|apply Kd.R_drew));exact Kd.R_mono (Kd.R_far (p:=⟨G281,1,none⟩) (Kd.R_far (p:=⟨G281,0,none⟩) (Kd.R_types HO280.out K281.1 (by decide)) (fun _ hk => hk.2) (.slice Ao11 t274.length co11)) (fun _ hk => hk.2) (.bool t277)) (fun _ hk => hk.1.2)⟩,⟨by (with_reducible repeat (first|apply Kd.R_alloc|apply Kd.R_drewN|apply Kd.R_drew));exact Kd.R_mono (Kd.R_far (p:=⟨G281,1,none⟩) (Kd.R_far (p:=⟨G281,0,none⟩) (Kd.R_types HO276.out K281.1 (by decide)) (fun _ hk => hk.2) (.slice Ao11 t274.length co11)) (fun _ hk => hk.2) (.bool t277)) (fun _ hk => hk.1.2)⟩,⟨zf K273⟩,⟨zF K281⟩,⟨zH HB⟩⟩
 case round =>
  clear H'
  try clear c1;try clear p2;try clear c6;try clear c12;try clear hcz13_0;try clear hcz13_1;try clear hcz7_0;try clear hcz7_1;try clear hfz13_0;try clear hfz13_1;try clear hfz7_0;try clear hfz7_1
  obtain ⟨x8_1,x9_1,x282000_1,u282000,rfl,HA,HK1,HO_8,HO_282000,K273,K281,HB⟩:=hrel
  cases gk with
  | zero => exact absurd HA.out (by simp [beaconlaw17_TableOwn.l0])
  | succ k1 =>
   have H:=HA.out
   clear HA
   simp only [beaconlaw17_TableOwn.l0] at H
   by_cases c14 : x9_1 < 2
   ·rw [if_pos c14] at H
    have c14b0 : decide (x9_1 < 2) = true:=decide_eq_true c14
    clear c14
    replace H:=Option.bind_eq_some_iff.mp H
    obtain ⟨⟨t285,t288,t289⟩,A150,H⟩:=H
    replace H : ((beaconref17_Keep.f k1 l0_0 a0_1 l1 a2).bind fun bt291 => (if t289 = bt291.2.2 then ((beaconlaw17_same.f k1 t285 t288 bt291.1 bt291.2.1).bind fun t297 => (beaconlaw17_TableOwn.j1 k1 l1 a2 x8_1 x9_1 (!t297) l0_0 a0_1 x282000_1 t277 t285 t288)) else (beaconlaw17_TableOwn.j1 k1 l1 a2 x8_1 x9_1 true l0_0 a0_1 x282000_1 t277 t285 t288))) = some r:=H
    have A15:=Aside0.mk A150
    clear A150
    replace H:=Option.bind_eq_some_iff.mp H
    obtain ⟨⟨t291,t294,t295⟩,A160,H⟩:=H
    replace H : (if t289 = t295 then ((beaconlaw17_same.f k1 t285 t288 t291 t294).bind fun t297 => (beaconlaw17_TableOwn.j1 k1 l1 a2 x8_1 x9_1 (!t297) l0_0 a0_1 x282000_1 t277 t285 t288)) else (beaconlaw17_TableOwn.j1 k1 l1 a2 x8_1 x9_1 true l0_0 a0_1 x282000_1 t277 t285 t288)) = some r:=H
    have A16:=Aside0.mk A160
    clear A160
    have HC17:=Aside0.mk H
    clear H
    have hnb18:=NB281_273.1
    have hnc18:=NB273_281.1
    have hcz19_0 : wr.cell? ⟨G281,0,none⟩ = some (u282000):=zk K281 0
    have hcz19_1 : wr.cell? ⟨G281,1,none⟩ = some (.bool t277):=zk K281 1
    have hfz19_0:=bF K281.1 0
    have hfz19_1:=bF K281.1 1
    obtain ⟨Ao20,co20,eo20⟩:=Kd.R_slice HO_282000.out
    subst eo20
    obtain ⟨Ao21,co21,eo21⟩:=Kd.R_slice HO_8.out
    subst eo21
    go_upto_region 7 with (first|((with_reducible refine gate_callee (f:=14) rfl ?_);refine zg (some 29) Try.func14 #[.agg #[.slice Ao20 x282000_1.length co20,.bool t277],.slice Ao21 x8_1.length co21,.int .i64 a2] ?_;(with_reducible refine (table_Keep.calls k1 _ _ x282000_1 t277 _ _ x8_1 a2 t285 t288 t289 _ ?side1 ?side2 ?side3 ?side4 A15.out).mono ?_);(case side1 => exact zC ((Kd.R_reads' HO_282000.out).2.2));(case side2 => exact (Kd.R_reads' HO_282000.out).2.1);(case side3 => exact zC ((Kd.R_reads' HO_8.out).2.2));(case side4 => exact (Kd.R_reads' HO_8.out).2.1);rintro e w22 ⟨v286,rfl,ho0,hb⟩;refine ⟨_,rfl,?_⟩;have HO287:=Aside0.mk (Kd.R_lower (Kd.R_new' (Kd.R_new' ho0 (Kd.R_lt (zR HO_8))) (Kd.R_lt (zR HO_282000))) (zW HB));replace HO_8:=Aside0.mk (Kd.R_elder' (zR HO_8) (Kd.R_base ho0) hb);replace HO_282000:=Aside0.mk (Kd.R_elder' (zR HO_282000) (Kd.R_base ho0) hb);replace K273:=zB K273 hb;replace K281:=zB K281 hb;replace HB:=zS HB hb;(try clear hb);(try clear ho0))|((with_reducible refine gate_dst (N:=10) rfl ?_);refine zb (N:=10) (cs:=#[.slice none 0 0,.bool false]) (t:=24) ?_;intro G290 hg w23 hbox hb;replace HO_8:=Aside0.mk (Kd.R_below (zR HO_8) hb);replace HO_282000:=Aside0.mk (Kd.R_below (zR HO_282000) hb);replace HO287:=Aside0.mk (Kd.R_below (zR HO287) hb);have K290:=Aside0.mk (hbox);have GW290:=zN HB hg;have GE290:=zN HB hg;replace HB:=zS HB hb;have NB273_290:=zL K273 hg;have NB290_273:=zG K273 hg;replace K273:=zB K273 hb;have NB281_290:=zL K281 hg;have NB290_281:=zG K281 hg;replace K281:=zB K281 hb;clear hb hbox hg;obtain ⟨Ao24,co24,eo24⟩:=Kd.R_slice HO287.out;subst eo24;have hnb25:=NB290_273.1;have hnc25:=NB273_290.1;have hnb26:=NB290_281.1;have hnc26:=NB281_290.1;have hcz27_0 : w23.cell? ⟨G290,0,none⟩ = some (.slice none 0 0):=zk K290 0;have hcz27_1 : w23.cell? ⟨G290,1,none⟩ = some (.bool false):=zk K290 1;have hfz27_0:=bF K290.1 0;have hfz27_1:=bF K290.1 1;have hcz28_0 : w23.cell? ⟨G273,0,none⟩ = some (.slice A0_0 l0_0.length c0_0):=zk K273 0;have hcz28_1 : w23.cell? ⟨G273,1,none⟩ = some (.bool a0_1):=zk K273 1;have hfz28_0:=bF K273.1 0;have hfz28_1:=bF K273.1 1)|((with_reducible refine gate_callee (f:=18) rfl ?_);refine zg (some 36) Try.func18 #[.agg #[.slice A0_0 l0_0.length c0_0,.bool a0_1],.slice A1 l1.length c1,.int .i64 a2] ?_;(with_reducible refine (beaconref17_Keep.calls k1 _ _ l0_0 a0_1 _ _ l1 a2 t291 t294 t295 _ ?side1 ?side2 ?side3 ?side4 A16.out).mono ?_);(case side1 => exact Kd.C_below HR0_0.out (zH HB));(case side2 => exact HC0_0.out);(case side3 => exact Kd.C_below HR1.out (zH HB));(case side4 => exact HC1.out);rintro e w29 ⟨v292,rfl,ho0,hb⟩;refine ⟨_,rfl,?_⟩;have HO293:=Aside0.mk (Kd.R_lower (Kd.R_new' (Kd.R_new' (Kd.R_new' ho0 (Kd.R_lt (by (with_reducible repeat (first|apply Kd.R_alloc|apply Kd.R_drewN|apply Kd.R_drew));exact (Kd.R_mono (Kd.R_far (p:=⟨G290,1,none⟩) (Kd.R_far (p:=⟨G290,0,none⟩) (Kd.R_types HO_8.out K290.1 (by decide)) (fun _ hk => hk.2) (.slice Ao24 t285.length co24)) (fun _ hk => hk.2) (.bool t288)) (fun _ h_ => h_.1))))) (Kd.R_lt (by (with_reducible repeat (first|apply Kd.R_alloc|apply Kd.R_drewN|apply Kd.R_drew));exact (Kd.R_mono (Kd.R_far (p:=⟨G290,1,none⟩) (Kd.R_far (p:=⟨G290,0,none⟩) (Kd.R_types HO_282000.out K290.1 (by decide)) (fun _ hk => hk.2) (.slice Ao24 t285.length co24)) (fun _ hk => hk.2) (.bool t288)) (fun _ h_ => h_.1))))) (Kd.R_lt (by (with_reducible repeat (first|apply Kd.R_alloc|apply Kd.R_drewN|apply Kd.R_drew));exact (Kd.R_mono (Kd.R_far (p:=⟨G290,1,none⟩) (Kd.R_far (p:=⟨G290,0,none⟩) (Kd.R_types HO287.out K290.1 (by decide)) (fun _ hk => hk.2) (.slice Ao24 t285.length co24)) (fun _ hk => hk.2) (.bool t288)) (fun _ h_ => h_.1))))) (zW HB));replace HO_8:=Aside0.mk (Kd.R_elder' (by (with_reducible repeat (first|apply Kd.R_alloc|apply Kd.R_drewN|apply Kd.R_drew));exact (Kd.R_mono (Kd.R_far (p:=⟨G290,1,none⟩) (Kd.R_far (p:=⟨G290,0,none⟩) (Kd.R_types HO_8.out K290.1 (by decide)) (fun _ hk => hk.2) (.slice Ao24 t285.length co24)) (fun _ hk => hk.2) (.bool t288)) (fun _ h_ => h_.1))) (Kd.R_base ho0) hb);replace HO_282000:=Aside0.mk (Kd.R_elder' (by (with_reducible repeat (first|apply Kd.R_alloc|apply Kd.R_drewN|apply Kd.R_drew));exact (Kd.R_mono (Kd.R_far (p:=⟨G290,1,none⟩) (Kd.R_far (p:=⟨G290,0,none⟩) (Kd.R_types HO_282000.out K290.1 (by decide)) (fun _ hk => hk.2) (.slice Ao24 t285.length co24)) (fun _ hk => hk.2) (.bool t288)) (fun _ h_ => h_.1))) (Kd.R_base ho0) hb);replace HO287:=Aside0.mk (Kd.R_elder' (by (with_reducible repeat (first|apply Kd.R_alloc|apply Kd.R_drewN|apply Kd.R_drew));exact (Kd.R_mono (Kd.R_far (p:=⟨G290,1,none⟩) (Kd.R_far (p:=⟨G290,0,none⟩) (Kd.R_types HO287.out K290.1 (by decide)) (fun _ hk => hk.2) (.slice Ao24 t285.length co24)) (fun _ hk => hk.2) (.bool t288)) (fun _ h_ => h_.1))) (Kd.R_base ho0) hb);replace K273:=zBf K273 hb;replace K281:=zBf K281 hb;replace K290:=zBp (.cells #[.slice Ao24 t285.length co24,.bool t288] 24 (0,0)) K290 hb;replace HB:=zS HB hb;(try clear hb);(try clear ho0))|((with_reducible refine gate_dst (N:=12) rfl ?_);refine zb (N:=12) (cs:=#[.slice none 0 0,.bool false]) (t:=24) ?_;intro G296 hg w30 hbox hb;replace HO_8:=Aside0.mk (Kd.R_below (zR HO_8) hb);replace HO_282000:=Aside0.mk (Kd.R_below (zR HO_282000) hb);replace HO287:=Aside0.mk (Kd.R_below (zR HO287) hb);replace HO293:=Aside0.mk (Kd.R_below (zR HO293) hb);have K296:=Aside0.mk (hbox);have GW296:=zN HB hg;have GE296:=zN HB hg;replace HB:=zS HB hb;have NB273_296:=zL K273 hg;have NB296_273:=zG K273 hg;replace K273:=zB K273 hb;have NB281_296:=zL K281 hg;have NB296_281:=zG K281 hg;replace K281:=zB K281 hb;have NB290_296:=zL K290 hg;have NB296_290:=zG K290 hg;replace K290:=zB K290 hb;clear hb hbox hg;obtain ⟨Ao31,co31,eo31⟩:=Kd.R_slice HO293.out;subst eo31;have hnb32:=NB296_273.1;have hnc32:=NB273_296.1;have hnb33:=NB296_281.1;have hnc33:=NB281_296.1;have hnb34:=NB296_290.1;have hnc34:=NB290_296.1;have hcz35_0 : w30.cell? ⟨G296,0,none⟩ = some (.slice none 0 0):=zk K296 0;have hcz35_1 : w30.cell? ⟨G296,1,none⟩ = some (.bool false):=zk K296 1;have hfz35_0:=bF K296.1 0;have hfz35_1:=bF K296.1 1))
    (try simp only [Act.put,xA,xB,xC])
    go_cut [47] (fun v47 wc => ∃ (kq : Nat) (x47_16 : Bool),v47 = .bool x47_16 ∧ Aside0 (beaconlaw17_TableOwn.j1 kq l1 a2 x8_1 x9_1 x47_16 l0_0 a0_1 x282000_1 t277 t285 t288 = some r) ∧ Aside0 (kq ≤ k1) ∧ Aside0 (Kd.R k39 39 wc w.heap.size (fun k_ => some k_ ≠ ((.slice Ao20 x282000_1.length co20) : Value).ownBlock ∧ some k_ ≠ ((.slice Ao24 t285.length co24) : Value).ownBlock ∧ some k_ ≠ ((.slice Ao31 t291.length co31) : Value).ownBlock) (.slice Ao21 x8_1.length co21) x8_1) ∧ Aside0 (Kd.R k39 39 wc w.heap.size (fun k_ => some k_ ≠ ((.slice Ao21 x8_1.length co21) : Value).ownBlock ∧ some k_ ≠ ((.slice Ao24 t285.length co24) : Value).ownBlock ∧ some k_ ≠ ((.slice Ao31 t291.length co31) : Value).ownBlock) (.slice Ao20 x282000_1.length co20) x282000_1) ∧ Aside0 (Kd.R k39 39 wc w.heap.size (fun k_ => some k_ ≠ ((.slice Ao21 x8_1.length co21) : Value).ownBlock ∧ some k_ ≠ ((.slice Ao20 x282000_1.length co20) : Value).ownBlock ∧ some k_ ≠ ((.slice Ao31 t291.length co31) : Value).ownBlock) (.slice Ao24 t285.length co24) t285) ∧ Aside0 (Kd.R k39 39 wc w.heap.size (fun k_ => some k_ ≠ ((.slice Ao21 x8_1.length co21) : Value).ownBlock ∧ some k_ ≠ ((.slice Ao20 x282000_1.length co20) : Value).ownBlock ∧ some k_ ≠ ((.slice Ao24 t285.length co24) : Value).ownBlock) (.slice Ao31 t291.length co31) t291) ∧ Aside0 (wc.heap[G273]? = some (.cells #[(.slice A0_0 l0_0.length c0_0),.bool a0_1] 24 (0,0))) ∧ Aside0 (wc.heap[G281]? = some (.cells #[(.slice Ao20 x282000_1.length co20),.bool t277] 24 (0,0))) ∧ Aside0 (wc.heap[G290]? = some (.cells #[(.slice Ao24 t285.length co24),.bool t288] 24 (0,0))) ∧ Aside0 (wc.heap[G296]? = some (.cells #[(.slice Ao31 t291.length co31),.bool t294] 24 (0,0))) ∧ Aside0 (Below w.heap.size w wc))
    case first =>
     have H:=HC17.out
     clear HC17
     by_cases c36 : t289 = t295
     ·rw [if_pos c36] at H
      have c36b0 : (t289 == t295) = true:=beq_iff_eq.mpr c36
      have c36b1 : (t289 != t295) = false:=bne_eq_false_iff_eq.mpr c36
      clear c36
      (first|rw [c36b0]|(simp only [i64_w,i32_w];rw [c36b0])|skip)
      replace H:=Option.bind_eq_some_iff.mp H
      obtain ⟨t297,A370,H⟩:=H
      replace H : (beaconlaw17_TableOwn.j1 k1 l1 a2 x8_1 x9_1 (!t297) l0_0 a0_1 x282000_1 t277 t285 t288) = some r:=H
      have A37:=Aside0.mk A370
      clear A370
      have H':=Aside0.mk H
      clear H
      have hnb38:=NB290_273.1
      have hnc38:=NB273_290.1
      have hnb39:=NB290_281.1
      have hnc39:=NB281_290.1
      have hnb40:=NB290_296.1
      have hnc40:=NB296_290.1
      have hcz41_0 : w30.cell? ⟨G290,0,none⟩ = some (.slice Ao24 t285.length co24):=zk K290 0
      have hcz41_1 : w30.cell? ⟨G290,1,none⟩ = some (.bool t288):=zk K290 1
      have hfz41_0:=bF K290.1 0
      have hfz41_1:=bF K290.1 1
      have hnb42:=NB296_273.1
      have hnc42:=NB273_296.1
      have hnb43:=NB296_281.1
      have hnc43:=NB281_296.1
      have hcz44_0 : w30.cell? ⟨G296,0,none⟩ = some (.slice none 0 0):=zk K296 0
      have hcz44_1 : w30.cell? ⟨G296,1,none⟩ = some (.bool false):=zk K296 1
      have hfz44_0:=bF K296.1 0
      have hfz44_1:=bF K296.1 1
      go_wp2_with (first|(go_at_call 15;(with_reducible refine (beaconlaw17_same.calls k1 _ _ t285 t288 _ _ t291 t294 t297 _ ?side1 ?side2 ?side3 ?side4 A37.out).mono ?_);(case side1 => refine (Kd.R_reads' (e:=39) (base:=w.heap.size) (ok:=fun k_ => (((True ∧ some k_ ≠ (.slice Ao21 x8_1.length co21 : Value).ownBlock) ∧ some k_ ≠ (.slice Ao20 x282000_1.length co20 : Value).ownBlock) ∧ some k_ ≠ (.slice Ao31 t291.length co31 : Value).ownBlock)) (n:=t285.length) (c:=co24) ?_).2.2;exact (by (with_reducible repeat (first|apply Kd.R_alloc|apply Kd.R_drewN|apply Kd.R_drew));exact (Kd.R_mono (Kd.R_far (p:=⟨G296,1,none⟩) (Kd.R_far (p:=⟨G296,0,none⟩) (Kd.R_types HO287.out K296.1 (by decide)) (fun _ hk => hk.2) (.slice Ao31 t291.length co31)) (fun _ hk => hk.2) (.bool t294)) (fun _ h_ => h_.1))));(case side2 => exact (Kd.R_reads' HO287.out).2.1);(case side3 => refine (Kd.R_reads' (e:=39) (base:=w.heap.size) (ok:=fun k_ => (((True ∧ some k_ ≠ (.slice Ao21 x8_1.length co21 : Value).ownBlock) ∧ some k_ ≠ (.slice Ao20 x282000_1.length co20 : Value).ownBlock) ∧ some k_ ≠ (.slice Ao24 t285.length co24 : Value).ownBlock)) (n:=t291.length) (c:=co31) ?_).2.2;exact (by (with_reducible repeat (first|apply Kd.R_alloc|apply Kd.R_drewN|apply Kd.R_drew));exact (Kd.R_mono (Kd.R_far (p:=⟨G296,1,none⟩) (Kd.R_far (p:=⟨G296,0,none⟩) (Kd.R_types HO293.out K296.1 (by decide)) (fun _ hk => hk.2) (.slice Ao31 t291.length co31)) (fun _ hk => hk.2) (.bool t294)) (fun _ h_ => h_.1))));(case side4 => exact (Kd.R_reads' HO293.out).2.1);rintro e w45 ⟨rfl,hb⟩;replace HO_8:=Aside0.mk (Kd.R_below (by (with_reducible repeat (first|apply Kd.R_alloc|apply Kd.R_drewN|apply Kd.R_drew));exact (Kd.R_mono (Kd.R_far (p:=⟨G296,1,none⟩) (Kd.R_far (p:=⟨G296,0,none⟩) (Kd.R_types HO_8.out K296.1 (by decide)) (fun _ hk => hk.2) (.slice Ao31 t291.length co31)) (fun _ hk => hk.2) (.bool t294)) (fun _ h_ => h_.1))) hb);replace HO_282000:=Aside0.mk (Kd.R_below (by (with_reducible repeat (first|apply Kd.R_alloc|apply Kd.R_drewN|apply Kd.R_drew));exact (Kd.R_mono (Kd.R_far (p:=⟨G296,1,none⟩) (Kd.R_far (p:=⟨G296,0,none⟩) (Kd.R_types HO_282000.out K296.1 (by decide)) (fun _ hk => hk.2) (.slice Ao31 t291.length co31)) (fun _ hk => hk.2) (.bool t294)) (fun _ h_ => h_.1))) hb);replace HO287:=Aside0.mk (Kd.R_below (by (with_reducible repeat (first|apply Kd.R_alloc|apply Kd.R_drewN|apply Kd.R_drew));exact (Kd.R_mono (Kd.R_far (p:=⟨G296,1,none⟩) (Kd.R_far (p:=⟨G296,0,none⟩) (Kd.R_types HO287.out K296.1 (by decide)) (fun _ hk => hk.2) (.slice Ao31 t291.length co31)) (fun _ hk => hk.2) (.bool t294)) (fun _ h_ => h_.1))) hb);replace HO293:=Aside0.mk (Kd.R_below (by (with_reducible repeat (first|apply Kd.R_alloc|apply Kd.R_drewN|apply Kd.R_drew));exact (Kd.R_mono (Kd.R_far (p:=⟨G296,1,none⟩) (Kd.R_far (p:=⟨G296,0,none⟩) (Kd.R_types HO293.out K296.1 (by decide)) (fun _ hk => hk.2) (.slice Ao31 t291.length co31)) (fun _ hk => hk.2) (.bool t294)) (fun _ h_ => h_.1))) hb);replace K273:=zBf K273 hb;replace K281:=zBf K281 hb;replace K290:=zBf K290 hb;replace K296:=zBp (.cells #[.slice Ao31 t291.length co31,.bool t294] 24 (0,0)) K296 hb;replace HB:=zS HB hb;(try clear hb)))
      go_meet
      case rel => exact ⟨_,(!t297),ze,H',⟨by have:=HK1.out;first|omega|exact Nat.le_refl _⟩,⟨by (with_reducible repeat (first|apply Kd.R_alloc|apply Kd.R_drewN|apply Kd.R_drew));exact Kd.R_mono HO_8.out (fun _ hk => ⟨hk.1.1,⟨hk.1.2,hk.2⟩⟩)⟩,⟨by (with_reducible repeat (first|apply Kd.R_alloc|apply Kd.R_drewN|apply Kd.R_drew));exact Kd.R_mono HO_282000.out (fun _ hk => ⟨hk.1.1,⟨hk.1.2,hk.2⟩⟩)⟩,⟨by (with_reducible repeat (first|apply Kd.R_alloc|apply Kd.R_drewN|apply Kd.R_drew));exact Kd.R_mono HO287.out (fun _ hk => ⟨hk.1.1.2,⟨hk.1.2,hk.2⟩⟩)⟩,⟨by (with_reducible repeat (first|apply Kd.R_alloc|apply Kd.R_drewN|apply Kd.R_drew));exact Kd.R_mono HO293.out (fun _ hk => ⟨hk.1.1.2,⟨hk.1.2,hk.2⟩⟩)⟩,⟨z1 K273.1⟩,⟨z1 K281.1⟩,⟨z1 K290.1⟩,⟨z1 K296.1⟩,⟨zH HB⟩⟩
     ·rw [if_neg c36] at H
      have c36b0 : (t289 == t295) = false:=beq_eq_false_iff_ne.mpr c36
      have c36b1 : (t289 != t295) = true:=bne_iff_ne.mpr c36
      (first|rw [c36b0]|(simp only [i64_w,i32_w];rw [c36b0])|skip)
      have H':=Aside0.mk H
      clear H
      go_wp2
      go_meet
      case rel => exact ⟨_,(true),ze,H',⟨by have:=HK1.out;first|omega|exact Nat.le_refl _⟩,⟨by (with_reducible repeat (first|apply Kd.R_alloc|apply Kd.R_drewN|apply Kd.R_drew));exact Kd.R_mono (Kd.R_far (p:=⟨G296,1,none⟩) (Kd.R_far (p:=⟨G296,0,none⟩) (Kd.R_types HO_8.out K296.1 (by decide)) (fun _ hk => hk.2) (.slice Ao31 t291.length co31)) (fun _ hk => hk.2) (.bool t294)) (fun _ hk => ⟨hk.1.1.1,⟨hk.1.1.2,hk.1.2⟩⟩)⟩,⟨by (with_reducible repeat (first|apply Kd.R_alloc|apply Kd.R_drewN|apply Kd.R_drew));exact Kd.R_mono (Kd.R_far (p:=⟨G296,1,none⟩) (Kd.R_far (p:=⟨G296,0,none⟩) (Kd.R_types HO_282000.out K296.1 (by decide)) (fun _ hk => hk.2) (.slice Ao31 t291.length co31)) (fun _ hk => hk.2) (.bool t294)) (fun _ hk => ⟨hk.1.1.1,⟨hk.1.1.2,hk.1.2⟩⟩)⟩,⟨by (with_reducible repeat (first|apply Kd.R_alloc|apply Kd.R_drewN|apply Kd.R_drew));exact Kd.R_mono (Kd.R_far (p:=⟨G296,1,none⟩) (Kd.R_far (p:=⟨G296,0,none⟩) (Kd.R_types HO287.out K296.1 (by decide)) (fun _ hk => hk.2) (.slice Ao31 t291.length co31)) (fun _ hk => hk.2) (.bool t294)) (fun _ hk => ⟨hk.1.1.1.2,⟨hk.1.1.2,hk.1.2⟩⟩)⟩,⟨by (with_reducible repeat (first|apply Kd.R_alloc|apply Kd.R_drewN|apply Kd.R_drew));exact Kd.R_mono (Kd.R_far (p:=⟨G296,1,none⟩) (Kd.R_far (p:=⟨G296,0,none⟩) (Kd.R_types HO293.out K296.1 (by decide)) (fun _ hk => hk.2) (.slice Ao31 t291.length co31)) (fun _ hk => hk.2) (.bool t294)) (fun _ hk => ⟨hk.1.1.1.2,⟨hk.1.1.2,hk.1.2⟩⟩)⟩,⟨zf K273⟩,⟨zf K281⟩,⟨zf K290⟩,⟨zF K296⟩,⟨zH HB⟩⟩
    case rest =>
     clear HC17
     try clear c1;try clear c2;try clear p2;try clear c3;try clear c4;try clear c6;try clear c12;try clear c14;try clear c14b0;try clear c16;try clear c17;try clear c18;try clear c25;try clear c26;try clear c32;try clear c33;try clear c34;try clear c36;try clear c36b0;try clear c36b1;try clear c38;try clear c39;try clear c40;try clear c42;try clear c43;try clear hcz13_0;try clear hcz13_1;try clear hcz19_0;try clear hcz19_1;try clear hcz27_0;try clear hcz27_1;try clear hcz28_0;try clear hcz28_1;try clear hcz35_0;try clear hcz35_1;try clear hcz41_0;try clear hcz41_1;try clear hcz44_0;try clear hcz44_1;try clear hcz7_0;try clear hcz7_1;try clear hfz13_0;try clear hfz13_1;try clear hfz19_0;try clear hfz19_1;try clear hfz27_0;try clear hfz27_1;try clear hfz28_0;try clear hfz28_1;try clear hfz35_0;try clear hfz35_1;try clear hfz41_0;try clear hfz41_1;try clear hfz44_0;try clear hfz44_1;try clear hfz7_0;try clear hfz7_1;try clear p2
     obtain ⟨kq,x47_16,rfl,HA,HJ16,HO_8,HO_282000,HO_291000,HO_297000,K273,K281,K290,K296,HB⟩:=hcut
     cases kq with
     | zero => exact absurd HA.out (by simp [beaconlaw17_TableOwn.j1])
     | succ kj16 =>
      have H:=HA.out
      clear HA
      simp only [beaconlaw17_TableOwn.j1] at H
      by_cases c46 : x47_16 = true
      ·subst c46
       have H1 : (some false) = some r:=by rw [if_pos rfl] at H;exact H
       clear H
       have H:=H1
       clear H1
       obtain rfl:=Option.some.inj H
       go_wp2
       go_ret
       exact ⟨by first|rfl|(simp [errW_none,errW_some] <;> rfl)|(simp [*,errW_none,errW_some] <;> rfl),zH HB⟩
      ·replace c46:=Bool.eq_false_iff.mpr c46
       subst c46
       have H1 : (beaconlaw17_TableOwn.l1 kj16 l1 a2 x8_1 x9_1 0 l0_0 a0_1 x282000_1 t277 t285 t288) = some r:=by rw [if_neg (show ¬ (false = true) by decide)] at H;exact H
       clear H
       have H:=H1
       clear H1
       have H':=Aside0.mk H
       clear H
       go_wp2
       go_loopg [14] kj16 (fun kq v14 w' => ∃ (x8_3 : List (S39)) (x14_3 : Int) (x282000_3 : List (S39)) (x291000_3 : List (S39)) (x297000_3 : List (S39)) (u282000 : Value) (u291000 : Value) (u297000 : Value),v14 = .int .i64 x14_3 ∧ Aside0 (beaconlaw17_TableOwn.l1 kq l1 a2 x8_3 x9_1 x14_3 l0_0 a0_1 x282000_3 t277 x291000_3 t288 = some r) ∧ Aside0 (kq ≤ kj16) ∧ Aside0 (Kd.R k39 39 w' w.heap.size (fun k_ => some k_ ≠ (u282000 : Value).ownBlock ∧ some k_ ≠ (u291000 : Value).ownBlock ∧ some k_ ≠ (u297000 : Value).ownBlock) (.slice Ao21 x8_1.length co21) x8_3) ∧ Aside0 (Kd.R k39 39 w' w.heap.size (fun k_ => some k_ ≠ ((.slice Ao21 x8_1.length co21) : Value).ownBlock ∧ some k_ ≠ (u291000 : Value).ownBlock ∧ some k_ ≠ (u297000 : Value).ownBlock) u282000 x282000_3) ∧ Aside0 (Kd.R k39 39 w' w.heap.size (fun k_ => some k_ ≠ ((.slice Ao21 x8_1.length co21) : Value).ownBlock ∧ some k_ ≠ (u282000 : Value).ownBlock ∧ some k_ ≠ (u297000 : Value).ownBlock) u291000 x291000_3) ∧ Aside0 (Kd.R k39 39 w' w.heap.size (fun k_ => some k_ ≠ ((.slice Ao21 x8_1.length co21) : Value).ownBlock ∧ some k_ ≠ (u282000 : Value).ownBlock ∧ some k_ ≠ (u291000 : Value).ownBlock) u297000 x297000_3) ∧ Aside0 (w'.heap[G273]? = some (.cells #[(.slice A0_0 l0_0.length c0_0),.bool a0_1] 24 (0,0))) ∧ Aside0 (w'.heap[G281]? = some (.cells #[u282000,.bool t277] 24 (0,0))) ∧ Aside0 (w'.heap[G290]? = some (.cells #[u291000,.bool t288] 24 (0,0))) ∧ Aside0 (w'.heap[G296]? = some (.cells #[u297000,.bool t294] 24 (0,0))) ∧ Aside0 (Below w.heap.size w w'))
       case atStart => exact ⟨(x8_1),(0),(x282000_1),(t285),(t291),(.slice Ao20 x282000_1.length co20),(.slice Ao24 t285.length co24),(.slice Ao31 t291.length co31),ze,H',⟨Nat.le_refl _⟩,⟨zR HO_8⟩,⟨zR HO_282000⟩,⟨zR HO_291000⟩,⟨zR HO_297000⟩,⟨z1 K273.1⟩,⟨z1 K281.1⟩,⟨z1 K290.1⟩,⟨z1 K296.1⟩,⟨zH HB⟩⟩
       case round =>
        clear H'
        try clear c1;try clear c2;try clear p2;try clear c3;try clear c4;try clear c6;try clear c12;try clear c14;try clear c14b0;try clear c16;try clear c17;try clear c18;try clear c25;try clear c26;try clear c32;try clear c33;try clear c34;try clear c36;try clear c36b0;try clear c36b1;try clear c38;try clear c39;try clear c40;try clear c42;try clear c43;try clear c46;try clear hcz13_0;try clear hcz13_1;try clear hcz19_0;try clear hcz19_1;try clear hcz27_0;try clear hcz27_1;try clear hcz28_0;try clear hcz28_1;try clear hcz35_0;try clear hcz35_1;try clear hcz41_0;try clear hcz41_1;try clear hcz44_0;try clear hcz44_1;try clear hcz7_0;try clear hcz7_1;try clear hfz13_0;try clear hfz13_1;try clear hfz19_0;try clear hfz19_1;try clear hfz27_0;try clear hfz27_1;try clear hfz28_0;try clear hfz28_1;try clear hfz35_0;try clear hfz35_1;try clear hfz41_0;try clear hfz41_1;try clear hfz44_0;try clear hfz44_1;try clear hfz7_0;try clear hfz7_1;try clear p2
        obtain ⟨x8_3,x14_3,x282000_3,x291000_3,x297000_3,u282000,u291000,u297000,rfl,HA,HK3,HO_8,HO_282000,HO_291000,HO_297000,K273,K281,K290,K296,HB⟩:=hrel
        have hl8_3:=(Kd.R_reads' HO_8.out).1
        rw [hl8_3] at HO_8
        (try simp only [hl8_3])
        (try simp only [hl8_3] at K273)
        (try simp only [hl8_3] at K281)
        (try simp only [hl8_3] at K290)
        (try simp only [hl8_3] at K296)
        (try simp only [hl8_3] at HO_282000)
        (try simp only [hl8_3] at HO_291000)
        (try simp only [hl8_3] at HO_297000)
        cases gk with
        | zero => exact absurd HA.out (by simp [beaconlaw17_TableOwn.l1])
        | succ k3 =>
         have H:=HA.out
         clear HA
         simp only [beaconlaw17_TableOwn.l1] at H
         by_cases c47 : x14_3 < (x291000_3.length : Int)
         ·rw [if_pos c47] at H
          have c47b0 : decide (x14_3 < (x291000_3.length : Int)) = true:=decide_eq_true c47
          clear c47
          by_cases c48 : 0 ≤ x14_3
          ·rw [if_pos c48] at H
           have c48b0 : decide (0 ≤ x14_3) = true:=decide_eq_true c48
           clear c48
           obtain ⟨y298,hy298⟩ : ∃ y_ : List (S39),y_ = (x291000_3.set (x14_3 : Int).toNat (⟨(-7),(rd_T39 x291000_3 x14_3).f1,(rd_T39 x291000_3 x14_3).f2,(rd_T39 x291000_3 x14_3).f3,(rd_T39 x291000_3 x14_3).f4,(rd_T39 x291000_3 x14_3).f5⟩ : S39)):=⟨_,rfl⟩
           replace H : (beaconlaw17_TableOwn.l1 k3 l1 a2 x8_3 x9_1 (wrap64 (x14_3 + 1)) l0_0 a0_1 x282000_3 t277 y298 t288) = some r:=by first|(rw [hy298];with_reducible exact H)|(have H2_:=(Option.bind_some _ _).symm.trans H;rw [hy298];with_reducible exact H2_)|(have H2_:=(Option.bind_some _ _).symm.trans H;with_reducible exact H2_)|with_reducible exact H|(rw [hy298];exact H)|exact H
           have Ny298:=Aside0.mk hy298
           clear hy298
           have H':=Aside0.mk H
           clear H
           have hnb50:=NB290_273.1
           have hnc50:=NB273_290.1
           have hnb51:=NB290_281.1
           have hnc51:=NB281_290.1
           have hnb52:=NB290_296.1
           have hnc52:=NB296_290.1
           have hcz53_0 : wr.cell? ⟨G290,0,none⟩ = some (u291000):=zk K290 0
           have hcz53_1 : wr.cell? ⟨G290,1,none⟩ = some (.bool t288):=zk K290 1
           have hfz53_0:=bF K290.1 0
           have hfz53_1:=bF K290.1 1
           obtain ⟨Ao54,co54,eo54⟩:=Kd.R_slice HO_291000.out
           subst eo54
           have p49 : 0 ≤ (x14_3 : Int):=zd
           have q49 : (x14_3 : Int) < ((x291000_3.length : Int) : Int):=zd
           obtain ⟨go49,co49,eo49,G49,gl49,cl49,HG49⟩:=Kd.R_form HO_291000.out (by omega)
           (first|cases eo49|(injection eo49 with ea_ en_ ec_;(first|subst ea_|(injection ea_ with ea_;subst ea_));subst ec_;clear en_))
           have GB49:=Aside0.mk G49
           have GG49:=Aside0.mk HG49
           clear G49 gl49 HG49
           obtain ⟨ce49,hcl49,hM49,hcc49,hfr49⟩:=Kd.R_elem HO_291000.out z39 (x14_3 : Int) p49 q49
           obtain rfl:=k39_openM hM49
           have hx49_0 : wr.cell? ⟨go49,(x14_3 : Int).toNat * 6,none⟩ = some (.int .i64 ((rd_T39 x291000_3 x14_3).f0)):=hcc49 0 _ rfl
           have hx49_1 : wr.cell? ⟨go49,(x14_3 : Int).toNat * 6 + 1,none⟩ = some (.int .i64 ((rd_T39 x291000_3 x14_3).f1)):=hcc49 1 _ rfl
           have hx49_2 : wr.cell? ⟨go49,(x14_3 : Int).toNat * 6 + 2,none⟩ = some (.float .f64 ((rd_T39 x291000_3 x14_3).f2)):=hcc49 2 _ rfl
           have hx49_3 : wr.cell? ⟨go49,(x14_3 : Int).toNat * 6 + 3,none⟩ = some (.int .i64 ((rd_T39 x291000_3 x14_3).f3)):=hcc49 3 _ rfl
           have hx49_4 : wr.cell? ⟨go49,(x14_3 : Int).toNat * 6 + 4,none⟩ = some (.float .f64 ((rd_T39 x291000_3 x14_3).f4)):=hcc49 4 _ rfl
           have hx49_5 : wr.cell? ⟨go49,(x14_3 : Int).toNat * 6 + 5,none⟩ = some (.int .i64 ((rd_T39 x291000_3 x14_3).f5)):=hcc49 5 _ rfl
           have hf49_0 : wr.frozen? ⟨go49,(x14_3 : Int).toNat * 6,none⟩ = false:=hfr49 0
           have hf49_1 : wr.frozen? ⟨go49,(x14_3 : Int).toNat * 6 + 1,none⟩ = false:=hfr49 1
           have hf49_2 : wr.frozen? ⟨go49,(x14_3 : Int).toNat * 6 + 2,none⟩ = false:=hfr49 2
           have hf49_3 : wr.frozen? ⟨go49,(x14_3 : Int).toNat * 6 + 3,none⟩ = false:=hfr49 3
           have hf49_4 : wr.frozen? ⟨go49,(x14_3 : Int).toNat * 6 + 4,none⟩ = false:=hfr49 4
           have hf49_5 : wr.frozen? ⟨go49,(x14_3 : Int).toNat * 6 + 5,none⟩ = false:=hfr49 5
           clear hcl49 hcc49 hfr49 hM49
           replace p49:=eq_true p49
           replace q49:=eq_true q49
           have HX55:=Aside0.mk (show Kd.R k39 39 wr w.heap.size (fun k_ => some k_ ≠ (.slice Ao21 x8_3.length co21 : Value).ownBlock ∧ some k_ ≠ (u282000 : Value).ownBlock ∧ some k_ ≠ (u297000 : Value).ownBlock) (.slice (some ⟨go49,0,none⟩) x291000_3.length co54) x291000_3 from (zR HO_291000))
           obtain ⟨ce55,hcl55,hM55,hcc55,hfr55⟩:=Kd.R_elem HX55.out z39 (x14_3 : Int) (zd) (by have h_ : (x14_3 : Int) < ((x291000_3.length : Int) : Int):=zd;first|exact h_|(have e_:=(Kd.R_reads' HO_291000.out).1;omega)|simpa using h_)
           obtain rfl:=k39_openM hM55
           have HP55:=Kd.R_seg HX55.out (x14_3 : Int) (zd) (by have h_ : (x14_3 : Int) < ((x291000_3.length : Int) : Int):=zd;first|exact h_|(have e_:=(Kd.R_reads' HO_291000.out).1;omega)|simpa using h_) (seg:=[.int .i64 (-7)]) (j:=0) hcl55 hcc55 (show 1 ≤ 6 from by decide) (x':=(⟨(-7),(rd_T39 x291000_3 x14_3).f1,(rd_T39 x291000_3 x14_3).f2,(rd_T39 x291000_3 x14_3).f3,(rd_T39 x291000_3 x14_3).f4,(rd_T39 x291000_3 x14_3).f5⟩ : S39)) (k39_mkM _ _ _ (⟨(-7),(rd_T39 x291000_3 x14_3).f1,(rd_T39 x291000_3 x14_3).f2,(rd_T39 x291000_3 x14_3).f3,(rd_T39 x291000_3 x14_3).f4,(rd_T39 x291000_3 x14_3).f5⟩ : S39) ) (fun _ hk => hk)
           have hx55_0:=hcc55 0 _ rfl
           (try simp only [show (k39).sz = 6 from rfl,Nat.mul_one,Nat.add_zero] at hx55_0)
           have hf55_0:=hfr55 0
           (try simp only [show (k39).sz = 6 from rfl,Nat.mul_one,Nat.add_zero] at hf55_0)
           clear hcl55 hcc55 hfr55 hM55
           go_wp2_with (first|((with_reducible refine gate_store (t:=3) (p:=59) rfl ?_);refine store_event (t:=3) (p:=59) (v:=?vo_w56) (w1:=(wr.setCell ⟨go49,(x14_3 : Int).toNat * 6,none⟩ (.int .i64 (-7)))) ?hg ?ho ?hn ?hr ?_;(case ho => rfl);(case hg => rfl);(case hn => rfl);(case hr => first|(go_simp;done)|(go_simp;rfl));intro w56 hw;have hg : wr.grownBy w56 (some go49):=(by rw [hw];exact HP55.2);have hp_ : Kd.R k39 39 w56 w.heap.size (fun k_ => some k_ ≠ (.slice Ao21 x8_3.length co21 : Value).ownBlock ∧ some k_ ≠ (u282000 : Value).ownBlock ∧ some k_ ≠ (u297000 : Value).ownBlock) (.slice (some ⟨go49,0,none⟩) x291000_3.length co54) y298:=(by rw [hw,Ny298.out];exact HP55.1);clear HP55;replace HO_8:=Aside0.mk (Kd.R_after (v:=(.slice (some ⟨go49,0,none⟩) x291000_3.length co54)) (v1:=(.slice (some ⟨go49,0,none⟩) x291000_3.length co54)) (ok:=(fun k_ => some k_ ≠ (u282000 : Value).ownBlock ∧ some k_ ≠ (u297000 : Value).ownBlock)) (by (with_reducible repeat (first|apply Kd.R_alloc|apply Kd.R_drewN|apply Kd.R_drew));exact Kd.R_mono HO_8.out (fun _ hk => ⟨⟨hk.1,hk.2.2⟩,hk.2.1⟩)) hg (.inl rfl));replace HO_282000:=Aside0.mk (Kd.R_after (v:=(.slice (some ⟨go49,0,none⟩) x291000_3.length co54)) (v1:=(.slice (some ⟨go49,0,none⟩) x291000_3.length co54)) (ok:=(fun k_ => some k_ ≠ (.slice Ao21 x8_3.length co21 : Value).ownBlock ∧ some k_ ≠ (u297000 : Value).ownBlock)) (by (with_reducible repeat (first|apply Kd.R_alloc|apply Kd.R_drewN|apply Kd.R_drew));exact Kd.R_mono HO_282000.out (fun _ hk => ⟨⟨hk.1,hk.2.2⟩,hk.2.1⟩)) hg (.inl rfl));replace HO_297000:=Aside0.mk (Kd.R_after (v:=(.slice (some ⟨go49,0,none⟩) x291000_3.length co54)) (v1:=(.slice (some ⟨go49,0,none⟩) x291000_3.length co54)) (ok:=(fun k_ => some k_ ≠ (.slice Ao21 x8_3.length co21 : Value).ownBlock ∧ some k_ ≠ (u282000 : Value).ownBlock)) (by (with_reducible repeat (first|apply Kd.R_alloc|apply Kd.R_drewN|apply Kd.R_drew));exact Kd.R_mono HO_297000.out (fun _ hk => ⟨⟨hk.1,hk.2.1⟩,hk.2.2⟩)) hg (.inl rfl));replace K273:=Aside0.mk (blk_grown (g:=G273) (z1 K273.1) hg (Kd.R_ne HO_291000.out K273.1 (by decide)));replace K281:=Aside0.mk (blk_grown (g:=G281) (z1 K281.1) hg (Kd.R_ne HO_291000.out K281.1 (by decide)));replace K290:=Aside0.mk (blk_grown (g:=G290) (z1 K290.1) hg (Kd.R_ne HO_291000.out K290.1 (by decide)));replace K296:=Aside0.mk (blk_grown (g:=G296) (z1 K296.1) hg (Kd.R_ne HO_291000.out K296.1 (by decide)));replace HO_291000:=Aside0.mk (hp_);replace HB:=Aside0.mk ((by rw [hw];exact bS (HB.1) GB49.out : Below w.heap.size w w56));clear hg hw hp_))
           (try simp only [← hl8_3])
           go_roundg k3
           case measure => have:=HK1.out;have:=HJ16.out;have:=HK3.out;omega
           case rel => exact ⟨(x8_3),(wrap64 (x14_3 + 1)),(x282000_3),(y298),(x297000_3),(u282000),(.slice (some ⟨go49,0,none⟩) x291000_3.length co54),(u297000),ze,H',⟨by have:=HK1.out;have:=HJ16.out;have:=HK3.out;omega⟩,⟨by (try simp only [hl8_3]);(with_reducible repeat (first|apply Kd.R_alloc|apply Kd.R_drewN|apply Kd.R_drew));exact Kd.R_mono HO_8.out (fun _ hk => ⟨hk.1.1,⟨hk.2,hk.1.2⟩⟩)⟩,⟨by (try simp only [hl8_3]);(with_reducible repeat (first|apply Kd.R_alloc|apply Kd.R_drewN|apply Kd.R_drew));exact Kd.R_mono HO_282000.out (fun _ hk => ⟨hk.1.1,⟨hk.2,hk.1.2⟩⟩)⟩,⟨by (try simp only [hl8_3]);(with_reducible repeat (first|apply Kd.R_alloc|apply Kd.R_drewN|apply Kd.R_drew));exact HO_291000.out⟩,⟨by (try simp only [hl8_3]);(with_reducible repeat (first|apply Kd.R_alloc|apply Kd.R_drewN|apply Kd.R_drew));exact Kd.R_mono HO_297000.out (fun _ hk => ⟨hk.1.1,⟨hk.1.2,hk.2⟩⟩)⟩,⟨by (try simp only [hl8_3]);(with_reducible repeat first|apply bN|apply bD|apply bA);exact K273.1⟩,⟨by (try simp only [hl8_3]);(with_reducible repeat first|apply bN|apply bD|apply bA);exact K281.1⟩,⟨by (try simp only [hl8_3]);(with_reducible repeat first|apply bN|apply bD|apply bA);exact K290.1⟩,⟨by (try simp only [hl8_3]);(with_reducible repeat first|apply bN|apply bD|apply bA);exact K296.1⟩,⟨zH HB⟩⟩
          ·rw [if_neg c48] at H
           exact absurd H (by simp)
         ·rw [if_neg c47] at H
          have c47b0 : decide (x14_3 < (x291000_3.length : Int)) = false:=decide_eq_false c47
          clear c47
          replace H:=Option.bind_eq_some_iff.mp H
          obtain ⟨t299,A570,H⟩:=H
          replace H : (beaconlaw17_TableOwn.l2 k3 l1 a2 x8_3 x9_1 t299 0 l0_0 a0_1 x282000_3 t277) = some r:=H
          have A57:=Aside0.mk A570
          clear A570
          have H':=Aside0.mk H
          clear H
          have hnb58:=NB290_273.1
          have hnc58:=NB273_290.1
          have hnb59:=NB290_281.1
          have hnc59:=NB281_290.1
          have hnb60:=NB290_296.1
          have hnc60:=NB296_290.1
          have hcz61_0 : wr.cell? ⟨G290,0,none⟩ = some (u291000):=zk K290 0
          have hcz61_1 : wr.cell? ⟨G290,1,none⟩ = some (.bool t288):=zk K290 1
          have hfz61_0:=bF K290.1 0
          have hfz61_1:=bF K290.1 1
          obtain ⟨Ao62,co62,eo62⟩:=Kd.R_slice HO_291000.out
          subst eo62
          have hnb63:=NB281_273.1
          have hnc63:=NB273_281.1
          have hnb64:=NB281_296.1
          have hnc64:=NB296_281.1
          have hcz65_0 : wr.cell? ⟨G281,0,none⟩ = some (u282000):=zk K281 0
          have hcz65_1 : wr.cell? ⟨G281,1,none⟩ = some (.bool t277):=zk K281 1
          have hfz65_0:=bF K281.1 0
          have hfz65_1:=bF K281.1 1
          obtain ⟨Ao66,co66,eo66⟩:=Kd.R_slice HO_282000.out
          subst eo66
          go_wp2_with (first|((with_reducible refine gate_callee (f:=22) rfl ?_);refine zg (some 61) Try.func22 #[.agg #[.slice Ao66 x282000_3.length co66,.bool t277]] ?_;(with_reducible refine (table_Marks.calls k3 _ _ x282000_3 t277 t299 _ ?side1 ?side2 A57.out).mono ?_);(case side1 => exact zC ((Kd.R_reads' HO_282000.out).2.2));(case side2 => exact (Kd.R_reads' HO_282000.out).2.1);rintro e w67 ⟨v300,rfl,ho0,hb⟩;refine ⟨_,rfl,?_⟩;replace HO_8:=Aside0.mk (Kd.R_below (zR HO_8) hb);replace HO_282000:=Aside0.mk (Kd.R_below (zR HO_282000) hb);replace HO_291000:=Aside0.mk (Kd.R_below (zR HO_291000) hb);replace HO_297000:=Aside0.mk (Kd.R_below (zR HO_297000) hb);have HO301:=Aside0.mk (Kd.R_lower ho0 (zW HB));replace K273:=zB K273 hb;replace K281:=zB K281 hb;replace K290:=zB K290 hb;replace K296:=zB K296 hb;replace HB:=zS HB hb;(try clear hb);(try clear ho0)))
          go_loopg [16] k3 (fun kq v16 w' => ∃ (x15_4 : List Int) (x16_4 : Int),v16 = .int .i64 x16_4 ∧ Aside0 (beaconlaw17_TableOwn.l2 kq l1 a2 x8_3 x9_1 x15_4 x16_4 l0_0 a0_1 x282000_3 t277 = some r) ∧ Aside0 (kq ≤ k3) ∧ Aside0 (Kd.R k39 39 w' w.heap.size (fun k_ => some k_ ≠ ((.slice Ao66 x282000_3.length co66) : Value).ownBlock ∧ some k_ ≠ ((.slice Ao62 x291000_3.length co62) : Value).ownBlock ∧ some k_ ≠ (u297000 : Value).ownBlock) (.slice Ao21 x8_3.length co21) x8_3) ∧ Aside0 (Kd.R (Kd.int .i64) 3 w' w.heap.size (fun _ => True) v300 x15_4) ∧ Aside0 (Kd.R k39 39 w' w.heap.size (fun k_ => some k_ ≠ ((.slice Ao21 x8_3.length co21) : Value).ownBlock ∧ some k_ ≠ ((.slice Ao62 x291000_3.length co62) : Value).ownBlock ∧ some k_ ≠ (u297000 : Value).ownBlock) (.slice Ao66 x282000_3.length co66) x282000_3) ∧ Aside0 (Kd.R k39 39 w' w.heap.size (fun k_ => some k_ ≠ ((.slice Ao21 x8_3.length co21) : Value).ownBlock ∧ some k_ ≠ ((.slice Ao66 x282000_3.length co66) : Value).ownBlock ∧ some k_ ≠ (u297000 : Value).ownBlock) (.slice Ao62 x291000_3.length co62) x291000_3) ∧ Aside0 (Kd.R k39 39 w' w.heap.size (fun k_ => some k_ ≠ ((.slice Ao21 x8_3.length co21) : Value).ownBlock ∧ some k_ ≠ ((.slice Ao66 x282000_3.length co66) : Value).ownBlock ∧ some k_ ≠ ((.slice Ao62 x291000_3.length co62) : Value).ownBlock) u297000 x297000_3) ∧ Aside0 (w'.heap[G273]? = some (.cells #[(.slice A0_0 l0_0.length c0_0),.bool a0_1] 24 (0,0))) ∧ Aside0 (w'.heap[G281]? = some (.cells #[(.slice Ao66 x282000_3.length co66),.bool t277] 24 (0,0))) ∧ Aside0 (w'.heap[G290]? = some (.cells #[(.slice Ao62 x291000_3.length co62),.bool t288] 24 (0,0))) ∧ Aside0 (w'.heap[G296]? = some (.cells #[u297000,.bool t294] 24 (0,0))) ∧ Aside0 (Below w.heap.size w w'))
          case atStart => exact ⟨(t299),(0),ze,H',⟨Nat.le_refl _⟩,⟨by (try simp only [hl8_3]);(with_reducible repeat (first|apply Kd.R_alloc|apply Kd.R_drewN|apply Kd.R_drew));exact HO_8.out⟩,⟨by (try simp only [hl8_3]);(with_reducible repeat (first|apply Kd.R_alloc|apply Kd.R_drewN|apply Kd.R_drew));exact HO301.out⟩,⟨by (try simp only [hl8_3]);(with_reducible repeat (first|apply Kd.R_alloc|apply Kd.R_drewN|apply Kd.R_drew));exact HO_282000.out⟩,⟨by (try simp only [hl8_3]);(with_reducible repeat (first|apply Kd.R_alloc|apply Kd.R_drewN|apply Kd.R_drew));exact HO_291000.out⟩,⟨by (try simp only [hl8_3]);(with_reducible repeat (first|apply Kd.R_alloc|apply Kd.R_drewN|apply Kd.R_drew));exact HO_297000.out⟩,⟨by (try simp only [hl8_3]);(with_reducible repeat first|apply bN|apply bD|apply bA);exact K273.1⟩,⟨by (try simp only [hl8_3]);(with_reducible repeat first|apply bN|apply bD|apply bA);exact K281.1⟩,⟨by (try simp only [hl8_3]);(with_reducible repeat first|apply bN|apply bD|apply bA);exact K290.1⟩,⟨by (try simp only [hl8_3]);(with_reducible repeat first|apply bN|apply bD|apply bA);exact K296.1⟩,⟨zH HB⟩⟩
          case round =>
           clear H'
           try clear c1;try clear c2;try clear p2;try clear c3;try clear c4;try clear p4;try clear q4;try clear hx4;try clear hf4;try clear c5;try clear hx5;try clear hf5;try clear c6;try clear p6;try clear c12;try clear c14;try clear c14b0;try clear c16;try clear c17;try clear c18;try clear c22;try clear c25;try clear c26;try clear c32;try clear c33;try clear c34;try clear c36;try clear c36b0;try clear c36b1;try clear c38;try clear c39;try clear c40;try clear c42;try clear c43;try clear c46;try clear c47;try clear c47b0;try clear c48;try clear c48b0;try clear c49;try clear p49;try clear q49;try clear hx49;try clear hf49;try clear c50;try clear c51;try clear c52;try clear c55;try clear hx55;try clear hf55;try clear c58;try clear c59;try clear c60;try clear c63;try clear c64;try clear p64;try clear hcz13_0;try clear hcz13_1;try clear hcz19_0;try clear hcz19_1;try clear hcz27_0;try clear hcz27_1;try clear hcz28_0;try clear hcz28_1;try clear hcz35_0;try clear hcz35_1;try clear hcz41_0;try clear hcz41_1;try clear hcz44_0;try clear hcz44_1;try clear hcz53_0;try clear hcz53_1;try clear hcz61_0;try clear hcz61_1;try clear hcz65_0;try clear hcz65_1;try clear hcz7_0;try clear hcz7_1;try clear hfz13_0;try clear hfz13_1;try clear hfz19_0;try clear hfz19_1;try clear hfz27_0;try clear hfz27_1;try clear hfz28_0;try clear hfz28_1;try clear hfz35_0;try clear hfz35_1;try clear hfz41_0;try clear hfz41_1;try clear hfz44_0;try clear hfz44_1;try clear hfz53_0;try clear hfz53_1;try clear hfz61_0;try clear hfz61_1;try clear hfz65_0;try clear hfz65_1;try clear hfz7_0;try clear hfz7_1;try clear hx49_0;try clear hx49_1;try clear hx49_2;try clear hx49_3;try clear hx49_4;try clear hx49_5;try clear hx55_0;try clear p2;try clear p49;try clear q49
           obtain ⟨x15_4,x16_4,rfl,HA,HK4,HO_8,HO_15,HO_282000,HO_291000,HO_297000,K273,K281,K290,K296,HB⟩:=hrel
           cases gk with
           | zero => exact absurd HA.out (by simp [beaconlaw17_TableOwn.l2])
           | succ k4 =>
            have H:=HA.out
            clear HA
            simp only [beaconlaw17_TableOwn.l2] at H
            by_cases c68 : x16_4 < (x15_4.length : Int)
            ·rw [if_pos c68] at H
             have c68b0 : decide (x16_4 < (x15_4.length : Int)) = true:=decide_eq_true c68
             clear c68
             by_cases c69 : 0 ≤ x16_4
             ·rw [if_pos c69] at H
              have c69b0 : decide (0 ≤ x16_4) = true:=decide_eq_true c69
              clear c69
              obtain ⟨y302,hy302⟩ : ∃ y_ : List Int,y_ = (x15_4.set (x16_4 : Int).toNat (-7)):=⟨_,rfl⟩
              replace H : (beaconlaw17_TableOwn.l2 k4 l1 a2 x8_3 x9_1 y302 (wrap64 (x16_4 + 1)) l0_0 a0_1 x282000_3 t277) = some r:=by first|(rw [hy302];with_reducible exact H)|(have H2_:=(Option.bind_some _ _).symm.trans H;rw [hy302];with_reducible exact H2_)|(have H2_:=(Option.bind_some _ _).symm.trans H;with_reducible exact H2_)|with_reducible exact H|(rw [hy302];exact H)|exact H
              have Ny302:=Aside0.mk hy302
              clear hy302
              have H':=Aside0.mk H
              clear H
              obtain ⟨Ao71,co71,eo71⟩:=Kd.R_slice HO_15.out
              subst eo71
              have p70 : 0 ≤ (x16_4 : Int):=zd
              have q70 : (x16_4 : Int) < ((x15_4.length : Int) : Int):=zd
              obtain ⟨go70,co70,eo70,G70,gl70,cl70,HG70⟩:=Kd.R_form HO_15.out (by omega)
              (first|cases eo70|(injection eo70 with ea_ en_ ec_;(first|subst ea_|(injection ea_ with ea_;subst ea_));subst ec_;clear en_))
              have GB70:=Aside0.mk G70
              have GG70:=Aside0.mk HG70
              clear G70 gl70 HG70
              obtain ⟨hx70_0,hf70_0⟩:=Kd.R_celln 0 HO_15.out (x16_4 : Int) p70 q70
              replace p70:=eq_true p70
              replace q70:=eq_true q70
              have HP72:=Kd.R_putg HO_15.out (x16_4 : Int) (-7)
              go_wp2_with (first|((with_reducible refine gate_store (t:=3) (p:=70) rfl ?_);refine store_event (t:=3) (p:=70) (v:=?vo_w73) (w1:=(wr.setCell ⟨go70,(x16_4 : Int).toNat,none⟩ (.int .i64 (-7)))) ?hg ?ho ?hn ?hr ?_;(case ho => rfl);(case hg => rfl);(case hn => rfl);(case hr => first|(go_simp;done)|(go_simp;rfl));intro w73 hw;have hg : wr.grownBy w73 (some go70):=(by rw [hw];exact HP72.2);have hp_ : Kd.R (Kd.int .i64) 3 w73 w.heap.size (fun _ => True) (.slice (some ⟨go70,0,none⟩) x15_4.length co71) y302:=(by rw [hw,Ny302.out];exact HP72.1);clear HP72;replace HO_8:=Aside0.mk (Kd.R_over' (v:=(.slice (some ⟨go70,0,none⟩) x15_4.length co71)) (zR HO_8) (Kd.R_typed HO_15.out) (by decide) hg);replace HO_282000:=Aside0.mk (Kd.R_over' (v:=(.slice (some ⟨go70,0,none⟩) x15_4.length co71)) (zR HO_282000) (Kd.R_typed HO_15.out) (by decide) hg);replace HO_291000:=Aside0.mk (Kd.R_over' (v:=(.slice (some ⟨go70,0,none⟩) x15_4.length co71)) (zR HO_291000) (Kd.R_typed HO_15.out) (by decide) hg);replace HO_297000:=Aside0.mk (Kd.R_over' (v:=(.slice (some ⟨go70,0,none⟩) x15_4.length co71)) (zR HO_297000) (Kd.R_typed HO_15.out) (by decide) hg);replace K273:=Aside0.mk (blk_grown (g:=G273) (z1 K273.1) hg (Kd.R_ne HO_15.out K273.1 (by decide)));replace K281:=Aside0.mk (blk_grown (g:=G281) (z1 K281.1) hg (Kd.R_ne HO_15.out K281.1 (by decide)));replace K290:=Aside0.mk (blk_grown (g:=G290) (z1 K290.1) hg (Kd.R_ne HO_15.out K290.1 (by decide)));replace K296:=Aside0.mk (blk_grown (g:=G296) (z1 K296.1) hg (Kd.R_ne HO_15.out K296.1 (by decide)));replace HO_15:=Aside0.mk (hp_);replace HB:=Aside0.mk ((by rw [hw];exact bS (HB.1) GB70.out : Below w.heap.size w w73));clear hg hw hp_))
              go_roundg k4
              case measure => have:=HK1.out;have:=HJ16.out;have:=HK3.out;have:=HK4.out;omega
              case rel => exact ⟨(y302),(wrap64 (x16_4 + 1)),ze,H',⟨by have:=HK1.out;have:=HJ16.out;have:=HK3.out;have:=HK4.out;omega⟩,⟨by (try simp only [hl8_3]);(with_reducible repeat (first|apply Kd.R_alloc|apply Kd.R_drewN|apply Kd.R_drew));exact HO_8.out⟩,⟨by (try simp only [hl8_3]);(with_reducible repeat (first|apply Kd.R_alloc|apply Kd.R_drewN|apply Kd.R_drew));exact HO_15.out⟩,⟨by (try simp only [hl8_3]);(with_reducible repeat (first|apply Kd.R_alloc|apply Kd.R_drewN|apply Kd.R_drew));exact HO_282000.out⟩,⟨by (try simp only [hl8_3]);(with_reducible repeat (first|apply Kd.R_alloc|apply Kd.R_drewN|apply Kd.R_drew));exact HO_291000.out⟩,⟨by (try simp only [hl8_3]);(with_reducible repeat (first|apply Kd.R_alloc|apply Kd.R_drewN|apply Kd.R_drew));exact HO_297000.out⟩,⟨by (try simp only [hl8_3]);(with_reducible repeat first|apply bN|apply bD|apply bA);exact K273.1⟩,⟨by (try simp only [hl8_3]);(with_reducible repeat first|apply bN|apply bD|apply bA);exact K281.1⟩,⟨by (try simp only [hl8_3]);(with_reducible repeat first|apply bN|apply bD|apply bA);exact K290.1⟩,⟨by (try simp only [hl8_3]);(with_reducible repeat first|apply bN|apply bD|apply bA);exact K296.1⟩,⟨zH HB⟩⟩
             ·rw [if_neg c69] at H
              exact absurd H (by simp)
            ·rw [if_neg c68] at H
             have c68b0 : decide (x16_4 < (x15_4.length : Int)) = false:=decide_eq_false c68
             clear c68
             have H':=Aside0.mk H
             clear H
             obtain ⟨Ao74,co74,eo74⟩:=Kd.R_slice HO_15.out
             subst eo74
             go_wp2
             (try simp only [← hl8_3])
             go_roundg k4
             case measure => have:=HK1.out;have:=HJ16.out;have:=HK3.out;have:=HK4.out;omega
             case rel => exact ⟨(x8_3),(wrap64 (x9_1 + 1)),(x282000_3),(.slice Ao66 x282000_3.length co66),ze,H',⟨by have:=HK1.out;have:=HJ16.out;have:=HK3.out;have:=HK4.out;omega⟩,⟨by (try simp only [hl8_3]);(with_reducible repeat (first|apply Kd.R_alloc|apply Kd.R_drewN|apply Kd.R_drew));exact Kd.R_mono HO_8.out (fun _ hk => hk.1)⟩,⟨by (try simp only [hl8_3]);(with_reducible repeat (first|apply Kd.R_alloc|apply Kd.R_drewN|apply Kd.R_drew));exact Kd.R_mono HO_282000.out (fun _ hk => hk.1)⟩,⟨by (try simp only [hl8_3]);(with_reducible repeat first|apply bN|apply bD|apply bA);exact K273.1⟩,⟨by (try simp only [hl8_3]);(with_reducible repeat first|apply bN|apply bD|apply bA);exact K281.1⟩,⟨zH HB⟩⟩
   ·rw [if_neg c14] at H
    have c14b0 : decide (x9_1 < 2) = false:=decide_eq_false c14
    clear c14
    replace H:=Option.bind_eq_some_iff.mp H
    obtain ⟨t282,A750,H⟩:=H
    replace H : (if t282 = true then ((beaconref09_SameEntries.f k1 x8_1 l1).bind fun t283 => (if t283 = true then ((beaconlaw17_awake.f k1).bind fun t284 => (some t284)) else (some false))) else (some false)) = some r:=H
    have A75:=Aside0.mk A750
    clear A750
    by_cases c76 : t282 = true
    ·subst c76
     have H1 : ((beaconref09_SameEntries.f k1 x8_1 l1).bind fun t283 => (if t283 = true then ((beaconlaw17_awake.f k1).bind fun t284 => (some t284)) else (some false))) = some r:=by rw [if_pos rfl] at H;exact H
     clear H
     have H:=H1
     clear H1
     replace H:=Option.bind_eq_some_iff.mp H
     obtain ⟨t283,A770,H⟩:=H
     replace H : (if t283 = true then ((beaconlaw17_awake.f k1).bind fun t284 => (some t284)) else (some false)) = some r:=H
     have A77:=Aside0.mk A770
     clear A770
     by_cases c78 : t283 = true
     ·subst c78
      have H1 : ((beaconlaw17_awake.f k1).bind fun t284 => (some t284)) = some r:=by rw [if_pos rfl] at H;exact H
      clear H
      have H:=H1
      clear H1
      replace H:=Option.bind_eq_some_iff.mp H
      obtain ⟨t284,A790,H⟩:=H
      replace H : (some t284) = some r:=H
      have A79:=Aside0.mk A790
      clear A790
      obtain rfl:=Option.some.inj H
      have hnb80:=NB281_273.1
      have hnc80:=NB273_281.1
      have hcz81_0 : wr.cell? ⟨G281,0,none⟩ = some (u282000):=zk K281 0
      have hcz81_1 : wr.cell? ⟨G281,1,none⟩ = some (.bool t277):=zk K281 1
      have hfz81_0:=bF K281.1 0
      have hfz81_1:=bF K281.1 1
      have hcz82_0 : wr.cell? ⟨G273,0,none⟩ = some (.slice A0_0 l0_0.length c0_0):=zk K273 0
      have hcz82_1 : wr.cell? ⟨G273,1,none⟩ = some (.bool a0_1):=zk K273 1
      have hfz82_0:=bF K273.1 0
      have hfz82_1:=bF K273.1 1
      obtain ⟨Ao83,co83,eo83⟩:=Kd.R_slice HO_282000.out
      subst eo83
      go_wp2_with (first|((with_reducible refine gate_callee (f:=15) rfl ?_);refine zg (some 73) Try.func15 #[.agg #[.slice Ao83 x282000_1.length co83,.bool t277],.agg #[.slice A0_0 l0_0.length c0_0,.bool a0_1]] ?_;(with_reducible refine (beaconlaw17_same.calls k1 _ _ x282000_1 t277 _ _ l0_0 a0_1 true _ ?side1 ?side2 ?side3 ?side4 A75.out).mono ?_);(case side1 => exact zC ((Kd.R_reads' HO_282000.out).2.2));(case side2 => exact (Kd.R_reads' HO_282000.out).2.1);(case side3 => exact zC (Kd.C_below HR0_0.out HB.1));(case side4 => exact HC0_0.out);rintro e w84 ⟨rfl,hb⟩;refine ⟨_,rfl,?_⟩;replace HO_8:=Aside0.mk (Kd.R_below (zR HO_8) hb);replace HO_282000:=Aside0.mk (Kd.R_below (zR HO_282000) hb);replace K273:=zB K273 hb;replace K281:=zB K281 hb;replace HB:=zS HB hb;(try clear hb);obtain ⟨Ao85,co85,eo85⟩:=Kd.R_slice HO_8.out;subst eo85)|(go_at_call 21;(with_reducible refine (beaconref09_SameEntries.calls k1 _ _ x8_1 _ _ l1 true _ ?side1 ?side2 ?side3 ?side4 A77.out).mono ?_);(case side1 => exact zC ((Kd.R_reads' HO_8.out).2.2));(case side2 => exact (Kd.R_reads' HO_8.out).2.1);(case side3 => exact zC (Kd.C_below HR1.out HB.1));(case side4 => exact HC1.out);rintro e w86 ⟨rfl,hb⟩;replace HO_8:=Aside0.mk (Kd.R_below (zR HO_8) hb);replace HO_282000:=Aside0.mk (Kd.R_below (zR HO_282000) hb);replace K273:=zB K273 hb;replace K281:=zB K281 hb;replace HB:=zS HB hb;(try clear hb))|(go_at_call 13;(with_reducible refine (beaconlaw17_awake.calls k1  t284 _ A79.out).mono ?_);rintro e w87 ⟨rfl,hb⟩;replace HO_8:=Aside0.mk (Kd.R_below (zR HO_8) hb);replace HO_282000:=Aside0.mk (Kd.R_below (zR HO_282000) hb);replace K273:=zB K273 hb;replace K281:=zB K281 hb;replace HB:=zS HB hb;(try clear hb)))
      go_ret
      exact ⟨by first|rfl|(simp [errW_none,errW_some] <;> rfl)|(simp [*,errW_none,errW_some] <;> rfl),zH HB⟩
     ·replace c78:=Bool.eq_false_iff.mpr c78
      subst c78
      have H1 : (some false) = some r:=by rw [if_neg (show ¬ (false = true) by decide)] at H;exact H
      clear H
      have H:=H1
      clear H1
      obtain rfl:=Option.some.inj H
      have hnb88:=NB281_273.1
      have hnc88:=NB273_281.1
      have hcz89_0 : wr.cell? ⟨G281,0,none⟩ = some (u282000):=zk K281 0
      have hcz89_1 : wr.cell? ⟨G281,1,none⟩ = some (.bool t277):=zk K281 1
      have hfz89_0:=bF K281.1 0
      have hfz89_1:=bF K281.1 1
      have hcz90_0 : wr.cell? ⟨G273,0,none⟩ = some (.slice A0_0 l0_0.length c0_0):=zk K273 0
      have hcz90_1 : wr.cell? ⟨G273,1,none⟩ = some (.bool a0_1):=zk K273 1
      have hfz90_0:=bF K273.1 0
      have hfz90_1:=bF K273.1 1
      obtain ⟨Ao91,co91,eo91⟩:=Kd.R_slice HO_282000.out
      subst eo91
      go_wp2_with (first|((with_reducible refine gate_callee (f:=15) rfl ?_);refine zg (some 73) Try.func15 #[.agg #[.slice Ao91 x282000_1.length co91,.bool t277],.agg #[.slice A0_0 l0_0.length c0_0,.bool a0_1]] ?_;(with_reducible refine (beaconlaw17_same.calls k1 _ _ x282000_1 t277 _ _ l0_0 a0_1 true _ ?side1 ?side2 ?side3 ?side4 A75.out).mono ?_);(case side1 => exact zC ((Kd.R_reads' HO_282000.out).2.2));(case side2 => exact (Kd.R_reads' HO_282000.out).2.1);(case side3 => exact zC (Kd.C_below HR0_0.out HB.1));(case side4 => exact HC0_0.out);rintro e w92 ⟨rfl,hb⟩;refine ⟨_,rfl,?_⟩;replace HO_8:=Aside0.mk (Kd.R_below (zR HO_8) hb);replace HO_282000:=Aside0.mk (Kd.R_below (zR HO_282000) hb);replace K273:=zB K273 hb;replace K281:=zB K281 hb;replace HB:=zS HB hb;(try clear hb);obtain ⟨Ao93,co93,eo93⟩:=Kd.R_slice HO_8.out;subst eo93)|(go_at_call 21;(with_reducible refine (beaconref09_SameEntries.calls k1 _ _ x8_1 _ _ l1 false _ ?side1 ?side2 ?side3 ?side4 A77.out).mono ?_);(case side1 => exact zC ((Kd.R_reads' HO_8.out).2.2));(case side2 => exact (Kd.R_reads' HO_8.out).2.1);(case side3 => exact zC (Kd.C_below HR1.out HB.1));(case side4 => exact HC1.out);rintro e w94 ⟨rfl,hb⟩;replace HO_8:=Aside0.mk (Kd.R_below (zR HO_8) hb);replace HO_282000:=Aside0.mk (Kd.R_below (zR HO_282000) hb);replace K273:=zB K273 hb;replace K281:=zB K281 hb;replace HB:=zS HB hb;(try clear hb)))
      go_ret
      exact ⟨by first|rfl|(simp [errW_none,errW_some] <;> rfl)|(simp [*,errW_none,errW_some] <;> rfl),zH HB⟩
    ·replace c76:=Bool.eq_false_iff.mpr c76
     subst c76
     have H1 : (some false) = some r:=by rw [if_neg (show ¬ (false = true) by decide)] at H;exact H
     clear H
     have H:=H1
     clear H1
     obtain rfl:=Option.some.inj H
     have hnb95:=NB281_273.1
     have hnc95:=NB273_281.1
     have hcz96_0 : wr.cell? ⟨G281,0,none⟩ = some (u282000):=zk K281 0
     have hcz96_1 : wr.cell? ⟨G281,1,none⟩ = some (.bool t277):=zk K281 1
     have hfz96_0:=bF K281.1 0
     have hfz96_1:=bF K281.1 1
     have hcz97_0 : wr.cell? ⟨G273,0,none⟩ = some (.slice A0_0 l0_0.length c0_0):=zk K273 0
     have hcz97_1 : wr.cell? ⟨G273,1,none⟩ = some (.bool a0_1):=zk K273 1
     have hfz97_0:=bF K273.1 0
     have hfz97_1:=bF K273.1 1
     obtain ⟨Ao98,co98,eo98⟩:=Kd.R_slice HO_282000.out
     subst eo98
     go_wp2_with (first|((with_reducible refine gate_callee (f:=15) rfl ?_);refine zg (some 73) Try.func15 #[.agg #[.slice Ao98 x282000_1.length co98,.bool t277],.agg #[.slice A0_0 l0_0.length c0_0,.bool a0_1]] ?_;(with_reducible refine (beaconlaw17_same.calls k1 _ _ x282000_1 t277 _ _ l0_0 a0_1 false _ ?side1 ?side2 ?side3 ?side4 A75.out).mono ?_);(case side1 => exact zC ((Kd.R_reads' HO_282000.out).2.2));(case side2 => exact (Kd.R_reads' HO_282000.out).2.1);(case side3 => exact zC (Kd.C_below HR0_0.out HB.1));(case side4 => exact HC0_0.out);rintro e w99 ⟨rfl,hb⟩;refine ⟨_,rfl,?_⟩;replace HO_8:=Aside0.mk (Kd.R_below (zR HO_8) hb);replace HO_282000:=Aside0.mk (Kd.R_below (zR HO_282000) hb);replace K273:=zB K273 hb;replace K281:=zB K281 hb;replace HB:=zS HB hb;(try clear hb)))
     go_ret
     exact ⟨by first|rfl|(simp [errW_none,errW_some] <;> rfl)|(simp [*,errW_none,errW_some] <;> rfl),zH HB⟩

end Go.Proofs.Ytgmjlhpigfaicaa.XA
