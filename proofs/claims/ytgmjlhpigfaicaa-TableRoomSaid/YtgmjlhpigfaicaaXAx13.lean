/- Go functions of this seat as Lean functions, with proofs that the calls come to them. (Written by xprint.py, a program of this session, over the kit's print.) -/
import Derived.Test.YtgmjlhpigfaicaaXAx0
import Derived.Test.YtgmjlhpigfaicaaXAx11
import Derived.Test.YtgmjlhpigfaicaaXAx12
namespace Go.Proofs.Ytgmjlhpigfaicaa.XA
open Go.RowKit Go.Proofs.YtgmjlhpigfaicaaW.PrintWords Go.Proofs.YtgmjlhpigfaicaaW.PrintLast Go.Proofs.YtgmjlhpigfaicaaW.PrintMore
attribute [local go_sem] max2_int min2_int max_two min_two max_three min_three max_four min_four   -- for this text's walks alone
set_option linter.unusedVariables false
set_option linter.unusedSimpArgs false
open List renaming setIfInBounds_toArray → xA, set_cons_zero → xB, set_cons_succ → xC
open Go.Proofs.YtgmjlhpigfaicaaW.PrintWords renaming blk_drewN → bN, blk_drew → bD, blk_alloc → bA, below_set → bS, blk_frozen → bF, blk_cell → bC, cell_far → cF, blk_far → bZ, blk_below → bB, pw_below_drewN → bwN, below_drew1 → bw1, below_alloc → bwA
open Go.Proofs.YtgmjlhpigfaicaaW.PrintZ
open Bool renaming true → T,false → F

/-! ### beaconref17_Keep: function 18 -/
mutual
def beaconref17_Keep.j0 : Nat → List (S39) → Int → Bool → List (S39) → Bool → Option ((List (S39)) × Bool × Int)
 | 0, _, _, _, _, _ => none
 | k + 1, x1, x2, x24, x219000, x219001 => if x24 = true then (some (([] : List (S39)), false, 1)) else (beaconref17_Keep.l0 k x1 x2 0 0 x219000 x219001)
def beaconref17_Keep.l0 : Nat → List (S39) → Int → Int → Int → List (S39) → Bool → Option ((List (S39)) × Bool × Int)
 | 0, _, _, _, _, _, _ => none
 | k + 1, x1, x2, x8, x9, x219000, x219001 => if x9 < (x1.length : Int) then (if 0 ≤ x9 then ((beaconref17_has.f k x219000 ((rd_T39 x1 x9).f0) ((rd_T39 x1 x9).f1) ((rd_T39 x1 x9).f2) ((rd_T39 x1 x9).f3) ((rd_T39 x1 x9).f4) ((rd_T39 x1 x9).f5)).bind fun t223 => (if t223 = true then (beaconref17_Keep.l0 k x1 x2 (wrap64 (x8 + 1)) (wrap64 (x9 + 1)) x219000 x219001) else (beaconref17_Keep.l0 k x1 x2 x8 (wrap64 (x9 + 1)) x219000 x219001))) else (none)) else (beaconref17_Keep.l1 k x1 x2 x8 0 x219000 x219001 ([] : List (S39)) x219001)
def beaconref17_Keep.l1 : Nat → List (S39) → Int → Int → Int → List (S39) → Bool → List (S39) → Bool → Option ((List (S39)) × Bool × Int)
 | 0, _, _, _, _, _, _, _, _ => none
 | k + 1, x1, x2, x8, x11, x219000, x219001, x225000, x225001 => if x11 < (x1.length : Int) then (if 0 ≤ x11 then ((beaconref17_has.f k x219000 ((rd_T39 x1 x11).f0) ((rd_T39 x1 x11).f1) ((rd_T39 x1 x11).f2) ((rd_T39 x1 x11).f3) ((rd_T39 x1 x11).f4) ((rd_T39 x1 x11).f5)).bind fun t226 => (if t226 = true then (if x225000.length < 2932031007402 then (beaconref17_Keep.l1 k x1 x2 x8 (wrap64 (x11 + 1)) x219000 x219001 (x225000 ++ [(⟨(rd_T39 x1 x11).f0, (rd_T39 x1 x11).f1, (rd_T39 x1 x11).f2, (rd_T39 x1 x11).f3, (rd_T39 x1 x11).f4, (rd_T39 x1 x11).f5⟩ : S39)]) x225001) else (none)) else (if x8 < x2 then (if x225000.length < 2932031007402 then (beaconref17_Keep.l1 k x1 x2 (wrap64 (x8 + 1)) (wrap64 (x11 + 1)) x219000 x219001 (x225000 ++ [(⟨(rd_T39 x1 x11).f0, (rd_T39 x1 x11).f1, (rd_T39 x1 x11).f2, (rd_T39 x1 x11).f3, (rd_T39 x1 x11).f4, (rd_T39 x1 x11).f5⟩ : S39)]) x225001) else (none)) else (beaconref17_Keep.l1 k x1 x2 x8 (wrap64 (x11 + 1)) x219000 x219001 x225000 true)))) else (none)) else (some (x225000, x225001, 0))
end
def beaconref17_Keep.f (k : Nat) (l0_0 : List (S39)) (a0_1 : Bool) (l1 : List (S39)) (a2 : Int) : Option ((List (S39)) × Bool × Int) := (beaconref17_may.f k l0_0).bind fun t220 => (if t220 = true then ((beaconref17_may.f k l1).bind fun t221 => (if t221 = true then (beaconref17_Keep.j0 k l1 a2 (decide (a2 < 0)) l0_0 a0_1) else (beaconref17_Keep.j0 k l1 a2 true l0_0 a0_1))) else (beaconref17_Keep.j0 k l1 a2 true l0_0 a0_1))
theorem beaconref17_Keep.mono_l : ∀ k, (∀ y0 y1 y2 y3 y4, LeO (beaconref17_Keep.j0 k y0 y1 y2 y3 y4) (beaconref17_Keep.j0 (k + 1) y0 y1 y2 y3 y4)) ∧ (∀ y0 y1 y2 y3 y4 y5, LeO (beaconref17_Keep.l0 k y0 y1 y2 y3 y4 y5) (beaconref17_Keep.l0 (k + 1) y0 y1 y2 y3 y4 y5)) ∧ (∀ y0 y1 y2 y3 y4 y5 y6 y7, LeO (beaconref17_Keep.l1 k y0 y1 y2 y3 y4 y5 y6 y7) (beaconref17_Keep.l1 (k + 1) y0 y1 y2 y3 y4 y5 y6 y7))
 | 0 => ⟨fun _ _ _ _ _ r h => by simp [beaconref17_Keep.j0] at h, fun _ _ _ _ _ _ r h => by simp [beaconref17_Keep.l0] at h, fun _ _ _ _ _ _ _ _ r h => by simp [beaconref17_Keep.l1] at h⟩
 | k + 1 => by
  obtain ⟨ih0,ih1,ih2⟩:=beaconref17_Keep.mono_l k
  refine ⟨?_,?_,?_⟩
  ·intro y0 y1 y2 y3 y4
   unfold beaconref17_Keep.j0
   repeat' first
   | (with_reducible exact ih0 _ _ _ _ _)
   | (with_reducible exact ih1 _ _ _ _ _ _)
   | (with_reducible exact ih2 _ _ _ _ _ _ _ _)
   | (with_reducible exact beaconref17_has.mono _ _ _ _ _ _ _ _)
   | (with_reducible exact beaconref17_may.mono _ _)
   | (with_reducible exact LeO.refl _)
   | (with_reducible exact LeO.none _)
   | (with_reducible refine LeO.ite ?_ ?_)
   | (with_reducible refine LeO.bind ?_ (fun _ => ?_))
   | exact ih0 _ _ _ _ _
   | exact ih1 _ _ _ _ _ _
   | exact ih2 _ _ _ _ _ _ _ _
   | exact beaconref17_has.mono _ _ _ _ _ _ _ _
   | exact beaconref17_may.mono _ _
   | exact LeO.none _
   | refine LeO.ite ?_ ?_
   | refine LeO.bind ?_ (fun _ => ?_)
  ·intro y0 y1 y2 y3 y4 y5
   unfold beaconref17_Keep.l0
   repeat' first
   | (with_reducible exact ih0 _ _ _ _ _)
   | (with_reducible exact ih1 _ _ _ _ _ _)
   | (with_reducible exact ih2 _ _ _ _ _ _ _ _)
   | (with_reducible exact beaconref17_has.mono _ _ _ _ _ _ _ _)
   | (with_reducible exact beaconref17_may.mono _ _)
   | (with_reducible exact LeO.refl _)
   | (with_reducible exact LeO.none _)
   | (with_reducible refine LeO.ite ?_ ?_)
   | (with_reducible refine LeO.bind ?_ (fun _ => ?_))
   | exact ih0 _ _ _ _ _
   | exact ih1 _ _ _ _ _ _
   | exact ih2 _ _ _ _ _ _ _ _
   | exact beaconref17_has.mono _ _ _ _ _ _ _ _
   | exact beaconref17_may.mono _ _
   | exact LeO.none _
   | refine LeO.ite ?_ ?_
   | refine LeO.bind ?_ (fun _ => ?_)
  ·intro y0 y1 y2 y3 y4 y5 y6 y7
   unfold beaconref17_Keep.l1
   repeat' first
   | (with_reducible exact ih0 _ _ _ _ _)
   | (with_reducible exact ih1 _ _ _ _ _ _)
   | (with_reducible exact ih2 _ _ _ _ _ _ _ _)
   | (with_reducible exact beaconref17_has.mono _ _ _ _ _ _ _ _)
   | (with_reducible exact beaconref17_may.mono _ _)
   | (with_reducible exact LeO.refl _)
   | (with_reducible exact LeO.none _)
   | (with_reducible refine LeO.ite ?_ ?_)
   | (with_reducible refine LeO.bind ?_ (fun _ => ?_))
   | exact ih0 _ _ _ _ _
   | exact ih1 _ _ _ _ _ _
   | exact ih2 _ _ _ _ _ _ _ _
   | exact beaconref17_has.mono _ _ _ _ _ _ _ _
   | exact beaconref17_may.mono _ _
   | exact LeO.none _
   | refine LeO.ite ?_ ?_
   | refine LeO.bind ?_ (fun _ => ?_)
theorem beaconref17_Keep.mono : ∀ a0 a1 a2 a3 k, LeO (beaconref17_Keep.f k a0 a1 a2 a3) (beaconref17_Keep.f (k + 1) a0 a1 a2 a3) := by
 intro a0 a1 a2 a3 k
 obtain ⟨ih0,ih1,ih2⟩:=beaconref17_Keep.mono_l k
 unfold beaconref17_Keep.f
 repeat' first
   | (with_reducible exact ih0 _ _ _ _ _)
   | (with_reducible exact ih1 _ _ _ _ _ _)
   | (with_reducible exact ih2 _ _ _ _ _ _ _ _)
   | (with_reducible exact beaconref17_has.mono _ _ _ _ _ _ _ _)
   | (with_reducible exact beaconref17_may.mono _ _)
   | (with_reducible exact LeO.refl _)
   | (with_reducible exact LeO.none _)
   | (with_reducible refine LeO.ite ?_ ?_)
   | (with_reducible refine LeO.bind ?_ (fun _ => ?_))
   | exact ih0 _ _ _ _ _
   | exact ih1 _ _ _ _ _ _
   | exact ih2 _ _ _ _ _ _ _ _
   | exact beaconref17_has.mono _ _ _ _ _ _ _ _
   | exact beaconref17_may.mono _ _
   | exact LeO.none _
   | refine LeO.ite ?_ ?_
   | refine LeO.bind ?_ (fun _ => ?_)
def beaconref17_Keep.T14 : Bool × List (List Nat × List Nat) := (true, [([], []), ([0], [0]), ([], []), ([], []), ([2, 3], [2, 3]), ([4], [4]), ([5], [5]), ([1, 6], [1, 6]), ([0, 1, 2, 3, 4, 5, 6, 7], []), ([8, 7, 7, 0, 1, 2, 3, 4, 5, 6, 7], [7, 8])])
def beaconref17_Keep.B14 : List Nat := [0, 1, 0, 0, 12, 28, 60, 127, 255, 511]
theorem beaconref17_Keep.tab14 : rtab .any (opsOf Try.f18 14) = beaconref17_Keep.T14 := by kernel_rfl
theorem beaconref17_Keep.bits14 : waitsOk beaconref17_Keep.T14.2 beaconref17_Keep.B14 = true := by kernel_rfl
def beaconref17_Keep.T16 : Bool × List (List Nat × List Nat) := (true, [([], []), ([0], [0]), ([], []), ([], []), ([2, 3], [2, 3]), ([4], [4]), ([5], [5]), ([1, 6], [1, 6]), ([0, 1, 2, 3, 4, 5, 6, 7], []), ([8, 7, 7, 0, 1, 2, 3, 4, 5, 6, 7], [7, 8])])
def beaconref17_Keep.B16 : List Nat := [0, 1, 0, 0, 12, 28, 60, 127, 255, 511]
theorem beaconref17_Keep.tab16 : rtab .any (opsOf Try.f18 16) = beaconref17_Keep.T16 := by kernel_rfl
theorem beaconref17_Keep.bits16 : waitsOk beaconref17_Keep.T16.2 beaconref17_Keep.B16 = true := by kernel_rfl
set_option maxHeartbeats 8000000 in
set_option maxRecDepth 100000 in
theorem beaconref17_Keep.calls (k : Nat) (A0_0 : Option Addr) (c0_0 : Nat) (l0_0 : List (S39)) (a0_1 : Bool) (A1 : Option Addr) (c1 : Nat) (l1 : List (S39)) (a2 : Int) (r1 : List (S39)) (r2 : Bool) (r3 : Int) (w : World) (hr0_0 : Kd.C k39 w A0_0 l0_0.length l0_0) (hc0_0 : l0_0.length ≤ c0_0) (hr1 : Kd.C k39 w A1 l1.length l1) (hc1 : l1.length ≤ c1) (h : beaconref17_Keep.f k l0_0 a0_1 l1 a2 = some (r1, r2, r3)) :
  Calls Try.prog 18 #[.agg #[.slice A0_0 l0_0.length c0_0,.bool a0_1],.slice A1 l1.length c1,.int .i64 a2] w fun e w' => ∃ v0_ : Value,e = .returned (.tuple #[.agg #[v0_,.bool r2],.int .i64 r3]) ∧ Kd.R k39 39 w' w.heap.size (fun _ => True) v0_ r1 ∧ Below w.heap.size w w':=by
 have hu24:=Try.underlying24
 have hu39:=Try.underlying39
 have HR0_0:=Aside0.mk hr0_0
 have HC0_0:=Aside0.mk hc0_0
 clear hr0_0 hc0_0
 have HR1:=Aside0.mk hr1
 have HC1:=Aside0.mk hc1
 clear hr1 hc1
 have HB:=Aside0.mk (Below.refl w.heap.size w)
 have H : ((beaconref17_may.f k l0_0).bind fun t220 => (if t220 = true then ((beaconref17_may.f k l1).bind fun t221 => (if t221 = true then (beaconref17_Keep.j0 k l1 a2 (decide (a2 < 0)) l0_0 a0_1) else (beaconref17_Keep.j0 k l1 a2 true l0_0 a0_1))) else (beaconref17_Keep.j0 k l1 a2 true l0_0 a0_1))) = some (r1,r2,r3):=h
 clear h
 have HC4:=Aside0.mk H
 clear H
 go_enter Try.func18,Try.ntmps18
 go_upto_region 1 with (first|((with_reducible refine gate_dst (N:=3) rfl ?_);refine zb (N:=3) (cs:=#[.slice A0_0 l0_0.length c0_0,.bool a0_1]) (t:=24) ?_;intro G218 hg w5 hbox hb;have K218:=Aside0.mk (hbox);have GW218:=zN HB hg;have GE218:=zN HB hg;replace HB:=zS HB hb;clear hb hbox hg)|((with_reducible refine gate_dst (N:=6) rfl ?_);refine zb (N:=6) (cs:=#[.slice none 0 0,.bool false]) (t:=24) ?_;intro G219 hg w6 hbox hb;have K219:=Aside0.mk (hbox);have GW219:=zN HB hg;have GE219:=zN HB hg;replace HB:=zS HB hb;have NB218_219:=zL K218 hg;have NB219_218:=zG K218 hg;replace K218:=zB K218 hb;clear hb hbox hg))
 (try simp only [Act.put,xA,xB,xC])
 go_cut [24] (fun v24 wc => ∃ (kq : Nat) (x24_3 : Bool),v24 = .bool x24_3 ∧ Aside0 (beaconref17_Keep.j0 kq l1 a2 x24_3 l0_0 a0_1 = some (r1,r2,r3)) ∧ Aside0 (kq ≤ k) ∧ Aside0 (wc.heap[G218]? = some (.cells #[(.slice A0_0 l0_0.length c0_0),.bool a0_1] 24 (0,0))) ∧ Aside0 (wc.heap[G219]? = some (.cells #[(.slice none 0 0),.bool false] 24 (0,0))) ∧ Aside0 (Below w.heap.size w wc))
 case first =>
  have H:=HC4.out
  clear HC4
  replace H:=Option.bind_eq_some_iff.mp H
  obtain ⟨t220,A70,H⟩:=H
  replace H : (if t220 = true then ((beaconref17_may.f k l1).bind fun t221 => (if t221 = true then (beaconref17_Keep.j0 k l1 a2 (decide (a2 < 0)) l0_0 a0_1) else (beaconref17_Keep.j0 k l1 a2 true l0_0 a0_1))) else (beaconref17_Keep.j0 k l1 a2 true l0_0 a0_1)) = some (r1,r2,r3):=H
  have A7:=Aside0.mk A70
  clear A70
  by_cases c8 : t220 = true
  ·subst c8
   have H1 : ((beaconref17_may.f k l1).bind fun t221 => (if t221 = true then (beaconref17_Keep.j0 k l1 a2 (decide (a2 < 0)) l0_0 a0_1) else (beaconref17_Keep.j0 k l1 a2 true l0_0 a0_1))) = some (r1,r2,r3):=by rw [if_pos rfl] at H;exact H
   clear H
   have H:=H1
   clear H1
   replace H:=Option.bind_eq_some_iff.mp H
   obtain ⟨t221,A90,H⟩:=H
   replace H : (if t221 = true then (beaconref17_Keep.j0 k l1 a2 (decide (a2 < 0)) l0_0 a0_1) else (beaconref17_Keep.j0 k l1 a2 true l0_0 a0_1)) = some (r1,r2,r3):=H
   have A9:=Aside0.mk A90
   clear A90
   by_cases c10 : t221 = true
   ·subst c10
    have H1 : (beaconref17_Keep.j0 k l1 a2 (decide (a2 < 0)) l0_0 a0_1) = some (r1,r2,r3):=by rw [if_pos rfl] at H;exact H
    clear H
    have H:=H1
    clear H1
    have H':=Aside0.mk H
    clear H
    have hnb11:=NB218_219.1
    have hnc11:=NB219_218.1
    have hcz12_0 : w6.cell? ⟨G218,0,none⟩ = some (.slice A0_0 l0_0.length c0_0):=zk K218 0
    have hcz12_1 : w6.cell? ⟨G218,1,none⟩ = some (.bool a0_1):=zk K218 1
    have hfz12_0:=bF K218.1 0
    have hfz12_1:=bF K218.1 1
    go_wp2_with (first|((with_reducible refine gate_callee (f:=43) rfl ?_);refine zg (some 14) Try.func43 #[.slice A0_0 l0_0.length c0_0] ?_;(with_reducible refine (beaconref17_may.calls k _ _ l0_0 true _ ?side1 ?side2 A7.out).mono ?_);(case side1 => exact zC (Kd.C_below HR0_0.out HB.1));(case side2 => exact HC0_0.out);rintro e w13 ⟨rfl,hb⟩;refine ⟨_,rfl,?_⟩;replace K218:=zB K218 hb;replace K219:=zB K219 hb;replace HB:=zS HB hb;(try clear hb))|(go_at_call 43;(with_reducible refine (beaconref17_may.calls k _ _ l1 true _ ?side1 ?side2 A9.out).mono ?_);(case side1 => exact zC (Kd.C_below HR1.out HB.1));(case side2 => exact HC1.out);rintro e w14 ⟨rfl,hb⟩;replace K218:=zB K218 hb;replace K219:=zB K219 hb;replace HB:=zS HB hb;(try clear hb)))
    go_meet
    case rel => exact ⟨_,(decide (a2 < 0)),ze,H',⟨zo⟩,⟨z1 K218.1⟩,⟨z1 K219.1⟩,⟨zH HB⟩⟩
   ·replace c10:=Bool.eq_false_iff.mpr c10
    subst c10
    have H1 : (beaconref17_Keep.j0 k l1 a2 true l0_0 a0_1) = some (r1,r2,r3):=by rw [if_neg (show ¬ (false = true) by decide)] at H;exact H
    clear H
    have H:=H1
    clear H1
    have H':=Aside0.mk H
    clear H
    have hnb15:=NB218_219.1
    have hnc15:=NB219_218.1
    have hcz16_0 : w6.cell? ⟨G218,0,none⟩ = some (.slice A0_0 l0_0.length c0_0):=zk K218 0
    have hcz16_1 : w6.cell? ⟨G218,1,none⟩ = some (.bool a0_1):=zk K218 1
    have hfz16_0:=bF K218.1 0
    have hfz16_1:=bF K218.1 1
    go_wp2_with (first|((with_reducible refine gate_callee (f:=43) rfl ?_);refine zg (some 14) Try.func43 #[.slice A0_0 l0_0.length c0_0] ?_;(with_reducible refine (beaconref17_may.calls k _ _ l0_0 true _ ?side1 ?side2 A7.out).mono ?_);(case side1 => exact zC (Kd.C_below HR0_0.out HB.1));(case side2 => exact HC0_0.out);rintro e w17 ⟨rfl,hb⟩;refine ⟨_,rfl,?_⟩;replace K218:=zB K218 hb;replace K219:=zB K219 hb;replace HB:=zS HB hb;(try clear hb))|(go_at_call 43;(with_reducible refine (beaconref17_may.calls k _ _ l1 false _ ?side1 ?side2 A9.out).mono ?_);(case side1 => exact zC (Kd.C_below HR1.out HB.1));(case side2 => exact HC1.out);rintro e w18 ⟨rfl,hb⟩;replace K218:=zB K218 hb;replace K219:=zB K219 hb;replace HB:=zS HB hb;(try clear hb)))
    go_meet
    case rel => exact ⟨_,(true),ze,H',⟨zo⟩,⟨z1 K218.1⟩,⟨z1 K219.1⟩,⟨zH HB⟩⟩
  ·replace c8:=Bool.eq_false_iff.mpr c8
   subst c8
   have H1 : (beaconref17_Keep.j0 k l1 a2 true l0_0 a0_1) = some (r1,r2,r3):=by rw [if_neg (show ¬ (false = true) by decide)] at H;exact H
   clear H
   have H:=H1
   clear H1
   have H':=Aside0.mk H
   clear H
   have hnb19:=NB218_219.1
   have hnc19:=NB219_218.1
   have hcz20_0 : w6.cell? ⟨G218,0,none⟩ = some (.slice A0_0 l0_0.length c0_0):=zk K218 0
   have hcz20_1 : w6.cell? ⟨G218,1,none⟩ = some (.bool a0_1):=zk K218 1
   have hfz20_0:=bF K218.1 0
   have hfz20_1:=bF K218.1 1
   go_wp2_with (first|((with_reducible refine gate_callee (f:=43) rfl ?_);refine zg (some 14) Try.func43 #[.slice A0_0 l0_0.length c0_0] ?_;(with_reducible refine (beaconref17_may.calls k _ _ l0_0 false _ ?side1 ?side2 A7.out).mono ?_);(case side1 => exact zC (Kd.C_below HR0_0.out HB.1));(case side2 => exact HC0_0.out);rintro e w21 ⟨rfl,hb⟩;refine ⟨_,rfl,?_⟩;replace K218:=zB K218 hb;replace K219:=zB K219 hb;replace HB:=zS HB hb;(try clear hb)))
   go_meet
   case rel => exact ⟨_,(true),ze,H',⟨zo⟩,⟨z1 K218.1⟩,⟨z1 K219.1⟩,⟨zH HB⟩⟩
 case rest =>
  clear HC4
  try clear c1;try clear p2;try clear c4;try clear c8;try clear c10;try clear c11;try clear c15;try clear c18;try clear c19;try clear hcz12_0;try clear hcz12_1;try clear hcz16_0;try clear hcz16_1;try clear hcz20_0;try clear hcz20_1;try clear hfz12_0;try clear hfz12_1;try clear hfz16_0;try clear hfz16_1;try clear hfz20_0;try clear hfz20_1
  obtain ⟨kq,x24_3,rfl,HA,HJ3,K218,K219,HB⟩:=hcut
  cases kq with
  | zero => exact absurd HA.out (by simp [beaconref17_Keep.j0])
  | succ kj3 =>
   have H:=HA.out
   clear HA
   simp only [beaconref17_Keep.j0] at H
   by_cases c22 : x24_3 = true
   ·subst c22
    have H1 : (some (([] : List (S39)),false,1)) = some (r1,r2,r3):=by rw [if_pos rfl] at H;exact H
    clear H
    have H:=H1
    clear H1
    simp only [Option.some.injEq,Prod.mk.injEq] at H
    obtain ⟨rfl,rfl,rfl⟩:=H
    have hnb23:=NB219_218.1
    have hnc23:=NB218_219.1
    have hcz24_0 : wc.cell? ⟨G219,0,none⟩ = some (.slice none 0 0):=zk K219 0
    have hcz24_1 : wc.cell? ⟨G219,1,none⟩ = some (.bool false):=zk K219 1
    have hfz24_0:=bF K219.1 0
    have hfz24_1:=bF K219.1 1
    go_wp2
    refine bodyPost_ret (results_ct rfl _ _ G219 24 #[.slice none 0 0,.bool false] (0,0) _ rfl (zF K219) Try.underlying24 rfl (by kernel_rfl)) rfl ?_
    exact ⟨_,by first|rfl|(simp [errW_none,errW_some] <;> rfl)|(simp [*,errW_none,errW_some] <;> rfl),by first|exact Kd.R_nil _ _ _ _ _|exact Kd.N_nil _ _ _ _ _|exact Kd.V_nil _ _ _ _ _|exact Kd.Q_nil _ _ _ _ _|exact Kd.S_nil _ _ _ _ _,zH HB⟩
   ·replace c22:=Bool.eq_false_iff.mpr c22
    subst c22
    have H1 : (beaconref17_Keep.l0 kj3 l1 a2 0 0 l0_0 a0_1) = some (r1,r2,r3):=by rw [if_neg (show ¬ (false = true) by decide)] at H;exact H
    clear H
    have H:=H1
    clear H1
    have H':=Aside0.mk H
    clear H
    go_wp2
    go_loopg [8,9] kj3 (fun kq v8 v9 w' => ∃ (x8_2 : Int) (x9_2 : Int),v8 = .int .i64 x8_2 ∧ v9 = .int .i64 x9_2 ∧ Aside0 (beaconref17_Keep.l0 kq l1 a2 x8_2 x9_2 l0_0 a0_1 = some (r1,r2,r3)) ∧ Aside0 (kq ≤ kj3) ∧ Aside0 (w'.heap[G218]? = some (.cells #[(.slice A0_0 l0_0.length c0_0),.bool a0_1] 24 (0,0))) ∧ Aside0 (w'.heap[G219]? = some (.cells #[(.slice none 0 0),.bool false] 24 (0,0))) ∧ Aside0 (Below w.heap.size w w'))
    case atStart => exact ⟨(0),(0),ze,ze,H',⟨Nat.le_refl _⟩,⟨z1 K218.1⟩,⟨z1 K219.1⟩,⟨zH HB⟩⟩
    case round =>
     clear H'
     try clear c1;try clear c2;try clear p2;try clear c4;try clear c8;try clear c10;try clear c11;try clear c15;try clear c18;try clear c19;try clear c22;try clear c23;try clear hcz12_0;try clear hcz12_1;try clear hcz16_0;try clear hcz16_1;try clear hcz20_0;try clear hcz20_1;try clear hcz24_0;try clear hcz24_1;try clear hfz12_0;try clear hfz12_1;try clear hfz16_0;try clear hfz16_1;try clear hfz20_0;try clear hfz20_1;try clear hfz24_0;try clear hfz24_1;try clear p2
     obtain ⟨x8_2,x9_2,rfl,rfl,HA,HK2,K218,K219,HB⟩:=hrel
     cases gk with
     | zero => exact absurd HA.out (by simp [beaconref17_Keep.l0])
     | succ k2 =>
      have H:=HA.out
      clear HA
      simp only [beaconref17_Keep.l0] at H
      by_cases c25 : x9_2 < (l1.length : Int)
      ·rw [if_pos c25] at H
       have c25b0 : decide (x9_2 < (l1.length : Int)) = true:=decide_eq_true c25
       clear c25
       by_cases c26 : 0 ≤ x9_2
       ·rw [if_pos c26] at H
        have c26b0 : decide (0 ≤ x9_2) = true:=decide_eq_true c26
        clear c26
        replace H:=Option.bind_eq_some_iff.mp H
        obtain ⟨t223,A270,H⟩:=H
        replace H : (if t223 = true then (beaconref17_Keep.l0 k2 l1 a2 (wrap64 (x8_2 + 1)) (wrap64 (x9_2 + 1)) l0_0 a0_1) else (beaconref17_Keep.l0 k2 l1 a2 x8_2 (wrap64 (x9_2 + 1)) l0_0 a0_1)) = some (r1,r2,r3):=H
        have A27:=Aside0.mk A270
        clear A270
        by_cases c28 : t223 = true
        ·subst c28
         have H1 : (beaconref17_Keep.l0 k2 l1 a2 (wrap64 (x8_2 + 1)) (wrap64 (x9_2 + 1)) l0_0 a0_1) = some (r1,r2,r3):=by rw [if_pos rfl] at H;exact H
         clear H
         have H:=H1
         clear H1
         have H':=Aside0.mk H
         clear H
         try go_wp2
         replace K218:=Aside0.mk (bD K218.1)
         replace K219:=Aside0.mk (bD K219.1)
         replace HB:=Aside0.mk (bw1 HB.1)
         have p222 : 0 ≤ (x9_2 : Int):=zd
         have q222 : x9_2 < (l1.length : Int):=zd
         obtain ⟨ad222,e222,hx222_0,hx222_1,hx222_2,hx222_3,hx222_4,hx222_5⟩:=at_T39 HR1.out x9_2 p222 q222
         have hw222_5:=hx222_5
         have hw222_4:=hx222_4
         have hw222_3:=hx222_3
         have hw222_2:=hx222_2
         have hw222_1:=hx222_1
         have hw222_0:=hx222_0
         cases e222
         replace hx222_0:=zh HB hx222_0
         replace hx222_1:=zh HB hx222_1
         replace hx222_2:=zh HB hx222_2
         replace hx222_3:=zh HB hx222_3
         replace hx222_4:=zh HB hx222_4
         replace hx222_5:=zh HB hx222_5
         replace p222:=eq_true p222
         replace q222:=eq_true q222
         refine start_ (n:=7) (S:=fun w' => w'.cell? ⟨G218,0,none⟩ = some (.slice A0_0 l0_0.length c0_0) ∧ w'.cell? ⟨G218,1,none⟩ = some (.bool a0_1) ∧ w'.cell? (ad222.add ((x9_2).toNat * 6)) = some (.int .i64 ((rd_T39 l1 x9_2).f0)) ∧ w'.cell? ⟨(ad222.add ((x9_2).toNat * 6)).block,(ad222.add ((x9_2).toNat * 6)).off + 1,none⟩ = some (.int .i64 ((rd_T39 l1 x9_2).f1)) ∧ w'.cell? ⟨(ad222.add ((x9_2).toNat * 6)).block,(ad222.add ((x9_2).toNat * 6)).off + 2,none⟩ = some (.float .f64 ((rd_T39 l1 x9_2).f2)) ∧ w'.cell? ⟨(ad222.add ((x9_2).toNat * 6)).block,(ad222.add ((x9_2).toNat * 6)).off + 3,none⟩ = some (.int .i64 ((rd_T39 l1 x9_2).f3)) ∧ w'.cell? ⟨(ad222.add ((x9_2).toNat * 6)).block,(ad222.add ((x9_2).toNat * 6)).off + 4,none⟩ = some (.float .f64 ((rd_T39 l1 x9_2).f4)) ∧ w'.cell? ⟨(ad222.add ((x9_2).toNat * 6)).block,(ad222.add ((x9_2).toNat * 6)).off + 5,none⟩ = some (.int .i64 ((rd_T39 l1 x9_2).f5))) (ds:=[]) #[F,F,F,F,F,F,F] (by kernel_rfl) rfl rfl ⟨zk K218 0,zk K218 1,(zh HB hw222_0),(zh HB hw222_1),(zh HB hw222_2),(zh HB hw222_3),(zh HB hw222_4),(zh HB hw222_5)⟩ (fun hHeld => ?_)
         generalize wr.drew = w29 at K218 K219 HB hx222_0 hx222_1 hx222_2 hx222_3 hx222_4 hx222_5 hHeld ⊢
         refine pk 0 32 #[T,F,F,F,F,F,F] ?_
         refine pk 2 34 #[T,F,T,F,F,F,F] ?_
         refine pk 3 35 #[T,F,T,T,F,F,F] ?_
         refine pk 4 36 #[T,F,T,T,T,F,F] ?_
         refine tk 1 33 #[T,T,T,T,T,F,F] hHeld ?_
         refine tk 5 37 #[T,T,T,T,T,T,F] hHeld ?_
         refine one_ (i:=6) (N:=some 38) #[T,T,T,T,T,T,T] rfl rfl (by kernel_rfl) (by decide) (fun K hK => ?_)
         refine goes_ Try.func49 (by kernel_rfl) rfl #[.slice A0_0 l0_0.length c0_0,.agg #[.int .i64 ((rd_T39 l1 x9_2).f0),.int .i64 ((rd_T39 l1 x9_2).f1),.float .f64 ((rd_T39 l1 x9_2).f2),.int .i64 ((rd_T39 l1 x9_2).f3),.float .f64 ((rd_T39 l1 x9_2).f4),.int .i64 ((rd_T39 l1 x9_2).f5)]] (by rfl) rfl rfl (by (try simp only [List.map_toArray,List.map_cons,List.map_nil]);first|done|rfl|(simp only [List.length_drop,List.length_take];rfl)) ?_
         with_reducible refine (beaconref17_has.calls k2 _ _ l0_0 ((rd_T39 l1 x9_2).f0) ((rd_T39 l1 x9_2).f1) ((rd_T39 l1 x9_2).f2) ((rd_T39 l1 x9_2).f3) ((rd_T39 l1 x9_2).f4) ((rd_T39 l1 x9_2).f5) true _ ?side1 ?side2 A27.out).mono ?_
         (case side1 => exact zC (Kd.C_below HR0_0.out HB.1))
         (case side2 => exact HC0_0.out)
         rintro e w30 ⟨rfl,hb⟩
         refine ⟨_,rfl,?_⟩
         replace K218:=zB K218 hb
         replace K219:=zB K219 hb
         replace HB:=zS HB hb
         (try clear hb)
         (try clear hb2)
         (try clear hk)
         (try clear hi)
         refine hK.out _ _ ⟨zk K218 0,zk K218 1,(zh HB hw222_0),(zh HB hw222_1),(zh HB hw222_2),(zh HB hw222_3),(zh HB hw222_4),(zh HB hw222_5)⟩ (fun hHeld => ?_)
         clear hK K
         refine nz 38 ?_
         refine done_ (by kernel_rfl) ?_
         try go_wp2
         go_roundg k2
         case measure => have:=HJ3.out;have:=HK2.out;omega
         case rel => exact ⟨(wrap64 (x8_2 + 1)),(wrap64 (x9_2 + 1)),ze,ze,H',⟨by have:=HJ3.out;have:=HK2.out;omega⟩,⟨z1 K218.1⟩,⟨z1 K219.1⟩,⟨zH HB⟩⟩
        ·replace c28:=Bool.eq_false_iff.mpr c28
         subst c28
         have H1 : (beaconref17_Keep.l0 k2 l1 a2 x8_2 (wrap64 (x9_2 + 1)) l0_0 a0_1) = some (r1,r2,r3):=by rw [if_neg (show ¬ (false = true) by decide)] at H;exact H
         clear H
         have H:=H1
         clear H1
         have H':=Aside0.mk H
         clear H
         try go_wp2
         replace K218:=Aside0.mk (bD K218.1)
         replace K219:=Aside0.mk (bD K219.1)
         replace HB:=Aside0.mk (bw1 HB.1)
         have p222 : 0 ≤ (x9_2 : Int):=zd
         have q222 : x9_2 < (l1.length : Int):=zd
         obtain ⟨ad222,e222,hx222_0,hx222_1,hx222_2,hx222_3,hx222_4,hx222_5⟩:=at_T39 HR1.out x9_2 p222 q222
         have hw222_5:=hx222_5
         have hw222_4:=hx222_4
         have hw222_3:=hx222_3
         have hw222_2:=hx222_2
         have hw222_1:=hx222_1
         have hw222_0:=hx222_0
         cases e222
         replace hx222_0:=zh HB hx222_0
         replace hx222_1:=zh HB hx222_1
         replace hx222_2:=zh HB hx222_2
         replace hx222_3:=zh HB hx222_3
         replace hx222_4:=zh HB hx222_4
         replace hx222_5:=zh HB hx222_5
         replace p222:=eq_true p222
         replace q222:=eq_true q222
         refine start_ (n:=7) (S:=fun w' => w'.cell? ⟨G218,0,none⟩ = some (.slice A0_0 l0_0.length c0_0) ∧ w'.cell? ⟨G218,1,none⟩ = some (.bool a0_1) ∧ w'.cell? (ad222.add ((x9_2).toNat * 6)) = some (.int .i64 ((rd_T39 l1 x9_2).f0)) ∧ w'.cell? ⟨(ad222.add ((x9_2).toNat * 6)).block,(ad222.add ((x9_2).toNat * 6)).off + 1,none⟩ = some (.int .i64 ((rd_T39 l1 x9_2).f1)) ∧ w'.cell? ⟨(ad222.add ((x9_2).toNat * 6)).block,(ad222.add ((x9_2).toNat * 6)).off + 2,none⟩ = some (.float .f64 ((rd_T39 l1 x9_2).f2)) ∧ w'.cell? ⟨(ad222.add ((x9_2).toNat * 6)).block,(ad222.add ((x9_2).toNat * 6)).off + 3,none⟩ = some (.int .i64 ((rd_T39 l1 x9_2).f3)) ∧ w'.cell? ⟨(ad222.add ((x9_2).toNat * 6)).block,(ad222.add ((x9_2).toNat * 6)).off + 4,none⟩ = some (.float .f64 ((rd_T39 l1 x9_2).f4)) ∧ w'.cell? ⟨(ad222.add ((x9_2).toNat * 6)).block,(ad222.add ((x9_2).toNat * 6)).off + 5,none⟩ = some (.int .i64 ((rd_T39 l1 x9_2).f5))) (ds:=[]) #[F,F,F,F,F,F,F] (by kernel_rfl) rfl rfl ⟨zk K218 0,zk K218 1,(zh HB hw222_0),(zh HB hw222_1),(zh HB hw222_2),(zh HB hw222_3),(zh HB hw222_4),(zh HB hw222_5)⟩ (fun hHeld => ?_)
         generalize wr.drew = w31 at K218 K219 HB hx222_0 hx222_1 hx222_2 hx222_3 hx222_4 hx222_5 hHeld ⊢
         refine pk 0 32 #[T,F,F,F,F,F,F] ?_
         refine pk 2 34 #[T,F,T,F,F,F,F] ?_
         refine pk 3 35 #[T,F,T,T,F,F,F] ?_
         refine pk 4 36 #[T,F,T,T,T,F,F] ?_
         refine tk 1 33 #[T,T,T,T,T,F,F] hHeld ?_
         refine tk 5 37 #[T,T,T,T,T,T,F] hHeld ?_
         refine one_ (i:=6) (N:=some 38) #[T,T,T,T,T,T,T] rfl rfl (by kernel_rfl) (by decide) (fun K hK => ?_)
         refine goes_ Try.func49 (by kernel_rfl) rfl #[.slice A0_0 l0_0.length c0_0,.agg #[.int .i64 ((rd_T39 l1 x9_2).f0),.int .i64 ((rd_T39 l1 x9_2).f1),.float .f64 ((rd_T39 l1 x9_2).f2),.int .i64 ((rd_T39 l1 x9_2).f3),.float .f64 ((rd_T39 l1 x9_2).f4),.int .i64 ((rd_T39 l1 x9_2).f5)]] (by rfl) rfl rfl (by (try simp only [List.map_toArray,List.map_cons,List.map_nil]);first|done|rfl|(simp only [List.length_drop,List.length_take];rfl)) ?_
         with_reducible refine (beaconref17_has.calls k2 _ _ l0_0 ((rd_T39 l1 x9_2).f0) ((rd_T39 l1 x9_2).f1) ((rd_T39 l1 x9_2).f2) ((rd_T39 l1 x9_2).f3) ((rd_T39 l1 x9_2).f4) ((rd_T39 l1 x9_2).f5) false _ ?side1 ?side2 A27.out).mono ?_
         (case side1 => exact zC (Kd.C_below HR0_0.out HB.1))
         (case side2 => exact HC0_0.out)
         rintro e w32 ⟨rfl,hb⟩
         refine ⟨_,rfl,?_⟩
         replace K218:=zB K218 hb
         replace K219:=zB K219 hb
         replace HB:=zS HB hb
         (try clear hb)
         (try clear hb2)
         (try clear hk)
         (try clear hi)
         refine hK.out _ _ ⟨zk K218 0,zk K218 1,(zh HB hw222_0),(zh HB hw222_1),(zh HB hw222_2),(zh HB hw222_3),(zh HB hw222_4),(zh HB hw222_5)⟩ (fun hHeld => ?_)
         clear hK K
         refine nz 38 ?_
         refine done_ (by kernel_rfl) ?_
         try go_wp2
         go_roundg k2
         case measure => have:=HJ3.out;have:=HK2.out;omega
         case rel => exact ⟨(x8_2),(wrap64 (x9_2 + 1)),ze,ze,H',⟨by have:=HJ3.out;have:=HK2.out;omega⟩,⟨z1 K218.1⟩,⟨z1 K219.1⟩,⟨zH HB⟩⟩
       ·rw [if_neg c26] at H
        exact absurd H (by simp)
      ·rw [if_neg c25] at H
       have c25b0 : decide (x9_2 < (l1.length : Int)) = false:=decide_eq_false c25
       clear c25
       have H':=Aside0.mk H
       clear H
       have hnb33:=NB218_219.1
       have hnc33:=NB219_218.1
       have hcz34_0 : wr.cell? ⟨G218,0,none⟩ = some (.slice A0_0 l0_0.length c0_0):=zk K218 0
       have hcz34_1 : wr.cell? ⟨G218,1,none⟩ = some (.bool a0_1):=zk K218 1
       have hfz34_0:=bF K218.1 0
       have hfz34_1:=bF K218.1 1
       go_wp2_with (first|((with_reducible refine gate_dst (N:=10) rfl ?_);refine zb (N:=10) (cs:=#[.slice none 0 0,.bool false]) (t:=24) ?_;intro G224 hg w35 hbox hb;have K224:=Aside0.mk (hbox);have GW224:=zN HB hg;have GE224:=zN HB hg;replace HB:=zS HB hb;have NB218_224:=zL K218 hg;have NB224_218:=zG K218 hg;replace K218:=zB K218 hb;have NB219_224:=zL K219 hg;have NB224_219:=zG K219 hg;replace K219:=zB K219 hb;clear hb hbox hg;have hnb36:=NB224_218.1;have hnc36:=NB218_224.1;have hnb37:=NB224_219.1;have hnc37:=NB219_224.1;have hcz38_0 : w35.cell? ⟨G224,0,none⟩ = some (.slice none 0 0):=zk K224 0;have hcz38_1 : w35.cell? ⟨G224,1,none⟩ = some (.bool false):=zk K224 1;have hfz38_0:=bF K224.1 0;have hfz38_1:=bF K224.1 1))
       go_loopg [8,11] k2 (fun kq v8 v11 w' => ∃ (x8_3 : Int) (x11_3 : Int) (x225000_3 : List (S39)) (x225001_3 : Bool) (u225000 : Value),v8 = .int .i64 x8_3 ∧ v11 = .int .i64 x11_3 ∧ Aside0 (beaconref17_Keep.l1 kq l1 a2 x8_3 x11_3 l0_0 a0_1 x225000_3 x225001_3 = some (r1,r2,r3)) ∧ Aside0 (kq ≤ k2) ∧ Aside0 (Kd.R k39 39 w' w.heap.size (fun _ => True) u225000 x225000_3) ∧ Aside0 (w'.heap[G218]? = some (.cells #[(.slice A0_0 l0_0.length c0_0),.bool a0_1] 24 (0,0))) ∧ Aside0 (w'.heap[G219]? = some (.cells #[(.slice none 0 0),.bool false] 24 (0,0))) ∧ Aside0 (w'.heap[G224]? = some (.cells #[u225000,.bool x225001_3] 24 (0,0))) ∧ Aside0 (Below w.heap.size w w'))
       case atStart => exact ⟨(x8_2),(0),(([] : List (S39))),(a0_1),(.slice none 0 0),ze,ze,H',⟨Nat.le_refl _⟩,⟨by first|exact Kd.R_nil _ _ _ _ _|exact Kd.N_nil _ _ _ _ _|exact Kd.V_nil _ _ _ _ _|exact Kd.Q_nil _ _ _ _ _|exact Kd.S_nil _ _ _ _ _⟩,⟨zf K218⟩,⟨zf K219⟩,⟨zF K224⟩,⟨zH HB⟩⟩
       case round =>
        clear H'
        try clear c1;try clear c2;try clear p2;try clear q2;try clear hx2;try clear c3;try clear c4;try clear p6;try clear c8;try clear c10;try clear c11;try clear c15;try clear c18;try clear c19;try clear c22;try clear p22;try clear q22;try clear hx22;try clear c23;try clear c25;try clear c25b0;try clear c26;try clear c26b0;try clear c28;try clear c33;try clear c36;try clear c37;try clear hcz12_0;try clear hcz12_1;try clear hcz16_0;try clear hcz16_1;try clear hcz20_0;try clear hcz20_1;try clear hcz24_0;try clear hcz24_1;try clear hcz34_0;try clear hcz34_1;try clear hcz38_0;try clear hcz38_1;try clear hfz12_0;try clear hfz12_1;try clear hfz16_0;try clear hfz16_1;try clear hfz20_0;try clear hfz20_1;try clear hfz24_0;try clear hfz24_1;try clear hfz34_0;try clear hfz34_1;try clear hfz38_0;try clear hfz38_1;try clear hx222_0;try clear hx222_1;try clear hx222_2;try clear hx222_3;try clear hx222_4;try clear hx222_5;try clear p2;try clear p222;try clear q222
        obtain ⟨x8_3,x11_3,x225000_3,x225001_3,u225000,rfl,rfl,HA,HK3,HO_225000,K218,K219,K224,HB⟩:=hrel
        cases gk with
        | zero => exact absurd HA.out (by simp [beaconref17_Keep.l1])
        | succ k3 =>
         have H:=HA.out
         clear HA
         simp only [beaconref17_Keep.l1] at H
         by_cases c39 : x11_3 < (l1.length : Int)
         ·rw [if_pos c39] at H
          have c39b0 : decide (x11_3 < (l1.length : Int)) = true:=decide_eq_true c39
          clear c39
          by_cases c40 : 0 ≤ x11_3
          ·rw [if_pos c40] at H
           have c40b0 : decide (0 ≤ x11_3) = true:=decide_eq_true c40
           clear c40
           replace H:=Option.bind_eq_some_iff.mp H
           obtain ⟨t226,A410,H⟩:=H
           replace H : (if t226 = true then (if x225000_3.length < 2932031007402 then (beaconref17_Keep.l1 k3 l1 a2 x8_3 (wrap64 (x11_3 + 1)) l0_0 a0_1 (x225000_3 ++ [(⟨(rd_T39 l1 x11_3).f0,(rd_T39 l1 x11_3).f1,(rd_T39 l1 x11_3).f2,(rd_T39 l1 x11_3).f3,(rd_T39 l1 x11_3).f4,(rd_T39 l1 x11_3).f5⟩ : S39)]) x225001_3) else (none)) else (if x8_3 < a2 then (if x225000_3.length < 2932031007402 then (beaconref17_Keep.l1 k3 l1 a2 (wrap64 (x8_3 + 1)) (wrap64 (x11_3 + 1)) l0_0 a0_1 (x225000_3 ++ [(⟨(rd_T39 l1 x11_3).f0,(rd_T39 l1 x11_3).f1,(rd_T39 l1 x11_3).f2,(rd_T39 l1 x11_3).f3,(rd_T39 l1 x11_3).f4,(rd_T39 l1 x11_3).f5⟩ : S39)]) x225001_3) else (none)) else (beaconref17_Keep.l1 k3 l1 a2 x8_3 (wrap64 (x11_3 + 1)) l0_0 a0_1 x225000_3 true))) = some (r1,r2,r3):=H
           have A41:=Aside0.mk A410
           clear A410
           by_cases c42 : t226 = true
           ·subst c42
            have H1 : (if x225000_3.length < 2932031007402 then (beaconref17_Keep.l1 k3 l1 a2 x8_3 (wrap64 (x11_3 + 1)) l0_0 a0_1 (x225000_3 ++ [(⟨(rd_T39 l1 x11_3).f0,(rd_T39 l1 x11_3).f1,(rd_T39 l1 x11_3).f2,(rd_T39 l1 x11_3).f3,(rd_T39 l1 x11_3).f4,(rd_T39 l1 x11_3).f5⟩ : S39)]) x225001_3) else (none)) = some (r1,r2,r3):=by rw [if_pos rfl] at H;exact H
            clear H
            have H:=H1
            clear H1
            by_cases c43 : x225000_3.length < 2932031007402
            ·rw [if_pos c43] at H
             have LMc43:=Aside0.mk c43
             clear c43
             obtain ⟨y228,hy228⟩ : ∃ y_ : List (S39),y_ = (x225000_3 ++ [(⟨(rd_T39 l1 x11_3).f0,(rd_T39 l1 x11_3).f1,(rd_T39 l1 x11_3).f2,(rd_T39 l1 x11_3).f3,(rd_T39 l1 x11_3).f4,(rd_T39 l1 x11_3).f5⟩ : S39)]):=⟨_,rfl⟩
             replace H : (beaconref17_Keep.l1 k3 l1 a2 x8_3 (wrap64 (x11_3 + 1)) l0_0 a0_1 y228 x225001_3) = some (r1,r2,r3):=by first|(rw [hy228];with_reducible exact H)|(have H2_:=(Option.bind_some _ _).symm.trans H;rw [hy228];with_reducible exact H2_)|(have H2_:=(Option.bind_some _ _).symm.trans H;with_reducible exact H2_)|with_reducible exact H|(rw [hy228];exact H)|exact H
             have Ny228:=Aside0.mk hy228
             clear hy228
             have H':=Aside0.mk H
             clear H
             try go_wp2
             replace HO_225000:=Aside0.mk (Kd.R_drew HO_225000.out)
             replace K218:=Aside0.mk (bD K218.1)
             replace K219:=Aside0.mk (bD K219.1)
             replace K224:=Aside0.mk (bD K224.1)
             replace HB:=Aside0.mk (bw1 HB.1)
             have p225 : 0 ≤ (x11_3 : Int):=zd
             have q225 : x11_3 < (l1.length : Int):=zd
             obtain ⟨ad225,e225,hx225_0,hx225_1,hx225_2,hx225_3,hx225_4,hx225_5⟩:=at_T39 HR1.out x11_3 p225 q225
             have hw225_5:=hx225_5
             have hw225_4:=hx225_4
             have hw225_3:=hx225_3
             have hw225_2:=hx225_2
             have hw225_1:=hx225_1
             have hw225_0:=hx225_0
             cases e225
             replace hx225_0:=zh HB hx225_0
             replace hx225_1:=zh HB hx225_1
             replace hx225_2:=zh HB hx225_2
             replace hx225_3:=zh HB hx225_3
             replace hx225_4:=zh HB hx225_4
             replace hx225_5:=zh HB hx225_5
             replace p225:=eq_true p225
             replace q225:=eq_true q225
             refine start_ (n:=7) (S:=fun w' => w'.cell? ⟨G218,0,none⟩ = some (.slice A0_0 l0_0.length c0_0) ∧ w'.cell? ⟨G218,1,none⟩ = some (.bool a0_1) ∧ w'.cell? (ad225.add ((x11_3).toNat * 6)) = some (.int .i64 ((rd_T39 l1 x11_3).f0)) ∧ w'.cell? ⟨(ad225.add ((x11_3).toNat * 6)).block,(ad225.add ((x11_3).toNat * 6)).off + 1,none⟩ = some (.int .i64 ((rd_T39 l1 x11_3).f1)) ∧ w'.cell? ⟨(ad225.add ((x11_3).toNat * 6)).block,(ad225.add ((x11_3).toNat * 6)).off + 2,none⟩ = some (.float .f64 ((rd_T39 l1 x11_3).f2)) ∧ w'.cell? ⟨(ad225.add ((x11_3).toNat * 6)).block,(ad225.add ((x11_3).toNat * 6)).off + 3,none⟩ = some (.int .i64 ((rd_T39 l1 x11_3).f3)) ∧ w'.cell? ⟨(ad225.add ((x11_3).toNat * 6)).block,(ad225.add ((x11_3).toNat * 6)).off + 4,none⟩ = some (.float .f64 ((rd_T39 l1 x11_3).f4)) ∧ w'.cell? ⟨(ad225.add ((x11_3).toNat * 6)).block,(ad225.add ((x11_3).toNat * 6)).off + 5,none⟩ = some (.int .i64 ((rd_T39 l1 x11_3).f5))) (ds:=[]) #[F,F,F,F,F,F,F] (by kernel_rfl) rfl rfl ⟨zk K218 0,zk K218 1,(zh HB hw225_0),(zh HB hw225_1),(zh HB hw225_2),(zh HB hw225_3),(zh HB hw225_4),(zh HB hw225_5)⟩ (fun hHeld => ?_)
             generalize wr.drew = w44 at HO_225000 K218 K219 K224 HB hx225_0 hx225_1 hx225_2 hx225_3 hx225_4 hx225_5 hHeld ⊢
             refine pk 0 50 #[T,F,F,F,F,F,F] ?_
             refine pk 2 52 #[T,F,T,F,F,F,F] ?_
             refine pk 3 53 #[T,F,T,T,F,F,F] ?_
             refine pk 4 54 #[T,F,T,T,T,F,F] ?_
             refine tk 1 51 #[T,T,T,T,T,F,F] hHeld ?_
             refine tk 5 55 #[T,T,T,T,T,T,F] hHeld ?_
             refine one_ (i:=6) (N:=some 56) #[T,T,T,T,T,T,T] rfl rfl (by kernel_rfl) (by decide) (fun K hK => ?_)
             refine goes_ Try.func49 (by kernel_rfl) rfl #[.slice A0_0 l0_0.length c0_0,.agg #[.int .i64 ((rd_T39 l1 x11_3).f0),.int .i64 ((rd_T39 l1 x11_3).f1),.float .f64 ((rd_T39 l1 x11_3).f2),.int .i64 ((rd_T39 l1 x11_3).f3),.float .f64 ((rd_T39 l1 x11_3).f4),.int .i64 ((rd_T39 l1 x11_3).f5)]] (by rfl) rfl rfl (by (try simp only [List.map_toArray,List.map_cons,List.map_nil]);first|done|rfl|(simp only [List.length_drop,List.length_take];rfl)) ?_
             with_reducible refine (beaconref17_has.calls k3 _ _ l0_0 ((rd_T39 l1 x11_3).f0) ((rd_T39 l1 x11_3).f1) ((rd_T39 l1 x11_3).f2) ((rd_T39 l1 x11_3).f3) ((rd_T39 l1 x11_3).f4) ((rd_T39 l1 x11_3).f5) true _ ?side1 ?side2 A41.out).mono ?_
             (case side1 => exact zC (Kd.C_below HR0_0.out HB.1))
             (case side2 => exact HC0_0.out)
             rintro e w45 ⟨rfl,hb⟩
             refine ⟨_,rfl,?_⟩
             replace HO_225000:=Aside0.mk (Kd.R_below (zR HO_225000) hb)
             replace K218:=zB K218 hb
             replace K219:=zB K219 hb
             replace K224:=zB K224 hb
             replace HB:=zS HB hb
             (try clear hb)
             (try clear hb2)
             (try clear hk)
             (try clear hi)
             refine hK.out _ _ ⟨zk K218 0,zk K218 1,(zh HB hw225_0),(zh HB hw225_1),(zh HB hw225_2),(zh HB hw225_3),(zh HB hw225_4),(zh HB hw225_5)⟩ (fun hHeld => ?_)
             clear hK K
             refine nz 56 ?_
             refine done_ (by kernel_rfl) ?_
             try go_wp2
             replace HO_225000:=Aside0.mk (Kd.R_drew HO_225000.out)
             replace K218:=Aside0.mk (bD K218.1)
             replace K219:=Aside0.mk (bD K219.1)
             replace K224:=Aside0.mk (bD K224.1)
             replace HB:=Aside0.mk (bw1 HB.1)
             have p227 : 0 ≤ (x11_3 : Int):=zd
             have q227 : x11_3 < (l1.length : Int):=zd
             obtain ⟨ad227,e227,hx227_0,hx227_1,hx227_2,hx227_3,hx227_4,hx227_5⟩:=at_T39 HR1.out x11_3 p227 q227
             have hw227_5:=hx227_5
             have hw227_4:=hx227_4
             have hw227_3:=hx227_3
             have hw227_2:=hx227_2
             have hw227_1:=hx227_1
             have hw227_0:=hx227_0
             obtain rfl : ad225 = ad227:=(by injection e227)
             replace hx227_0:=zh HB hx227_0
             replace hx227_1:=zh HB hx227_1
             replace hx227_2:=zh HB hx227_2
             replace hx227_3:=zh HB hx227_3
             replace hx227_4:=zh HB hx227_4
             replace hx227_5:=zh HB hx227_5
             replace p227:=eq_true p227
             replace q227:=eq_true q227
             refine start_ (n:=10) (S:=fun w' => w'.cell? ⟨G224,0,none⟩ = some (u225000) ∧ w'.cell? ⟨G224,1,none⟩ = some (.bool x225001_3) ∧ w'.cell? (ad225.add ((x11_3).toNat * 6)) = some (.int .i64 ((rd_T39 l1 x11_3).f0)) ∧ w'.cell? ⟨(ad225.add ((x11_3).toNat * 6)).block,(ad225.add ((x11_3).toNat * 6)).off + 1,none⟩ = some (.int .i64 ((rd_T39 l1 x11_3).f1)) ∧ w'.cell? ⟨(ad225.add ((x11_3).toNat * 6)).block,(ad225.add ((x11_3).toNat * 6)).off + 2,none⟩ = some (.float .f64 ((rd_T39 l1 x11_3).f2)) ∧ w'.cell? ⟨(ad225.add ((x11_3).toNat * 6)).block,(ad225.add ((x11_3).toNat * 6)).off + 3,none⟩ = some (.int .i64 ((rd_T39 l1 x11_3).f3)) ∧ w'.cell? ⟨(ad225.add ((x11_3).toNat * 6)).block,(ad225.add ((x11_3).toNat * 6)).off + 4,none⟩ = some (.float .f64 ((rd_T39 l1 x11_3).f4)) ∧ w'.cell? ⟨(ad225.add ((x11_3).toNat * 6)).block,(ad225.add ((x11_3).toNat * 6)).off + 5,none⟩ = some (.int .i64 ((rd_T39 l1 x11_3).f5))) (ds:=[9]) #[F,F,F,F,F,F,F,F,F,F] (by kernel_rfl) rfl rfl ⟨zk K224 0,zk K224 1,(zh HB hw227_0),(zh HB hw227_1),(zh HB hw227_2),(zh HB hw227_3),(zh HB hw227_4),(zh HB hw227_5)⟩ (fun hHeld => ?_);refine with_tabW beaconref17_Keep.tab14 beaconref17_Keep.bits14 (fun HT_ HW_ => ?_)
             generalize w45.drew = w46 at HO_225000 K218 K219 K224 HB hx227_0 hx227_1 hx227_2 hx227_3 hx227_4 hx227_5 hHeld ⊢
             refine pz 0 57 #[T,F,F,F,F,F,F,F,F,F] HT_.1 ?_
             refine pz 2 59 #[T,F,T,F,F,F,F,F,F,F] HT_.1 ?_
             refine pz 3 60 #[T,F,T,T,F,F,F,F,F,F] HT_.1 ?_
             refine pz 4 61 #[T,F,T,T,T,F,F,F,F,F] HT_.1 ?_
             refine tz 1 58 #[T,T,T,T,T,F,F,F,F,F] HT_.1 HW_.1 hHeld ?_
             refine tz 5 62 #[T,T,T,T,T,T,F,F,F,F] HT_.1 HW_.1 hHeld ?_
             refine one_ (i:=6) (N:=some 63) #[T,T,T,T,T,T,T,F,F,F] rfl rfl (one_of HT_.out (by kernel_rfl)) (by decide) (fun K hK => ?_)
             refine value_ (w1:=?_) (v:=?_) (by rfl) rfl ?_ ?_
             rotate_left 2
             ·go_simp
              constructor
              ·rfl
              ·rfl
             refine hK.out _ _ ⟨(bC (bA K224.1 _) 0).trans rfl,(bC (bA K224.1 _) 1).trans rfl,(World.cell?_alloc_lt _ _ _ (World.block_lt_of_cell? _ _ ((zh HB hw227_0)))).trans ((zh HB hw227_0)),(World.cell?_alloc_lt _ _ _ (World.block_lt_of_cell? _ _ ((zh HB hw227_1)))).trans ((zh HB hw227_1)),(World.cell?_alloc_lt _ _ _ (World.block_lt_of_cell? _ _ ((zh HB hw227_2)))).trans ((zh HB hw227_2)),(World.cell?_alloc_lt _ _ _ (World.block_lt_of_cell? _ _ ((zh HB hw227_3)))).trans ((zh HB hw227_3)),(World.cell?_alloc_lt _ _ _ (World.block_lt_of_cell? _ _ ((zh HB hw227_4)))).trans ((zh HB hw227_4)),(World.cell?_alloc_lt _ _ _ (World.block_lt_of_cell? _ _ ((zh HB hw227_5)))).trans ((zh HB hw227_5))⟩ (fun hHeld => ?_)
             clear hK K
             refine nz 63 ?_
             refine one_ (i:=7) (N:=some 64) #[T,T,T,T,T,T,T,T,F,F] rfl rfl (one_of HT_.out (by kernel_rfl)) (by decide) (fun K hK => ?_)
             refine Kd.R_append_step k39 (w0:=w) w.heap.size (by rfl) (.tmp 58) (.tmp 63) 22 39 (.agg #[(.int .i64 0),(.int .i64 0),(.float .f64 0),(.int .i64 0),(.float .f64 0),(.int .i64 0)]) 48 rfl Try.underlying22 info39 rfl (by decide) (by omega) u225000 x225000_3 (⟨(rd_T39 l1 x11_3).f0,(rd_T39 l1 x11_3).f1,(rd_T39 l1 x11_3).f2,(rd_T39 l1 x11_3).f3,(rd_T39 l1 x11_3).f4,(rd_T39 l1 x11_3).f5⟩ : S39) [.int .i64 ((rd_T39 l1 x11_3).f0),.int .i64 ((rd_T39 l1 x11_3).f1),.float .f64 ((rd_T39 l1 x11_3).f2),.int .i64 ((rd_T39 l1 x11_3).f3),.float .f64 ((rd_T39 l1 x11_3).f4),.int .i64 ((rd_T39 l1 x11_3).f5)] (fun _ => True) (fun _ => False) rfl rfl ?aP (fun _ hk => hk.elim) ?aF ?aO ?aB ?aS ?aL ?_
             (case aP => exact k39_mkM _ _ _ (⟨(rd_T39 l1 x11_3).f0,(rd_T39 l1 x11_3).f1,(rd_T39 l1 x11_3).f2,(rd_T39 l1 x11_3).f3,(rd_T39 l1 x11_3).f4,(rd_T39 l1 x11_3).f5⟩ : S39))
             (case aB => exact (zH HB))
             (case aF => exact (fun _ _ => trivial))
             (case aO => exact (zR HO_225000))
             (case aS => exact (zW HB))
             (case aL => have:=LMc43.out;omega)
             intro v229 w47 ho hb hg hat
             rw [← Ny228.out] at ho
             replace K218:=Aside0.mk (blk_grown (g:=G218) (z1 K218.1) hg (Kd.R_ne HO_225000.out K218.1 (by decide)))
             replace K219:=Aside0.mk (blk_grown (g:=G219) (z1 K219.1) hg (Kd.R_ne HO_225000.out K219.1 (by decide)))
             replace K224:=Aside0.mk (blk_grown (g:=G224) (z1 K224.1) hg (Kd.R_ne HO_225000.out K224.1 (by decide)))
             replace HB:=Aside0.mk (hb)
             have HO230:=Aside0.mk (ho)
             clear HO_225000
             clear ho hb hg hat
             obtain ⟨Ao48,co48,eo48⟩:=Kd.R_slice HO230.out
             (first|subst eo48|(injection eo48 with f1_ f2_ f3_;have f4_:=f1_.symm;have f5_:=f3_.symm;clear f1_ f2_ f3_;subst f4_;subst f5_))
             refine hK.out _ _ ⟨zk K224 0,zk K224 1,(zh HB hw227_0),(zh HB hw227_1),(zh HB hw227_2),(zh HB hw227_3),(zh HB hw227_4),(zh HB hw227_5)⟩ (fun hHeld => ?_)
             clear hK K
             refine nz 64 ?_
             refine pz 8 65 #[T,T,T,T,T,T,T,T,T,F] HT_.1 ?_
             refine last_ (i:=9) (N:=none) #[T,T,T,T,T,T,T,T,T,T] rfl rfl (one_of HT_.out (by kernel_rfl)) (by decide) (fun K hK => ?_)
             have hs49 : w47.cell? ⟨G224,0,none⟩ = some (u225000):=zk K224 0
             have hfs49:=bF K224.1 0
             have hns49_0:=NB218_224.1
             have hns49_1:=NB219_224.1
             have hms49_0:=NB224_218.1
             have hms49_1:=NB224_219.1
             refine sz ?_
             refine hK.out _ _ ?_
             clear hK K
             refine done_ (done_of HT_.out (by kernel_rfl)) ?_
             try go_wp2
             go_roundg k3
             case measure => have:=HJ3.out;have:=HK2.out;have:=HK3.out;omega
             case rel => exact ⟨(x8_3),(wrap64 (x11_3 + 1)),(y228),(x225001_3),(.slice Ao48 y228.length co48),ze,ze,H',⟨by have:=HJ3.out;have:=HK2.out;have:=HK3.out;omega⟩,⟨by (with_reducible repeat (first|apply Kd.R_alloc|apply Kd.R_drewN|apply Kd.R_drew));exact Kd.R_mono (Kd.R_far (p:=⟨G224,0,none⟩) (Kd.R_types HO230.out K224.1 (by decide)) (fun _ hk => hk.2) (.slice Ao48 y228.length co48)) (fun _ hk => trivial)⟩,⟨zf K218⟩,⟨zf K219⟩,⟨zF K224⟩,⟨zH HB⟩⟩
            ·rw [if_neg c43] at H
             exact absurd H (by simp)
           ·replace c42:=Bool.eq_false_iff.mpr c42
            subst c42
            have H1 : (if x8_3 < a2 then (if x225000_3.length < 2932031007402 then (beaconref17_Keep.l1 k3 l1 a2 (wrap64 (x8_3 + 1)) (wrap64 (x11_3 + 1)) l0_0 a0_1 (x225000_3 ++ [(⟨(rd_T39 l1 x11_3).f0,(rd_T39 l1 x11_3).f1,(rd_T39 l1 x11_3).f2,(rd_T39 l1 x11_3).f3,(rd_T39 l1 x11_3).f4,(rd_T39 l1 x11_3).f5⟩ : S39)]) x225001_3) else (none)) else (beaconref17_Keep.l1 k3 l1 a2 x8_3 (wrap64 (x11_3 + 1)) l0_0 a0_1 x225000_3 true)) = some (r1,r2,r3):=by rw [if_neg (show ¬ (false = true) by decide)] at H;exact H
            clear H
            have H:=H1
            clear H1
            by_cases c50 : x8_3 < a2
            ·rw [if_pos c50] at H
             have c50b0 : decide (x8_3 < a2) = true:=decide_eq_true c50
             clear c50
             by_cases c51 : x225000_3.length < 2932031007402
             ·rw [if_pos c51] at H
              have LMc51:=Aside0.mk c51
              clear c51
              obtain ⟨y232,hy232⟩ : ∃ y_ : List (S39),y_ = (x225000_3 ++ [(⟨(rd_T39 l1 x11_3).f0,(rd_T39 l1 x11_3).f1,(rd_T39 l1 x11_3).f2,(rd_T39 l1 x11_3).f3,(rd_T39 l1 x11_3).f4,(rd_T39 l1 x11_3).f5⟩ : S39)]):=⟨_,rfl⟩
              replace H : (beaconref17_Keep.l1 k3 l1 a2 (wrap64 (x8_3 + 1)) (wrap64 (x11_3 + 1)) l0_0 a0_1 y232 x225001_3) = some (r1,r2,r3):=by first|(rw [hy232];with_reducible exact H)|(have H2_:=(Option.bind_some _ _).symm.trans H;rw [hy232];with_reducible exact H2_)|(have H2_:=(Option.bind_some _ _).symm.trans H;with_reducible exact H2_)|with_reducible exact H|(rw [hy232];exact H)|exact H
              have Ny232:=Aside0.mk hy232
              clear hy232
              have H':=Aside0.mk H
              clear H
              try go_wp2
              replace HO_225000:=Aside0.mk (Kd.R_drew HO_225000.out)
              replace K218:=Aside0.mk (bD K218.1)
              replace K219:=Aside0.mk (bD K219.1)
              replace K224:=Aside0.mk (bD K224.1)
              replace HB:=Aside0.mk (bw1 HB.1)
              have p225 : 0 ≤ (x11_3 : Int):=zd
              have q225 : x11_3 < (l1.length : Int):=zd
              obtain ⟨ad225,e225,hx225_0,hx225_1,hx225_2,hx225_3,hx225_4,hx225_5⟩:=at_T39 HR1.out x11_3 p225 q225
              have hw225_5:=hx225_5
              have hw225_4:=hx225_4
              have hw225_3:=hx225_3
              have hw225_2:=hx225_2
              have hw225_1:=hx225_1
              have hw225_0:=hx225_0
              cases e225
              replace hx225_0:=zh HB hx225_0
              replace hx225_1:=zh HB hx225_1
              replace hx225_2:=zh HB hx225_2
              replace hx225_3:=zh HB hx225_3
              replace hx225_4:=zh HB hx225_4
              replace hx225_5:=zh HB hx225_5
              replace p225:=eq_true p225
              replace q225:=eq_true q225
              refine start_ (n:=7) (S:=fun w' => w'.cell? ⟨G218,0,none⟩ = some (.slice A0_0 l0_0.length c0_0) ∧ w'.cell? ⟨G218,1,none⟩ = some (.bool a0_1) ∧ w'.cell? (ad225.add ((x11_3).toNat * 6)) = some (.int .i64 ((rd_T39 l1 x11_3).f0)) ∧ w'.cell? ⟨(ad225.add ((x11_3).toNat * 6)).block,(ad225.add ((x11_3).toNat * 6)).off + 1,none⟩ = some (.int .i64 ((rd_T39 l1 x11_3).f1)) ∧ w'.cell? ⟨(ad225.add ((x11_3).toNat * 6)).block,(ad225.add ((x11_3).toNat * 6)).off + 2,none⟩ = some (.float .f64 ((rd_T39 l1 x11_3).f2)) ∧ w'.cell? ⟨(ad225.add ((x11_3).toNat * 6)).block,(ad225.add ((x11_3).toNat * 6)).off + 3,none⟩ = some (.int .i64 ((rd_T39 l1 x11_3).f3)) ∧ w'.cell? ⟨(ad225.add ((x11_3).toNat * 6)).block,(ad225.add ((x11_3).toNat * 6)).off + 4,none⟩ = some (.float .f64 ((rd_T39 l1 x11_3).f4)) ∧ w'.cell? ⟨(ad225.add ((x11_3).toNat * 6)).block,(ad225.add ((x11_3).toNat * 6)).off + 5,none⟩ = some (.int .i64 ((rd_T39 l1 x11_3).f5))) (ds:=[]) #[F,F,F,F,F,F,F] (by kernel_rfl) rfl rfl ⟨zk K218 0,zk K218 1,(zh HB hw225_0),(zh HB hw225_1),(zh HB hw225_2),(zh HB hw225_3),(zh HB hw225_4),(zh HB hw225_5)⟩ (fun hHeld => ?_)
              generalize wr.drew = w52 at HO_225000 K218 K219 K224 HB hx225_0 hx225_1 hx225_2 hx225_3 hx225_4 hx225_5 hHeld ⊢
              refine pk 0 50 #[T,F,F,F,F,F,F] ?_
              refine pk 2 52 #[T,F,T,F,F,F,F] ?_
              refine pk 3 53 #[T,F,T,T,F,F,F] ?_
              refine pk 4 54 #[T,F,T,T,T,F,F] ?_
              refine tk 1 51 #[T,T,T,T,T,F,F] hHeld ?_
              refine tk 5 55 #[T,T,T,T,T,T,F] hHeld ?_
              refine one_ (i:=6) (N:=some 56) #[T,T,T,T,T,T,T] rfl rfl (by kernel_rfl) (by decide) (fun K hK => ?_)
              refine goes_ Try.func49 (by kernel_rfl) rfl #[.slice A0_0 l0_0.length c0_0,.agg #[.int .i64 ((rd_T39 l1 x11_3).f0),.int .i64 ((rd_T39 l1 x11_3).f1),.float .f64 ((rd_T39 l1 x11_3).f2),.int .i64 ((rd_T39 l1 x11_3).f3),.float .f64 ((rd_T39 l1 x11_3).f4),.int .i64 ((rd_T39 l1 x11_3).f5)]] (by rfl) rfl rfl (by (try simp only [List.map_toArray,List.map_cons,List.map_nil]);first|done|rfl|(simp only [List.length_drop,List.length_take];rfl)) ?_
              with_reducible refine (beaconref17_has.calls k3 _ _ l0_0 ((rd_T39 l1 x11_3).f0) ((rd_T39 l1 x11_3).f1) ((rd_T39 l1 x11_3).f2) ((rd_T39 l1 x11_3).f3) ((rd_T39 l1 x11_3).f4) ((rd_T39 l1 x11_3).f5) false _ ?side1 ?side2 A41.out).mono ?_
              (case side1 => exact zC (Kd.C_below HR0_0.out HB.1))
              (case side2 => exact HC0_0.out)
              rintro e w53 ⟨rfl,hb⟩
              refine ⟨_,rfl,?_⟩
              replace HO_225000:=Aside0.mk (Kd.R_below (zR HO_225000) hb)
              replace K218:=zB K218 hb
              replace K219:=zB K219 hb
              replace K224:=zB K224 hb
              replace HB:=zS HB hb
              (try clear hb)
              (try clear hb2)
              (try clear hk)
              (try clear hi)
              refine hK.out _ _ ⟨zk K218 0,zk K218 1,(zh HB hw225_0),(zh HB hw225_1),(zh HB hw225_2),(zh HB hw225_3),(zh HB hw225_4),(zh HB hw225_5)⟩ (fun hHeld => ?_)
              clear hK K
              refine nz 56 ?_
              refine done_ (by kernel_rfl) ?_
              try go_wp2
              replace HO_225000:=Aside0.mk (Kd.R_drew HO_225000.out)
              replace K218:=Aside0.mk (bD K218.1)
              replace K219:=Aside0.mk (bD K219.1)
              replace K224:=Aside0.mk (bD K224.1)
              replace HB:=Aside0.mk (bw1 HB.1)
              have p231 : 0 ≤ (x11_3 : Int):=zd
              have q231 : x11_3 < (l1.length : Int):=zd
              obtain ⟨ad231,e231,hx231_0,hx231_1,hx231_2,hx231_3,hx231_4,hx231_5⟩:=at_T39 HR1.out x11_3 p231 q231
              have hw231_5:=hx231_5
              have hw231_4:=hx231_4
              have hw231_3:=hx231_3
              have hw231_2:=hx231_2
              have hw231_1:=hx231_1
              have hw231_0:=hx231_0
              obtain rfl : ad225 = ad231:=(by injection e231)
              replace hx231_0:=zh HB hx231_0
              replace hx231_1:=zh HB hx231_1
              replace hx231_2:=zh HB hx231_2
              replace hx231_3:=zh HB hx231_3
              replace hx231_4:=zh HB hx231_4
              replace hx231_5:=zh HB hx231_5
              replace p231:=eq_true p231
              replace q231:=eq_true q231
              refine start_ (n:=10) (S:=fun w' => w'.cell? ⟨G224,0,none⟩ = some (u225000) ∧ w'.cell? ⟨G224,1,none⟩ = some (.bool x225001_3) ∧ w'.cell? (ad225.add ((x11_3).toNat * 6)) = some (.int .i64 ((rd_T39 l1 x11_3).f0)) ∧ w'.cell? ⟨(ad225.add ((x11_3).toNat * 6)).block,(ad225.add ((x11_3).toNat * 6)).off + 1,none⟩ = some (.int .i64 ((rd_T39 l1 x11_3).f1)) ∧ w'.cell? ⟨(ad225.add ((x11_3).toNat * 6)).block,(ad225.add ((x11_3).toNat * 6)).off + 2,none⟩ = some (.float .f64 ((rd_T39 l1 x11_3).f2)) ∧ w'.cell? ⟨(ad225.add ((x11_3).toNat * 6)).block,(ad225.add ((x11_3).toNat * 6)).off + 3,none⟩ = some (.int .i64 ((rd_T39 l1 x11_3).f3)) ∧ w'.cell? ⟨(ad225.add ((x11_3).toNat * 6)).block,(ad225.add ((x11_3).toNat * 6)).off + 4,none⟩ = some (.float .f64 ((rd_T39 l1 x11_3).f4)) ∧ w'.cell? ⟨(ad225.add ((x11_3).toNat * 6)).block,(ad225.add ((x11_3).toNat * 6)).off + 5,none⟩ = some (.int .i64 ((rd_T39 l1 x11_3).f5))) (ds:=[9]) #[F,F,F,F,F,F,F,F,F,F] (by kernel_rfl) rfl rfl ⟨zk K224 0,zk K224 1,(zh HB hw231_0),(zh HB hw231_1),(zh HB hw231_2),(zh HB hw231_3),(zh HB hw231_4),(zh HB hw231_5)⟩ (fun hHeld => ?_);refine with_tabW beaconref17_Keep.tab16 beaconref17_Keep.bits16 (fun HT_ HW_ => ?_)
              generalize w53.drew = w54 at HO_225000 K218 K219 K224 HB hx231_0 hx231_1 hx231_2 hx231_3 hx231_4 hx231_5 hHeld ⊢
              refine pz 0 69 #[T,F,F,F,F,F,F,F,F,F] HT_.1 ?_
              refine pz 2 71 #[T,F,T,F,F,F,F,F,F,F] HT_.1 ?_
              refine pz 3 72 #[T,F,T,T,F,F,F,F,F,F] HT_.1 ?_
              refine pz 4 73 #[T,F,T,T,T,F,F,F,F,F] HT_.1 ?_
              refine tz 1 70 #[T,T,T,T,T,F,F,F,F,F] HT_.1 HW_.1 hHeld ?_
              refine tz 5 74 #[T,T,T,T,T,T,F,F,F,F] HT_.1 HW_.1 hHeld ?_
              refine one_ (i:=6) (N:=some 75) #[T,T,T,T,T,T,T,F,F,F] rfl rfl (one_of HT_.out (by kernel_rfl)) (by decide) (fun K hK => ?_)
              refine value_ (w1:=?_) (v:=?_) (by rfl) rfl ?_ ?_
              rotate_left 2
              ·go_simp
               constructor
               ·rfl
               ·rfl
              refine hK.out _ _ ⟨(bC (bA K224.1 _) 0).trans rfl,(bC (bA K224.1 _) 1).trans rfl,(World.cell?_alloc_lt _ _ _ (World.block_lt_of_cell? _ _ ((zh HB hw231_0)))).trans ((zh HB hw231_0)),(World.cell?_alloc_lt _ _ _ (World.block_lt_of_cell? _ _ ((zh HB hw231_1)))).trans ((zh HB hw231_1)),(World.cell?_alloc_lt _ _ _ (World.block_lt_of_cell? _ _ ((zh HB hw231_2)))).trans ((zh HB hw231_2)),(World.cell?_alloc_lt _ _ _ (World.block_lt_of_cell? _ _ ((zh HB hw231_3)))).trans ((zh HB hw231_3)),(World.cell?_alloc_lt _ _ _ (World.block_lt_of_cell? _ _ ((zh HB hw231_4)))).trans ((zh HB hw231_4)),(World.cell?_alloc_lt _ _ _ (World.block_lt_of_cell? _ _ ((zh HB hw231_5)))).trans ((zh HB hw231_5))⟩ (fun hHeld => ?_)
              clear hK K
              refine nz 75 ?_
              refine one_ (i:=7) (N:=some 76) #[T,T,T,T,T,T,T,T,F,F] rfl rfl (one_of HT_.out (by kernel_rfl)) (by decide) (fun K hK => ?_)
              refine Kd.R_append_step k39 (w0:=w) w.heap.size (by rfl) (.tmp 70) (.tmp 75) 22 39 (.agg #[(.int .i64 0),(.int .i64 0),(.float .f64 0),(.int .i64 0),(.float .f64 0),(.int .i64 0)]) 48 rfl Try.underlying22 info39 rfl (by decide) (by omega) u225000 x225000_3 (⟨(rd_T39 l1 x11_3).f0,(rd_T39 l1 x11_3).f1,(rd_T39 l1 x11_3).f2,(rd_T39 l1 x11_3).f3,(rd_T39 l1 x11_3).f4,(rd_T39 l1 x11_3).f5⟩ : S39) [.int .i64 ((rd_T39 l1 x11_3).f0),.int .i64 ((rd_T39 l1 x11_3).f1),.float .f64 ((rd_T39 l1 x11_3).f2),.int .i64 ((rd_T39 l1 x11_3).f3),.float .f64 ((rd_T39 l1 x11_3).f4),.int .i64 ((rd_T39 l1 x11_3).f5)] (fun _ => True) (fun _ => False) rfl rfl ?aP (fun _ hk => hk.elim) ?aF ?aO ?aB ?aS ?aL ?_
              (case aP => exact k39_mkM _ _ _ (⟨(rd_T39 l1 x11_3).f0,(rd_T39 l1 x11_3).f1,(rd_T39 l1 x11_3).f2,(rd_T39 l1 x11_3).f3,(rd_T39 l1 x11_3).f4,(rd_T39 l1 x11_3).f5⟩ : S39))
              (case aB => exact (zH HB))
              (case aF => exact (fun _ _ => trivial))
              (case aO => exact (zR HO_225000))
              (case aS => exact (zW HB))
              (case aL => have:=LMc51.out;omega)
              intro v233 w55 ho hb hg hat
              rw [← Ny232.out] at ho
              replace K218:=Aside0.mk (blk_grown (g:=G218) (z1 K218.1) hg (Kd.R_ne HO_225000.out K218.1 (by decide)))
              replace K219:=Aside0.mk (blk_grown (g:=G219) (z1 K219.1) hg (Kd.R_ne HO_225000.out K219.1 (by decide)))
              replace K224:=Aside0.mk (blk_grown (g:=G224) (z1 K224.1) hg (Kd.R_ne HO_225000.out K224.1 (by decide)))
              replace HB:=Aside0.mk (hb)
              have HO234:=Aside0.mk (ho)
              clear HO_225000
              clear ho hb hg hat
              obtain ⟨Ao56,co56,eo56⟩:=Kd.R_slice HO234.out
              (first|subst eo56|(injection eo56 with f1_ f2_ f3_;have f4_:=f1_.symm;have f5_:=f3_.symm;clear f1_ f2_ f3_;subst f4_;subst f5_))
              refine hK.out _ _ ⟨zk K224 0,zk K224 1,(zh HB hw231_0),(zh HB hw231_1),(zh HB hw231_2),(zh HB hw231_3),(zh HB hw231_4),(zh HB hw231_5)⟩ (fun hHeld => ?_)
              clear hK K
              refine nz 76 ?_
              refine pz 8 77 #[T,T,T,T,T,T,T,T,T,F] HT_.1 ?_
              refine last_ (i:=9) (N:=none) #[T,T,T,T,T,T,T,T,T,T] rfl rfl (one_of HT_.out (by kernel_rfl)) (by decide) (fun K hK => ?_)
              have hs57 : w55.cell? ⟨G224,0,none⟩ = some (u225000):=zk K224 0
              have hfs57:=bF K224.1 0
              have hns57_0:=NB218_224.1
              have hns57_1:=NB219_224.1
              have hms57_0:=NB224_218.1
              have hms57_1:=NB224_219.1
              refine sz ?_
              refine hK.out _ _ ?_
              clear hK K
              refine done_ (done_of HT_.out (by kernel_rfl)) ?_
              try go_wp2
              go_roundg k3
              case measure => have:=HJ3.out;have:=HK2.out;have:=HK3.out;omega
              case rel => exact ⟨(wrap64 (x8_3 + 1)),(wrap64 (x11_3 + 1)),(y232),(x225001_3),(.slice Ao56 y232.length co56),ze,ze,H',⟨by have:=HJ3.out;have:=HK2.out;have:=HK3.out;omega⟩,⟨by (with_reducible repeat (first|apply Kd.R_alloc|apply Kd.R_drewN|apply Kd.R_drew));exact Kd.R_mono (Kd.R_far (p:=⟨G224,0,none⟩) (Kd.R_types HO234.out K224.1 (by decide)) (fun _ hk => hk.2) (.slice Ao56 y232.length co56)) (fun _ hk => trivial)⟩,⟨zf K218⟩,⟨zf K219⟩,⟨zF K224⟩,⟨zH HB⟩⟩
             ·rw [if_neg c51] at H
              exact absurd H (by simp)
            ·rw [if_neg c50] at H
             have c50b0 : decide (x8_3 < a2) = false:=decide_eq_false c50
             clear c50
             have H':=Aside0.mk H
             clear H
             try go_wp2
             replace HO_225000:=Aside0.mk (Kd.R_drew HO_225000.out)
             replace K218:=Aside0.mk (bD K218.1)
             replace K219:=Aside0.mk (bD K219.1)
             replace K224:=Aside0.mk (bD K224.1)
             replace HB:=Aside0.mk (bw1 HB.1)
             have p225 : 0 ≤ (x11_3 : Int):=zd
             have q225 : x11_3 < (l1.length : Int):=zd
             obtain ⟨ad225,e225,hx225_0,hx225_1,hx225_2,hx225_3,hx225_4,hx225_5⟩:=at_T39 HR1.out x11_3 p225 q225
             have hw225_5:=hx225_5
             have hw225_4:=hx225_4
             have hw225_3:=hx225_3
             have hw225_2:=hx225_2
             have hw225_1:=hx225_1
             have hw225_0:=hx225_0
             cases e225
             replace hx225_0:=zh HB hx225_0
             replace hx225_1:=zh HB hx225_1
             replace hx225_2:=zh HB hx225_2
             replace hx225_3:=zh HB hx225_3
             replace hx225_4:=zh HB hx225_4
             replace hx225_5:=zh HB hx225_5
             replace p225:=eq_true p225
             replace q225:=eq_true q225
             refine start_ (n:=7) (S:=fun w' => w'.cell? ⟨G218,0,none⟩ = some (.slice A0_0 l0_0.length c0_0) ∧ w'.cell? ⟨G218,1,none⟩ = some (.bool a0_1) ∧ w'.cell? (ad225.add ((x11_3).toNat * 6)) = some (.int .i64 ((rd_T39 l1 x11_3).f0)) ∧ w'.cell? ⟨(ad225.add ((x11_3).toNat * 6)).block,(ad225.add ((x11_3).toNat * 6)).off + 1,none⟩ = some (.int .i64 ((rd_T39 l1 x11_3).f1)) ∧ w'.cell? ⟨(ad225.add ((x11_3).toNat * 6)).block,(ad225.add ((x11_3).toNat * 6)).off + 2,none⟩ = some (.float .f64 ((rd_T39 l1 x11_3).f2)) ∧ w'.cell? ⟨(ad225.add ((x11_3).toNat * 6)).block,(ad225.add ((x11_3).toNat * 6)).off + 3,none⟩ = some (.int .i64 ((rd_T39 l1 x11_3).f3)) ∧ w'.cell? ⟨(ad225.add ((x11_3).toNat * 6)).block,(ad225.add ((x11_3).toNat * 6)).off + 4,none⟩ = some (.float .f64 ((rd_T39 l1 x11_3).f4)) ∧ w'.cell? ⟨(ad225.add ((x11_3).toNat * 6)).block,(ad225.add ((x11_3).toNat * 6)).off + 5,none⟩ = some (.int .i64 ((rd_T39 l1 x11_3).f5))) (ds:=[]) #[F,F,F,F,F,F,F] (by kernel_rfl) rfl rfl ⟨zk K218 0,zk K218 1,(zh HB hw225_0),(zh HB hw225_1),(zh HB hw225_2),(zh HB hw225_3),(zh HB hw225_4),(zh HB hw225_5)⟩ (fun hHeld => ?_)
             generalize wr.drew = w58 at HO_225000 K218 K219 K224 HB hx225_0 hx225_1 hx225_2 hx225_3 hx225_4 hx225_5 hHeld ⊢
             refine pk 0 50 #[T,F,F,F,F,F,F] ?_
             refine pk 2 52 #[T,F,T,F,F,F,F] ?_
             refine pk 3 53 #[T,F,T,T,F,F,F] ?_
             refine pk 4 54 #[T,F,T,T,T,F,F] ?_
             refine tk 1 51 #[T,T,T,T,T,F,F] hHeld ?_
             refine tk 5 55 #[T,T,T,T,T,T,F] hHeld ?_
             refine one_ (i:=6) (N:=some 56) #[T,T,T,T,T,T,T] rfl rfl (by kernel_rfl) (by decide) (fun K hK => ?_)
             refine goes_ Try.func49 (by kernel_rfl) rfl #[.slice A0_0 l0_0.length c0_0,.agg #[.int .i64 ((rd_T39 l1 x11_3).f0),.int .i64 ((rd_T39 l1 x11_3).f1),.float .f64 ((rd_T39 l1 x11_3).f2),.int .i64 ((rd_T39 l1 x11_3).f3),.float .f64 ((rd_T39 l1 x11_3).f4),.int .i64 ((rd_T39 l1 x11_3).f5)]] (by rfl) rfl rfl (by (try simp only [List.map_toArray,List.map_cons,List.map_nil]);first|done|rfl|(simp only [List.length_drop,List.length_take];rfl)) ?_
             with_reducible refine (beaconref17_has.calls k3 _ _ l0_0 ((rd_T39 l1 x11_3).f0) ((rd_T39 l1 x11_3).f1) ((rd_T39 l1 x11_3).f2) ((rd_T39 l1 x11_3).f3) ((rd_T39 l1 x11_3).f4) ((rd_T39 l1 x11_3).f5) false _ ?side1 ?side2 A41.out).mono ?_
             (case side1 => exact zC (Kd.C_below HR0_0.out HB.1))
             (case side2 => exact HC0_0.out)
             rintro e w59 ⟨rfl,hb⟩
             refine ⟨_,rfl,?_⟩
             replace HO_225000:=Aside0.mk (Kd.R_below (zR HO_225000) hb)
             replace K218:=zB K218 hb
             replace K219:=zB K219 hb
             replace K224:=zB K224 hb
             replace HB:=zS HB hb
             (try clear hb)
             (try clear hb2)
             (try clear hk)
             (try clear hi)
             refine hK.out _ _ ⟨zk K218 0,zk K218 1,(zh HB hw225_0),(zh HB hw225_1),(zh HB hw225_2),(zh HB hw225_3),(zh HB hw225_4),(zh HB hw225_5)⟩ (fun hHeld => ?_)
             clear hK K
             refine nz 56 ?_
             refine done_ (by kernel_rfl) ?_
             have hnb60:=NB224_218.1
             have hnc60:=NB218_224.1
             have hnb61:=NB224_219.1
             have hnc61:=NB219_224.1
             have hcz62_0 : w59.cell? ⟨G224,0,none⟩ = some (u225000):=zk K224 0
             have hcz62_1 : w59.cell? ⟨G224,1,none⟩ = some (.bool x225001_3):=zk K224 1
             have hfz62_0:=bF K224.1 0
             have hfz62_1:=bF K224.1 1
             try go_wp2
             go_roundg k3
             case measure => have:=HJ3.out;have:=HK2.out;have:=HK3.out;omega
             case rel => exact ⟨(x8_3),(wrap64 (x11_3 + 1)),(x225000_3),(true),(u225000),ze,ze,H',⟨by have:=HJ3.out;have:=HK2.out;have:=HK3.out;omega⟩,⟨by (with_reducible repeat (first|apply Kd.R_alloc|apply Kd.R_drewN|apply Kd.R_drew));exact Kd.R_mono (Kd.R_far (p:=⟨G224,1,none⟩) (Kd.R_types HO_225000.out K224.1 (by decide)) (fun _ hk => hk.2) (.bool true)) (fun _ hk => trivial)⟩,⟨zf K218⟩,⟨zf K219⟩,⟨zF K224⟩,⟨zH HB⟩⟩
          ·rw [if_neg c40] at H
           exact absurd H (by simp)
         ·rw [if_neg c39] at H
          have c39b0 : decide (x11_3 < (l1.length : Int)) = false:=decide_eq_false c39
          clear c39
          simp only [Option.some.injEq,Prod.mk.injEq] at H
          obtain ⟨rfl,rfl,rfl⟩:=H
          have hnb63:=NB224_218.1
          have hnc63:=NB218_224.1
          have hnb64:=NB224_219.1
          have hnc64:=NB219_224.1
          have hcz65_0 : wr.cell? ⟨G224,0,none⟩ = some (u225000):=zk K224 0
          have hcz65_1 : wr.cell? ⟨G224,1,none⟩ = some (.bool x225001_3):=zk K224 1
          have hfz65_0:=bF K224.1 0
          have hfz65_1:=bF K224.1 1
          obtain ⟨Ao66,co66,eo66⟩:=Kd.R_slice HO_225000.out
          subst eo66
          have hnb67:=NB219_218.1
          have hnc67:=NB218_219.1
          have hcz68_0 : wr.cell? ⟨G219,0,none⟩ = some (.slice none 0 0):=zk K219 0
          have hcz68_1 : wr.cell? ⟨G219,1,none⟩ = some (.bool false):=zk K219 1
          have hfz68_0:=bF K219.1 0
          have hfz68_1:=bF K219.1 1
          go_wp2
          refine bodyPost_ret (results_ct rfl _ _ G219 24 #[.slice Ao66 x225000_3.length co66,.bool x225001_3] (0,0) _ rfl (zF K219) Try.underlying24 rfl (by kernel_rfl)) rfl ?_
          exact ⟨_,by first|rfl|(simp [errW_none,errW_some] <;> rfl)|(simp [*,errW_none,errW_some] <;> rfl),by (with_reducible repeat (first|apply Kd.R_alloc|apply Kd.R_drewN|apply Kd.R_drew));exact Kd.R_mono (Kd.R_far (p:=⟨G219,1,none⟩) (Kd.R_far (p:=⟨G219,0,none⟩) (Kd.R_types HO_225000.out K219.1 (by decide)) (fun _ hk => hk.2) (.slice Ao66 x225000_3.length co66)) (fun _ hk => hk.2) (.bool x225001_3)) (fun _ hk => trivial),zH HB⟩

end Go.Proofs.Ytgmjlhpigfaicaa.XA
