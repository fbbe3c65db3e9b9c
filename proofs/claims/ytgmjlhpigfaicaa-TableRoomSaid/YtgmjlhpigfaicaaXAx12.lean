/- Go functions of this seat as Lean functions, with proofs that the calls come to them. (Written by xprint.py, a program of this session, over the kit's print.) -/
import Derived.Test.YtgmjlhpigfaicaaXAx0
import Derived.Test.YtgmjlhpigfaicaaXAx9
import Derived.Test.YtgmjlhpigfaicaaXAx11
namespace Go.Proofs.Ytgmjlhpigfaicaa.XA
open Go.RowKit Go.Proofs.YtgmjlhpigfaicaaW.PrintWords Go.Proofs.YtgmjlhpigfaicaaW.PrintLast Go.Proofs.YtgmjlhpigfaicaaW.PrintMore
attribute [local go_sem] max2_int min2_int max_two min_two max_three min_three max_four min_four   -- for this text's walks alone
set_option linter.unusedVariables false
set_option linter.unusedSimpArgs false
open List renaming setIfInBounds_toArray → xA, set_cons_zero → xB, set_cons_succ → xC
open Go.Proofs.YtgmjlhpigfaicaaW.PrintWords renaming blk_drewN → bN, blk_drew → bD, blk_alloc → bA, below_set → bS, blk_frozen → bF, blk_cell → bC, cell_far → cF, blk_far → bZ, blk_below → bB, pw_below_drewN → bwN, below_drew1 → bw1, below_alloc → bwA
open Go.Proofs.YtgmjlhpigfaicaaW.PrintZ
open Bool renaming true → T,false → F

/-! ### beaconref17_Check: function 12 -/
def beaconref17_Check.f (k : Nat) (l0_0 : List (S39)) (a0_1 : Bool) : Option (Int) := (beaconref17_may.f k l0_0).bind fun t199 => (if t199 = true then (some 0) else (some 1))
theorem beaconref17_Check.mono : ∀ a0 a1 k, LeO (beaconref17_Check.f k a0 a1) (beaconref17_Check.f (k + 1) a0 a1) := by
 intro a0 a1 k
 unfold beaconref17_Check.f
 repeat' first
   | (with_reducible exact beaconref17_may.mono _ _)
   | (with_reducible exact LeO.refl _)
   | (with_reducible exact LeO.none _)
   | (with_reducible refine LeO.ite ?_ ?_)
   | (with_reducible refine LeO.bind ?_ (fun _ => ?_))
   | exact beaconref17_may.mono _ _
   | exact LeO.none _
   | refine LeO.ite ?_ ?_
   | refine LeO.bind ?_ (fun _ => ?_)
set_option maxHeartbeats 8000000 in
set_option maxRecDepth 100000 in
theorem beaconref17_Check.calls (k : Nat) (A0_0 : Option Addr) (c0_0 : Nat) (l0_0 : List (S39)) (a0_1 : Bool) (r : Int) (w : World) (hr0_0 : Kd.C k39 w A0_0 l0_0.length l0_0) (hc0_0 : l0_0.length ≤ c0_0) (h : beaconref17_Check.f k l0_0 a0_1 = some r) :
  Calls Try.prog 12 #[.agg #[.slice A0_0 l0_0.length c0_0,.bool a0_1]] w fun e w' => e = .returned (.int .i64 r) ∧ Below w.heap.size w w':=by
 have hu24:=Try.underlying24
 have HR0_0:=Aside0.mk hr0_0
 have HC0_0:=Aside0.mk hc0_0
 clear hr0_0 hc0_0
 have HB:=Aside0.mk (Below.refl w.heap.size w)
 have H : ((beaconref17_may.f k l0_0).bind fun t199 => (if t199 = true then (some 0) else (some 1))) = some r:=h
 clear h
 replace H:=Option.bind_eq_some_iff.mp H
 obtain ⟨t199,A20,H⟩:=H
 replace H : (if t199 = true then (some 0) else (some 1)) = some r:=H
 have A2:=Aside0.mk A20
 clear A20
 by_cases c3 : t199 = true
 ·subst c3
  have H1 : (some 0) = some r:=by rw [if_pos rfl] at H;exact H
  clear H
  have H:=H1
  clear H1
  obtain rfl:=Option.some.inj H
  go_enter Try.func12,Try.ntmps12
  go_wp2_with (first|((with_reducible refine gate_dst (N:=1) rfl ?_);refine zb (N:=1) (cs:=#[.slice A0_0 l0_0.length c0_0,.bool a0_1]) (t:=24) ?_;intro G198 hg w4 hbox hb;have K198:=Aside0.mk (hbox);have GW198:=zN HB hg;have GE198:=zN HB hg;replace HB:=zS HB hb;clear hb hbox hg;have hcz5_0 : w4.cell? ⟨G198,0,none⟩ = some (.slice A0_0 l0_0.length c0_0):=zk K198 0;have hcz5_1 : w4.cell? ⟨G198,1,none⟩ = some (.bool a0_1):=zk K198 1;have hfz5_0:=bF K198.1 0;have hfz5_1:=bF K198.1 1)|((with_reducible refine gate_callee (f:=43) rfl ?_);refine zg (some 5) Try.func43 #[.slice A0_0 l0_0.length c0_0] ?_;(with_reducible refine (beaconref17_may.calls k _ _ l0_0 true _ ?side1 ?side2 A2.out).mono ?_);(case side1 => exact zC (Kd.C_below HR0_0.out HB.1));(case side2 => exact HC0_0.out);rintro e w6 ⟨rfl,hb⟩;refine ⟨_,rfl,?_⟩;replace K198:=zB K198 hb;replace HB:=zS HB hb;(try clear hb)))
  go_ret
  exact ⟨by first|rfl|(simp [errW_none,errW_some] <;> rfl)|(simp [*,errW_none,errW_some] <;> rfl),zH HB⟩
 ·replace c3:=Bool.eq_false_iff.mpr c3
  subst c3
  have H1 : (some 1) = some r:=by rw [if_neg (show ¬ (false = true) by decide)] at H;exact H
  clear H
  have H:=H1
  clear H1
  obtain rfl:=Option.some.inj H
  go_enter Try.func12,Try.ntmps12
  go_wp2_with (first|((with_reducible refine gate_dst (N:=1) rfl ?_);refine zb (N:=1) (cs:=#[.slice A0_0 l0_0.length c0_0,.bool a0_1]) (t:=24) ?_;intro G198 hg w7 hbox hb;have K198:=Aside0.mk (hbox);have GW198:=zN HB hg;have GE198:=zN HB hg;replace HB:=zS HB hb;clear hb hbox hg;have hcz8_0 : w7.cell? ⟨G198,0,none⟩ = some (.slice A0_0 l0_0.length c0_0):=zk K198 0;have hcz8_1 : w7.cell? ⟨G198,1,none⟩ = some (.bool a0_1):=zk K198 1;have hfz8_0:=bF K198.1 0;have hfz8_1:=bF K198.1 1)|((with_reducible refine gate_callee (f:=43) rfl ?_);refine zg (some 5) Try.func43 #[.slice A0_0 l0_0.length c0_0] ?_;(with_reducible refine (beaconref17_may.calls k _ _ l0_0 false _ ?side1 ?side2 A2.out).mono ?_);(case side1 => exact zC (Kd.C_below HR0_0.out HB.1));(case side2 => exact HC0_0.out);rintro e w9 ⟨rfl,hb⟩;refine ⟨_,rfl,?_⟩;replace K198:=zB K198 hb;replace HB:=zS HB hb;(try clear hb)))
  go_ret
  exact ⟨by first|rfl|(simp [errW_none,errW_some] <;> rfl)|(simp [*,errW_none,errW_some] <;> rfl),zH HB⟩

/-! ### beaconlaw17_same: function 15 -/
def beaconlaw17_same.f (k : Nat) (l0_0 : List (S39)) (a0_1 : Bool) (l1_0 : List (S39)) (a1_1 : Bool) : Option (Bool) := if (a0_1 == a1_1) = true then ((beaconref09_SameEntries.f k l0_0 l1_0).bind fun t202 => (some t202)) else (some false)
theorem beaconlaw17_same.mono : ∀ a0 a1 a2 a3 k, LeO (beaconlaw17_same.f k a0 a1 a2 a3) (beaconlaw17_same.f (k + 1) a0 a1 a2 a3) := by
 intro a0 a1 a2 a3 k
 unfold beaconlaw17_same.f
 repeat' first
   | (with_reducible exact beaconref09_SameEntries.mono _ _ _)
   | (with_reducible exact LeO.refl _)
   | (with_reducible exact LeO.none _)
   | (with_reducible refine LeO.ite ?_ ?_)
   | (with_reducible refine LeO.bind ?_ (fun _ => ?_))
   | exact beaconref09_SameEntries.mono _ _ _
   | exact LeO.none _
   | refine LeO.ite ?_ ?_
   | refine LeO.bind ?_ (fun _ => ?_)
set_option maxHeartbeats 8000000 in
set_option maxRecDepth 100000 in
theorem beaconlaw17_same.calls (k : Nat) (A0_0 : Option Addr) (c0_0 : Nat) (l0_0 : List (S39)) (a0_1 : Bool) (A1_0 : Option Addr) (c1_0 : Nat) (l1_0 : List (S39)) (a1_1 : Bool) (r : Bool) (w : World) (hr0_0 : Kd.C k39 w A0_0 l0_0.length l0_0) (hc0_0 : l0_0.length ≤ c0_0) (hr1_0 : Kd.C k39 w A1_0 l1_0.length l1_0) (hc1_0 : l1_0.length ≤ c1_0) (h : beaconlaw17_same.f k l0_0 a0_1 l1_0 a1_1 = some r) :
  Calls Try.prog 15 #[.agg #[.slice A0_0 l0_0.length c0_0,.bool a0_1],.agg #[.slice A1_0 l1_0.length c1_0,.bool a1_1]] w fun e w' => e = .returned (.bool r) ∧ Below w.heap.size w w':=by
 have hu24:=Try.underlying24
 have HR0_0:=Aside0.mk hr0_0
 have HC0_0:=Aside0.mk hc0_0
 clear hr0_0 hc0_0
 have HR1_0:=Aside0.mk hr1_0
 have HC1_0:=Aside0.mk hc1_0
 clear hr1_0 hc1_0
 have HB:=Aside0.mk (Below.refl w.heap.size w)
 have H : (if (a0_1 == a1_1) = true then ((beaconref09_SameEntries.f k l0_0 l1_0).bind fun t202 => (some t202)) else (some false)) = some r:=h
 clear h
 by_cases c3 : (a0_1 == a1_1) = true
 ·rw [if_pos c3] at H
  have c3b0 : (a0_1 == a1_1) = true:=c3
  (try (have c3b1 : decide (a0_1 = a1_1) = true:=by simpa using c3))
  (try (have c3b2 : (a0_1 == a1_1) = true:=by simpa using c3))
  clear c3
  replace H:=Option.bind_eq_some_iff.mp H
  obtain ⟨t202,A40,H⟩:=H
  replace H : (some t202) = some r:=H
  have A4:=Aside0.mk A40
  clear A40
  obtain rfl:=Option.some.inj H
  go_enter Try.func15,Try.ntmps15
  go_wp2_with (first|((with_reducible refine gate_dst (N:=2) rfl ?_);refine zb (N:=2) (cs:=#[.slice A0_0 l0_0.length c0_0,.bool a0_1]) (t:=24) ?_;intro G200 hg w5 hbox hb;have K200:=Aside0.mk (hbox);have GW200:=zN HB hg;have GE200:=zN HB hg;replace HB:=zS HB hb;clear hb hbox hg)|((with_reducible refine gate_dst (N:=3) rfl ?_);refine zb (N:=3) (cs:=#[.slice A1_0 l1_0.length c1_0,.bool a1_1]) (t:=24) ?_;intro G201 hg w6 hbox hb;have K201:=Aside0.mk (hbox);have GW201:=zN HB hg;have GE201:=zN HB hg;replace HB:=zS HB hb;have NB200_201:=zL K200 hg;have NB201_200:=zG K200 hg;replace K200:=zB K200 hb;clear hb hbox hg;have hnb7:=NB200_201.1;have hnc7:=NB201_200.1;have hcz8_0 : w6.cell? ⟨G200,0,none⟩ = some (.slice A0_0 l0_0.length c0_0):=zk K200 0;have hcz8_1 : w6.cell? ⟨G200,1,none⟩ = some (.bool a0_1):=zk K200 1;have hfz8_0:=bF K200.1 0;have hfz8_1:=bF K200.1 1;have hcz9_0 : w6.cell? ⟨G201,0,none⟩ = some (.slice A1_0 l1_0.length c1_0):=zk K201 0;have hcz9_1 : w6.cell? ⟨G201,1,none⟩ = some (.bool a1_1):=zk K201 1;have hfz9_0:=bF K201.1 0;have hfz9_1:=bF K201.1 1)|(go_at_call 21;(with_reducible refine (beaconref09_SameEntries.calls k _ _ l0_0 _ _ l1_0 t202 _ ?side1 ?side2 ?side3 ?side4 A4.out).mono ?_);(case side1 => exact zC (Kd.C_below HR0_0.out HB.1));(case side2 => exact HC0_0.out);(case side3 => exact zC (Kd.C_below HR1_0.out HB.1));(case side4 => exact HC1_0.out);rintro e w10 ⟨rfl,hb⟩;replace K200:=zB K200 hb;replace K201:=zB K201 hb;replace HB:=zS HB hb;(try clear hb)))
  go_ret
  exact ⟨by first|rfl|(simp [errW_none,errW_some] <;> rfl)|(simp [*,errW_none,errW_some] <;> rfl),zH HB⟩
 ·rw [if_neg c3] at H
  have c3b0 : (a0_1 == a1_1) = false:=by simpa using c3
  (try (have c3b1 : decide (a0_1 = a1_1) = false:=by simpa using c3))
  (try (have c3b2 : (a0_1 == a1_1) = false:=by simpa using c3))
  (try (have c3b3 : ¬ (a0_1 = a1_1):=by simpa using c3))
  clear c3
  obtain rfl:=Option.some.inj H
  go_enter Try.func15,Try.ntmps15
  go_wp2_with (first|((with_reducible refine gate_dst (N:=2) rfl ?_);refine zb (N:=2) (cs:=#[.slice A0_0 l0_0.length c0_0,.bool a0_1]) (t:=24) ?_;intro G200 hg w11 hbox hb;have K200:=Aside0.mk (hbox);have GW200:=zN HB hg;have GE200:=zN HB hg;replace HB:=zS HB hb;clear hb hbox hg)|((with_reducible refine gate_dst (N:=3) rfl ?_);refine zb (N:=3) (cs:=#[.slice A1_0 l1_0.length c1_0,.bool a1_1]) (t:=24) ?_;intro G201 hg w12 hbox hb;have K201:=Aside0.mk (hbox);have GW201:=zN HB hg;have GE201:=zN HB hg;replace HB:=zS HB hb;have NB200_201:=zL K200 hg;have NB201_200:=zG K200 hg;replace K200:=zB K200 hb;clear hb hbox hg;have hnb13:=NB200_201.1;have hnc13:=NB201_200.1;have hcz14_0 : w12.cell? ⟨G200,0,none⟩ = some (.slice A0_0 l0_0.length c0_0):=zk K200 0;have hcz14_1 : w12.cell? ⟨G200,1,none⟩ = some (.bool a0_1):=zk K200 1;have hfz14_0:=bF K200.1 0;have hfz14_1:=bF K200.1 1;have hcz15_0 : w12.cell? ⟨G201,0,none⟩ = some (.slice A1_0 l1_0.length c1_0):=zk K201 0;have hcz15_1 : w12.cell? ⟨G201,1,none⟩ = some (.bool a1_1):=zk K201 1;have hfz15_0:=bF K201.1 0;have hfz15_1:=bF K201.1 1))
  go_ret
  exact ⟨by first|rfl|(simp [errW_none,errW_some] <;> rfl)|(simp [*,errW_none,errW_some] <;> rfl),zH HB⟩

/-! ### beaconref15_Entries: function 17 -/
def beaconref15_Entries.l0 : Nat → List (S39) → List (S39) → Int → Option ((List (S39)))
 | 0, _, _, _ => none
 | k + 1, x0, x3, x4 => if x4 < (x0.length : Int) then (if 0 ≤ x4 then (if x3.length < 2932031007402 then (beaconref15_Entries.l0 k x0 (x3 ++ [(⟨(rd_T39 x0 x4).f0, (rd_T39 x0 x4).f1, (rd_T39 x0 x4).f2, (rd_T39 x0 x4).f3, (rd_T39 x0 x4).f4, (rd_T39 x0 x4).f5⟩ : S39)]) (wrap64 (x4 + 1))) else (none)) else (none)) else (some x3)
def beaconref15_Entries.f (k : Nat) (l0 : List (S39)) : Option ((List (S39))) := beaconref15_Entries.l0 k l0 (([] : List (S39))) 0
theorem beaconref15_Entries.mono_l : ∀ k, (∀ y0 y1 y2, LeO (beaconref15_Entries.l0 k y0 y1 y2) (beaconref15_Entries.l0 (k + 1) y0 y1 y2))
 | 0 => fun _ _ _ r h => by simp [beaconref15_Entries.l0] at h
 | k + 1 => by
  have ih0:=beaconref15_Entries.mono_l k
  ·intro y0 y1 y2
   unfold beaconref15_Entries.l0
   repeat' first
   | (with_reducible exact ih0 _ _ _)
   | (with_reducible exact LeO.refl _)
   | (with_reducible exact LeO.none _)
   | (with_reducible refine LeO.ite ?_ ?_)
   | (with_reducible refine LeO.bind ?_ (fun _ => ?_))
   | exact ih0 _ _ _
   | exact LeO.none _
   | refine LeO.ite ?_ ?_
   | refine LeO.bind ?_ (fun _ => ?_)
theorem beaconref15_Entries.mono : ∀ a0 k, LeO (beaconref15_Entries.f k a0) (beaconref15_Entries.f (k + 1) a0) := by
 intro a0 k
 have ih0:=beaconref15_Entries.mono_l k
 unfold beaconref15_Entries.f
 repeat' first
   | (with_reducible exact ih0 _ _ _)
   | (with_reducible exact LeO.refl _)
   | (with_reducible exact LeO.none _)
   | (with_reducible refine LeO.ite ?_ ?_)
   | (with_reducible refine LeO.bind ?_ (fun _ => ?_))
   | exact ih0 _ _ _
   | exact LeO.none _
   | refine LeO.ite ?_ ?_
   | refine LeO.bind ?_ (fun _ => ?_)
set_option maxHeartbeats 8000000 in
set_option maxRecDepth 100000 in
theorem beaconref15_Entries.calls (k : Nat) (A0 : Option Addr) (c0 : Nat) (l0 : List (S39)) (r : List (S39)) (w : World) (hr0 : Kd.C k39 w A0 l0.length l0) (hc0 : l0.length ≤ c0) (h : beaconref15_Entries.f k l0 = some r) :
  Calls Try.prog 17 #[.slice A0 l0.length c0] w fun e w' => ∃ v0_ : Value,e = .returned (v0_) ∧ Kd.R k39 39 w' w.heap.size (fun _ => True) v0_ r ∧ Below w.heap.size w w':=by
 have hu39:=Try.underlying39
 have HR0:=Aside0.mk hr0
 have HC0:=Aside0.mk hc0
 clear hr0 hc0
 have HB:=Aside0.mk (Below.refl w.heap.size w)
 have H : (beaconref15_Entries.l0 k l0 (([] : List (S39))) 0) = some r:=h
 clear h
 obtain ⟨y203,hy203⟩ : ∃ y_ : List (S39),y_ = (([] : List (S39))):=⟨_,rfl⟩
 replace H : (beaconref15_Entries.l0 k l0 y203 0) = some r:=by first|(rw [hy203];with_reducible exact H)|(have H2_:=(Option.bind_some _ _).symm.trans H;rw [hy203];with_reducible exact H2_)|(have H2_:=(Option.bind_some _ _).symm.trans H;with_reducible exact H2_)|with_reducible exact H|(rw [hy203];exact H)|exact H
 have Ny203:=Aside0.mk hy203
 clear hy203
 have H':=Aside0.mk H
 clear H
 go_enter Try.func17,Try.ntmps17
 go_wp2_with (first|((with_reducible refine gate_dst (N:=5) rfl ?_);refine Kd.R_lit k39 _ 39 ?hg (N:=5) ?hd (xs:=([] : List (S39))) (inner:=[]) (ok:=fun _ => True) (okp:=fun _ => True) ?hr ?hp (fun _ hk => hk) trivial (Below.refl _ _) (Nat.le_refl _) (by simp) ?_;(case hd => rfl);(case hg => rfl);(case hr => first|(go_simp;done)|(go_simp;rfl));(case hp => exact (Reps.none _ _));intro v204 w2 ho3 hb hg_ hnew_;clear hg_ hnew_;(first|rw [← Ny203.out] at ho3|(simp only [Int.reduceToNat] at ho3;rw [← Ny203.out] at ho3));have HO205:=Aside0.mk (Kd.R_lower ho3 (zW HB));replace HB:=zS HB hb;clear hb ho3))
 go_loopg [3,4] k (fun kq v3 v4 w' => ∃ (x3_1 : List (S39)) (x4_1 : Int),v4 = .int .i64 x4_1 ∧ Aside0 (beaconref15_Entries.l0 kq l0 x3_1 x4_1 = some r) ∧ Aside0 (kq ≤ k) ∧ Aside0 (Kd.R k39 39 w' w.heap.size (fun _ => True) v3 x3_1) ∧ Aside0 (Below w.heap.size w w'))
 case atStart => exact ⟨(y203),(0),ze,H',⟨Nat.le_refl _⟩,⟨zR HO205⟩,⟨zH HB⟩⟩
 case round =>
  clear H'
  try clear c1;try clear p2
  obtain ⟨x3_1,x4_1,rfl,HA,HK1,HO_3,HB⟩:=hrel
  cases gk with
  | zero => exact absurd HA.out (by simp [beaconref15_Entries.l0])
  | succ k1 =>
   have H:=HA.out
   clear HA
   simp only [beaconref15_Entries.l0] at H
   by_cases c4 : x4_1 < (l0.length : Int)
   ·rw [if_pos c4] at H
    have c4b0 : decide (x4_1 < (l0.length : Int)) = true:=decide_eq_true c4
    clear c4
    by_cases c5 : 0 ≤ x4_1
    ·rw [if_pos c5] at H
     have c5b0 : decide (0 ≤ x4_1) = true:=decide_eq_true c5
     clear c5
     by_cases c6 : x3_1.length < 2932031007402
     ·rw [if_pos c6] at H
      have LMc6:=Aside0.mk c6
      clear c6
      obtain ⟨y207,hy207⟩ : ∃ y_ : List (S39),y_ = (x3_1 ++ [(⟨(rd_T39 l0 x4_1).f0,(rd_T39 l0 x4_1).f1,(rd_T39 l0 x4_1).f2,(rd_T39 l0 x4_1).f3,(rd_T39 l0 x4_1).f4,(rd_T39 l0 x4_1).f5⟩ : S39)]):=⟨_,rfl⟩
      replace H : (beaconref15_Entries.l0 k1 l0 y207 (wrap64 (x4_1 + 1))) = some r:=by first|(rw [hy207];with_reducible exact H)|(have H2_:=(Option.bind_some _ _).symm.trans H;rw [hy207];with_reducible exact H2_)|(have H2_:=(Option.bind_some _ _).symm.trans H;with_reducible exact H2_)|with_reducible exact H|(rw [hy207];exact H)|exact H
      have Ny207:=Aside0.mk hy207
      clear hy207
      have H':=Aside0.mk H
      clear H
      have p206 : 0 ≤ (x4_1 : Int):=zd
      have q206 : x4_1 < (l0.length : Int):=zd
      obtain ⟨ad206,e206,hx206_0,hx206_1,hx206_2,hx206_3,hx206_4,hx206_5⟩:=at_T39 HR0.out x4_1 p206 q206
      cases e206
      replace hx206_0:=zh HB hx206_0
      replace hx206_1:=zh HB hx206_1
      replace hx206_2:=zh HB hx206_2
      replace hx206_3:=zh HB hx206_3
      replace hx206_4:=zh HB hx206_4
      replace hx206_5:=zh HB hx206_5
      replace p206:=eq_true p206
      replace q206:=eq_true q206
      go_wp2_with (first|((with_reducible refine gate_builtin (b:=.append) (xs:=#[.tmp 12,.tmp 17]) rfl ?_);at_builtin;refine Kd.R_append k39 (w0:=w) w.heap.size rfl (.tmp 12) (.tmp 17) 22 39 (.agg #[(.int .i64 0),(.int .i64 0),(.float .f64 0),(.int .i64 0),(.float .f64 0),(.int .i64 0)]) 48 rfl Try.underlying22 info39 rfl (by decide) (by omega) u3 x3_1 (⟨(rd_T39 l0 x4_1).f0,(rd_T39 l0 x4_1).f1,(rd_T39 l0 x4_1).f2,(rd_T39 l0 x4_1).f3,(rd_T39 l0 x4_1).f4,(rd_T39 l0 x4_1).f5⟩ : S39) [.int .i64 ((rd_T39 l0 x4_1).f0),.int .i64 ((rd_T39 l0 x4_1).f1),.float .f64 ((rd_T39 l0 x4_1).f2),.int .i64 ((rd_T39 l0 x4_1).f3),.float .f64 ((rd_T39 l0 x4_1).f4),.int .i64 ((rd_T39 l0 x4_1).f5)] (fun _ => True) (fun _ => False) rfl rfl ?aP (fun _ hk => hk.elim) ?aF ?aO ?aB ?aS ?aL ?_;(case aP => exact k39_mkM _ _ _ (⟨(rd_T39 l0 x4_1).f0,(rd_T39 l0 x4_1).f1,(rd_T39 l0 x4_1).f2,(rd_T39 l0 x4_1).f3,(rd_T39 l0 x4_1).f4,(rd_T39 l0 x4_1).f5⟩ : S39));(case aB => exact (zH HB));(case aF => exact (fun _ _ => trivial));(case aO => exact (zR HO_3));(case aS => exact (zW HB));(case aL => have:=LMc6.out;omega);intro v208 w7 ho hb hg hat;rw [← Ny207.out] at ho;replace HB:=Aside0.mk (hb);have HO209:=Aside0.mk (ho);clear HO_3;clear ho hb hg hat))
      go_roundg k1
      case measure => have:=HK1.out;omega
      case rel => exact ⟨(y207),(wrap64 (x4_1 + 1)),ze,H',⟨by have:=HK1.out;omega⟩,⟨zR HO209⟩,⟨zH HB⟩⟩
     ·rw [if_neg c6] at H
      exact absurd H (by simp)
    ·rw [if_neg c5] at H
     exact absurd H (by simp)
   ·rw [if_neg c4] at H
    have c4b0 : decide (x4_1 < (l0.length : Int)) = false:=decide_eq_false c4
    clear c4
    obtain rfl:=Option.some.inj H
    go_wp2
    go_ret
    exact ⟨_,by first|rfl|(simp [errW_none,errW_some] <;> rfl)|(simp [*,errW_none,errW_some] <;> rfl),by (with_reducible repeat (first|apply Kd.R_alloc|apply Kd.R_drewN|apply Kd.R_drew));exact HO_3.out,zH HB⟩

/-! ### beaconlaw17_own: function 16 -/
def beaconlaw17_own.f (k : Nat) (l0_0 : List (S39)) (a0_1 : Bool) : Option ((List (S39)) × Bool) := (beaconref15_Entries.f k l0_0).bind fun t212 => (some (t212, a0_1))
theorem beaconlaw17_own.mono : ∀ a0 a1 k, LeO (beaconlaw17_own.f k a0 a1) (beaconlaw17_own.f (k + 1) a0 a1) := by
 intro a0 a1 k
 unfold beaconlaw17_own.f
 repeat' first
   | (with_reducible exact beaconref15_Entries.mono _ _)
   | (with_reducible exact LeO.refl _)
   | (with_reducible exact LeO.none _)
   | (with_reducible refine LeO.ite ?_ ?_)
   | (with_reducible refine LeO.bind ?_ (fun _ => ?_))
   | exact beaconref15_Entries.mono _ _
   | exact LeO.none _
   | refine LeO.ite ?_ ?_
   | refine LeO.bind ?_ (fun _ => ?_)
set_option maxHeartbeats 8000000 in
set_option maxRecDepth 100000 in
theorem beaconlaw17_own.calls (k : Nat) (A0_0 : Option Addr) (c0_0 : Nat) (l0_0 : List (S39)) (a0_1 : Bool) (r1 : List (S39)) (r2 : Bool) (w : World) (hr0_0 : Kd.C k39 w A0_0 l0_0.length l0_0) (hc0_0 : l0_0.length ≤ c0_0) (h : beaconlaw17_own.f k l0_0 a0_1 = some (r1, r2)) :
  Calls Try.prog 16 #[.agg #[.slice A0_0 l0_0.length c0_0,.bool a0_1]] w fun e w' => ∃ v0_ : Value,e = .returned (.agg #[v0_,.bool r2]) ∧ Kd.R k39 39 w' w.heap.size (fun _ => True) v0_ r1 ∧ Below w.heap.size w w':=by
 have hu24:=Try.underlying24
 have HR0_0:=Aside0.mk hr0_0
 have HC0_0:=Aside0.mk hc0_0
 clear hr0_0 hc0_0
 have HB:=Aside0.mk (Below.refl w.heap.size w)
 have H : ((beaconref15_Entries.f k l0_0).bind fun t212 => (some (t212,a0_1))) = some (r1,r2):=h
 clear h
 replace H:=Option.bind_eq_some_iff.mp H
 obtain ⟨t212,A20,H⟩:=H
 replace H : (some (t212,a0_1)) = some (r1,r2):=H
 have A2:=Aside0.mk A20
 clear A20
 simp only [Option.some.injEq,Prod.mk.injEq] at H
 obtain ⟨rfl,rfl⟩:=H
 go_enter Try.func16,Try.ntmps16
 try go_wp2_with (first|((with_reducible refine gate_dst (N:=1) rfl ?_);refine zb (N:=1) (cs:=#[.slice A0_0 l0_0.length c0_0,.bool a0_1]) (t:=24) ?_;intro G210 hg w3 hbox hb;have K210:=Aside0.mk (hbox);have GW210:=zN HB hg;have GE210:=zN HB hg;replace HB:=zS HB hb;clear hb hbox hg)|((with_reducible refine gate_dst (N:=2) rfl ?_);refine zb (N:=2) (cs:=#[.slice none 0 0,.bool false]) (t:=24) ?_;intro G211 hg w4 hbox hb;have K211:=Aside0.mk (hbox);have GW211:=zN HB hg;have GE211:=zN HB hg;replace HB:=zS HB hb;have NB210_211:=zL K210 hg;have NB211_210:=zG K210 hg;replace K210:=zB K210 hb;clear hb hbox hg))
 replace K210:=Aside0.mk (bD K210.1)
 replace K211:=Aside0.mk (bD K211.1)
 replace HB:=Aside0.mk (bw1 HB.1)
 refine start_ (n:=7) (S:=fun w' => w'.cell? ⟨G210,0,none⟩ = some (.slice A0_0 l0_0.length c0_0) ∧ w'.cell? ⟨G210,1,none⟩ = some (.bool a0_1)) (ds:=[]) #[F,F,F,F,F,F,F] (by kernel_rfl) rfl rfl ⟨zk K210 0,zk K210 1⟩ (fun hHeld => ?_)
 generalize w4.drew = w5 at K210 K211 HB hHeld ⊢
 refine pk 0 3 #[T,F,F,F,F,F,F] ?_
 refine pk 3 6 #[T,F,F,T,F,F,F] ?_
 refine tk 1 4 #[T,T,F,T,F,F,F] hHeld ?_
 refine tk 4 7 #[T,T,F,T,T,F,F] hHeld ?_
 refine one_ (i:=2) (N:=some 5) #[T,T,T,T,T,F,F] rfl rfl (by kernel_rfl) (by decide) (fun K hK => ?_)
 refine goes_ Try.func17 (by kernel_rfl) rfl #[.slice A0_0 l0_0.length c0_0] (by rfl) rfl rfl (by (try simp only [List.map_toArray,List.map_cons,List.map_nil]);first|done|rfl|(simp only [List.length_drop,List.length_take];rfl)) ?_
 with_reducible refine (beaconref15_Entries.calls k _ _ l0_0 t212 _ ?side1 ?side2 A2.out).mono ?_
 (case side1 => exact zC (Kd.C_below HR0_0.out HB.1))
 (case side2 => exact HC0_0.out)
 rintro e w6 ⟨v213,rfl,ho0,hb⟩
 refine ⟨_,rfl,?_⟩
 have HO214:=Aside0.mk (Kd.R_lower ho0 (zW HB))
 replace K210:=zB K210 hb
 replace K211:=zB K211 hb
 replace HB:=zS HB hb
 (try clear hb)
 (try clear hb2)
 (try clear hk)
 (try clear hi)
 (try clear ho0)
 obtain ⟨Ao7,co7,eo7⟩:=Kd.R_slice HO214.out
 (first|subst eo7|(injection eo7 with f1_ f2_ f3_;have f4_:=f1_.symm;have f5_:=f3_.symm;clear f1_ f2_ f3_;subst f4_;subst f5_))
 refine hK.out _ _ ⟨zk K210 0,zk K210 1⟩ (fun hHeld => ?_)
 clear hK K
 refine nz 5 ?_
 refine pk 5 8 #[T,T,T,T,T,T,F] ?_
 refine one_ (i:=6) (N:=none) #[T,T,T,T,T,T,T] rfl rfl (by kernel_rfl) (by decide) (fun K hK => ?_)
 have hs8 : w6.cell? ⟨G211,0,none⟩ = some (.slice none 0 0):=zk K211 0
 have hfs8:=bF K211.1 0
 have hns8_0:=NB210_211.1
 have hms8_0:=NB211_210.1
 have hs9 : w6.cell? ⟨G211,1,none⟩ = some (.bool false):=zk K211 1
 have hfs9:=bF K211.1 1
 have hns9_0:=NB210_211.1
 have hms9_0:=NB211_210.1
 refine sz ?_
 refine hK.out _ _ ⟨((cF (p:=⟨G211,_,none⟩) NB210_211.1 _).trans (((cF (p:=⟨G211,_,none⟩) NB210_211.1 _).trans (hHeld.1)))),((cF (p:=⟨G211,_,none⟩) NB210_211.1 _).trans (((cF (p:=⟨G211,_,none⟩) NB210_211.1 _).trans (hHeld.2))))⟩ (fun hHeld => ?_)
 clear hK K
 refine done_ (by kernel_rfl) ?_
 try go_wp2
 refine bodyPost_ret (results_cell_row rfl _ _ G211 24 #[.slice Ao7 t212.length co7,.bool a0_1] (0,0) _ rfl (zF K211) Try.underlying24 rfl (by kernel_rfl)) rfl ?_
 exact ⟨_,by first|rfl|(simp [errW_none,errW_some] <;> rfl)|(simp [*,errW_none,errW_some] <;> rfl),by (with_reducible repeat (first|apply Kd.R_alloc|apply Kd.R_drewN|apply Kd.R_drew));exact Kd.R_mono (Kd.R_far (p:=⟨G211,1,none⟩) (Kd.R_far (p:=⟨G211,0,none⟩) (Kd.R_types HO214.out K211.1 (by decide)) (fun _ hk => hk.2) (.slice Ao7 t212.length co7)) (fun _ hk => hk.2) (.bool a0_1)) (fun _ hk => trivial),zH HB⟩

/-! ### beaconref17_has: function 49 -/
def beaconref17_has.l0 : Nat → List (S39) → Int → Int → Int → Nat → Int → Nat → Int → Option (Bool)
 | 0, _, _, _, _, _, _, _, _ => none
 | k + 1, x0, x5, x216000, x216001, x216002, x216003, x216004, x216005 => if x5 < (x0.length : Int) then (if 0 ≤ x5 then (if ((rd_T39 x0 x5).f1) = x216001 then (if ((rd_T39 x0 x5).f0) = x216000 then (some true) else (beaconref17_has.l0 k x0 (wrap64 (x5 + 1)) x216000 x216001 x216002 x216003 x216004 x216005)) else (beaconref17_has.l0 k x0 (wrap64 (x5 + 1)) x216000 x216001 x216002 x216003 x216004 x216005)) else (none)) else (some false)
def beaconref17_has.f (k : Nat) (l0 : List (S39)) (a1_0 : Int) (a1_1 : Int) (a1_2 : Nat) (a1_3 : Int) (a1_4 : Nat) (a1_5 : Int) : Option (Bool) := beaconref17_has.l0 k l0 0 a1_0 a1_1 a1_2 a1_3 a1_4 a1_5
theorem beaconref17_has.mono_l : ∀ k, (∀ y0 y1 y2 y3 y4 y5 y6 y7, LeO (beaconref17_has.l0 k y0 y1 y2 y3 y4 y5 y6 y7) (beaconref17_has.l0 (k + 1) y0 y1 y2 y3 y4 y5 y6 y7))
 | 0 => fun _ _ _ _ _ _ _ _ r h => by simp [beaconref17_has.l0] at h
 | k + 1 => by
  have ih0:=beaconref17_has.mono_l k
  ·intro y0 y1 y2 y3 y4 y5 y6 y7
   unfold beaconref17_has.l0
   repeat' first
   | (with_reducible exact ih0 _ _ _ _ _ _ _ _)
   | (with_reducible exact LeO.refl _)
   | (with_reducible exact LeO.none _)
   | (with_reducible refine LeO.ite ?_ ?_)
   | (with_reducible refine LeO.bind ?_ (fun _ => ?_))
   | exact ih0 _ _ _ _ _ _ _ _
   | exact LeO.none _
   | refine LeO.ite ?_ ?_
   | refine LeO.bind ?_ (fun _ => ?_)
theorem beaconref17_has.mono : ∀ a0 a1 a2 a3 a4 a5 a6 k, LeO (beaconref17_has.f k a0 a1 a2 a3 a4 a5 a6) (beaconref17_has.f (k + 1) a0 a1 a2 a3 a4 a5 a6) := by
 intro a0 a1 a2 a3 a4 a5 a6 k
 have ih0:=beaconref17_has.mono_l k
 unfold beaconref17_has.f
 repeat' first
   | (with_reducible exact ih0 _ _ _ _ _ _ _ _)
   | (with_reducible exact LeO.refl _)
   | (with_reducible exact LeO.none _)
   | (with_reducible refine LeO.ite ?_ ?_)
   | (with_reducible refine LeO.bind ?_ (fun _ => ?_))
   | exact ih0 _ _ _ _ _ _ _ _
   | exact LeO.none _
   | refine LeO.ite ?_ ?_
   | refine LeO.bind ?_ (fun _ => ?_)
set_option maxHeartbeats 8000000 in
set_option maxRecDepth 100000 in
theorem beaconref17_has.calls (k : Nat) (A0 : Option Addr) (c0 : Nat) (l0 : List (S39)) (a1_0 : Int) (a1_1 : Int) (a1_2 : Nat) (a1_3 : Int) (a1_4 : Nat) (a1_5 : Int) (r : Bool) (w : World) (hr0 : Kd.C k39 w A0 l0.length l0) (hc0 : l0.length ≤ c0) (h : beaconref17_has.f k l0 a1_0 a1_1 a1_2 a1_3 a1_4 a1_5 = some r) :
  Calls Try.prog 49 #[.slice A0 l0.length c0,.agg #[.int .i64 a1_0,.int .i64 a1_1,.float .f64 a1_2,.int .i64 a1_3,.float .f64 a1_4,.int .i64 a1_5]] w fun e w' => e = .returned (.bool r) ∧ Below w.heap.size w w':=by
 have hu39:=Try.underlying39
 have HR0:=Aside0.mk hr0
 have HC0:=Aside0.mk hc0
 clear hr0 hc0
 have HB:=Aside0.mk (Below.refl w.heap.size w)
 have H : (beaconref17_has.l0 k l0 0 a1_0 a1_1 a1_2 a1_3 a1_4 a1_5) = some r:=h
 clear h
 have H':=Aside0.mk H
 clear H
 go_enter Try.func49,Try.ntmps49
 go_wp2_with (first|((with_reducible refine gate_dst (N:=3) rfl ?_);refine zb (N:=3) (cs:=#[.int .i64 a1_0,.int .i64 a1_1,.float .f64 a1_2,.int .i64 a1_3,.float .f64 a1_4,.int .i64 a1_5]) (t:=39) ?_;intro G215 hg w3 hbox hb;have K215:=Aside0.mk (hbox);have GW215:=zN HB hg;have GE215:=zN HB hg;replace HB:=zS HB hb;clear hb hbox hg))
 repeat (go_quiet (first|((with_reducible refine gate_dst (N:=3) rfl ?_);refine zb (N:=3) (cs:=#[.int .i64 a1_0,.int .i64 a1_1,.float .f64 a1_2,.int .i64 a1_3,.float .f64 a1_4,.int .i64 a1_5]) (t:=39) ?_;intro G215 hg w3 hbox hb;have K215:=Aside0.mk (hbox);have GW215:=zN HB hg;have GE215:=zN HB hg;replace HB:=zS HB hb;clear hb hbox hg));try go_wp2_with (first|((with_reducible refine gate_dst (N:=3) rfl ?_);refine zb (N:=3) (cs:=#[.int .i64 a1_0,.int .i64 a1_1,.float .f64 a1_2,.int .i64 a1_3,.float .f64 a1_4,.int .i64 a1_5]) (t:=39) ?_;intro G215 hg w3 hbox hb;have K215:=Aside0.mk (hbox);have GW215:=zN HB hg;have GE215:=zN HB hg;replace HB:=zS HB hb;clear hb hbox hg)))
 go_loopg [5] k (fun kq v5 w' => ∃ (x5_1 : Int),v5 = .int .i64 x5_1 ∧ Aside0 (beaconref17_has.l0 kq l0 x5_1 a1_0 a1_1 a1_2 a1_3 a1_4 a1_5 = some r) ∧ Aside0 (kq ≤ k) ∧ Aside0 (w'.heap[G215]? = some (.cells #[.int .i64 a1_0,.int .i64 a1_1,.float .f64 a1_2,.int .i64 a1_3,.float .f64 a1_4,.int .i64 a1_5] 39 (0,0))) ∧ Aside0 (Below w.heap.size w w'))
 case atStart => exact ⟨(0),ze,H',⟨Nat.le_refl _⟩,⟨z1 K215.1⟩,⟨zH HB⟩⟩
 case round =>
  clear H'
  try clear p2
  obtain ⟨x5_1,rfl,HA,HK1,K215,HB⟩:=hrel
  cases gk with
  | zero => exact absurd HA.out (by simp [beaconref17_has.l0])
  | succ k1 =>
   have H:=HA.out
   clear HA
   simp only [beaconref17_has.l0] at H
   by_cases c4 : x5_1 < (l0.length : Int)
   ·rw [if_pos c4] at H
    have c4b0 : decide (x5_1 < (l0.length : Int)) = true:=decide_eq_true c4
    clear c4
    by_cases c5 : 0 ≤ x5_1
    ·rw [if_pos c5] at H
     have c5b0 : decide (0 ≤ x5_1) = true:=decide_eq_true c5
     clear c5
     by_cases c6 : ((rd_T39 l0 x5_1).f1) = a1_1
     ·rw [if_pos c6] at H
      have c6b0 : (((rd_T39 l0 x5_1).f1) == a1_1) = true:=beq_iff_eq.mpr c6
      have c6b1 : (((rd_T39 l0 x5_1).f1) != a1_1) = false:=bne_eq_false_iff_eq.mpr c6
      clear c6
      by_cases c7 : ((rd_T39 l0 x5_1).f0) = a1_0
      ·rw [if_pos c7] at H
       have c7b0 : (((rd_T39 l0 x5_1).f0) == a1_0) = true:=beq_iff_eq.mpr c7
       have c7b1 : (((rd_T39 l0 x5_1).f0) != a1_0) = false:=bne_eq_false_iff_eq.mpr c7
       clear c7
       obtain rfl:=Option.some.inj H
       have p216 : 0 ≤ (x5_1 : Int):=zd
       have q216 : x5_1 < (l0.length : Int):=zd
       obtain ⟨ad216,e216,hx216_0,hx216_1,hx216_2,hx216_3,hx216_4,hx216_5⟩:=at_T39 HR0.out x5_1 p216 q216
       cases e216
       replace hx216_0:=zh HB hx216_0
       replace hx216_1:=zh HB hx216_1
       replace hx216_2:=zh HB hx216_2
       replace hx216_3:=zh HB hx216_3
       replace hx216_4:=zh HB hx216_4
       replace hx216_5:=zh HB hx216_5
       replace p216:=eq_true p216
       replace q216:=eq_true q216
       have hcz8_0 : wr.cell? ⟨G215,0,none⟩ = some (.int .i64 a1_0):=zk K215 0
       have hcz8_1 : wr.cell? ⟨G215,1,none⟩ = some (.int .i64 a1_1):=zk K215 1
       have hcz8_2 : wr.cell? ⟨G215,2,none⟩ = some (.float .f64 a1_2):=zk K215 2
       have hcz8_3 : wr.cell? ⟨G215,3,none⟩ = some (.int .i64 a1_3):=zk K215 3
       have hcz8_4 : wr.cell? ⟨G215,4,none⟩ = some (.float .f64 a1_4):=zk K215 4
       have hcz8_5 : wr.cell? ⟨G215,5,none⟩ = some (.int .i64 a1_5):=zk K215 5
       have hfz8_0:=bF K215.1 0
       have hfz8_1:=bF K215.1 1
       have hfz8_2:=bF K215.1 2
       have hfz8_3:=bF K215.1 3
       have hfz8_4:=bF K215.1 4
       have hfz8_5:=bF K215.1 5
       have p217 : 0 ≤ (x5_1 : Int):=zd
       have q217 : x5_1 < (l0.length : Int):=zd
       obtain ⟨ad217,e217,hx217_0,hx217_1,hx217_2,hx217_3,hx217_4,hx217_5⟩:=at_T39 HR0.out x5_1 p217 q217
       obtain rfl : ad216 = ad217:=(by injection e217)
       replace hx217_0:=zh HB hx217_0
       replace hx217_1:=zh HB hx217_1
       replace hx217_2:=zh HB hx217_2
       replace hx217_3:=zh HB hx217_3
       replace hx217_4:=zh HB hx217_4
       replace hx217_5:=zh HB hx217_5
       replace p217:=eq_true p217
       replace q217:=eq_true q217
       go_wp2
       repeat (go_quiet (fail);try go_wp2)
       go_ret
       exact ⟨by first|rfl|(simp [errW_none,errW_some] <;> rfl)|(simp [*,errW_none,errW_some] <;> rfl),zH HB⟩
      ·rw [if_neg c7] at H
       have c7b0 : (((rd_T39 l0 x5_1).f0) == a1_0) = false:=beq_eq_false_iff_ne.mpr c7
       have c7b1 : (((rd_T39 l0 x5_1).f0) != a1_0) = true:=bne_iff_ne.mpr c7
       have H':=Aside0.mk H
       clear H
       have p216 : 0 ≤ (x5_1 : Int):=zd
       have q216 : x5_1 < (l0.length : Int):=zd
       obtain ⟨ad216,e216,hx216_0,hx216_1,hx216_2,hx216_3,hx216_4,hx216_5⟩:=at_T39 HR0.out x5_1 p216 q216
       cases e216
       replace hx216_0:=zh HB hx216_0
       replace hx216_1:=zh HB hx216_1
       replace hx216_2:=zh HB hx216_2
       replace hx216_3:=zh HB hx216_3
       replace hx216_4:=zh HB hx216_4
       replace hx216_5:=zh HB hx216_5
       replace p216:=eq_true p216
       replace q216:=eq_true q216
       have hcz9_0 : wr.cell? ⟨G215,0,none⟩ = some (.int .i64 a1_0):=zk K215 0
       have hcz9_1 : wr.cell? ⟨G215,1,none⟩ = some (.int .i64 a1_1):=zk K215 1
       have hcz9_2 : wr.cell? ⟨G215,2,none⟩ = some (.float .f64 a1_2):=zk K215 2
       have hcz9_3 : wr.cell? ⟨G215,3,none⟩ = some (.int .i64 a1_3):=zk K215 3
       have hcz9_4 : wr.cell? ⟨G215,4,none⟩ = some (.float .f64 a1_4):=zk K215 4
       have hcz9_5 : wr.cell? ⟨G215,5,none⟩ = some (.int .i64 a1_5):=zk K215 5
       have hfz9_0:=bF K215.1 0
       have hfz9_1:=bF K215.1 1
       have hfz9_2:=bF K215.1 2
       have hfz9_3:=bF K215.1 3
       have hfz9_4:=bF K215.1 4
       have hfz9_5:=bF K215.1 5
       have p217 : 0 ≤ (x5_1 : Int):=zd
       have q217 : x5_1 < (l0.length : Int):=zd
       obtain ⟨ad217,e217,hx217_0,hx217_1,hx217_2,hx217_3,hx217_4,hx217_5⟩:=at_T39 HR0.out x5_1 p217 q217
       obtain rfl : ad216 = ad217:=(by injection e217)
       replace hx217_0:=zh HB hx217_0
       replace hx217_1:=zh HB hx217_1
       replace hx217_2:=zh HB hx217_2
       replace hx217_3:=zh HB hx217_3
       replace hx217_4:=zh HB hx217_4
       replace hx217_5:=zh HB hx217_5
       replace p217:=eq_true p217
       replace q217:=eq_true q217
       go_wp2
       repeat (go_quiet (fail);try go_wp2)
       go_roundg k1
       case measure => have:=HK1.out;omega
       case rel => exact ⟨(wrap64 (x5_1 + 1)),ze,H',⟨by have:=HK1.out;omega⟩,⟨z1 K215.1⟩,⟨zH HB⟩⟩
     ·rw [if_neg c6] at H
      have c6b0 : (((rd_T39 l0 x5_1).f1) == a1_1) = false:=beq_eq_false_iff_ne.mpr c6
      have c6b1 : (((rd_T39 l0 x5_1).f1) != a1_1) = true:=bne_iff_ne.mpr c6
      have H':=Aside0.mk H
      clear H
      have p216 : 0 ≤ (x5_1 : Int):=zd
      have q216 : x5_1 < (l0.length : Int):=zd
      obtain ⟨ad216,e216,hx216_0,hx216_1,hx216_2,hx216_3,hx216_4,hx216_5⟩:=at_T39 HR0.out x5_1 p216 q216
      cases e216
      replace hx216_0:=zh HB hx216_0
      replace hx216_1:=zh HB hx216_1
      replace hx216_2:=zh HB hx216_2
      replace hx216_3:=zh HB hx216_3
      replace hx216_4:=zh HB hx216_4
      replace hx216_5:=zh HB hx216_5
      replace p216:=eq_true p216
      replace q216:=eq_true q216
      have hcz10_0 : wr.cell? ⟨G215,0,none⟩ = some (.int .i64 a1_0):=zk K215 0
      have hcz10_1 : wr.cell? ⟨G215,1,none⟩ = some (.int .i64 a1_1):=zk K215 1
      have hcz10_2 : wr.cell? ⟨G215,2,none⟩ = some (.float .f64 a1_2):=zk K215 2
      have hcz10_3 : wr.cell? ⟨G215,3,none⟩ = some (.int .i64 a1_3):=zk K215 3
      have hcz10_4 : wr.cell? ⟨G215,4,none⟩ = some (.float .f64 a1_4):=zk K215 4
      have hcz10_5 : wr.cell? ⟨G215,5,none⟩ = some (.int .i64 a1_5):=zk K215 5
      have hfz10_0:=bF K215.1 0
      have hfz10_1:=bF K215.1 1
      have hfz10_2:=bF K215.1 2
      have hfz10_3:=bF K215.1 3
      have hfz10_4:=bF K215.1 4
      have hfz10_5:=bF K215.1 5
      go_wp2
      repeat (go_quiet (fail);try go_wp2)
      go_roundg k1
      case measure => have:=HK1.out;omega
      case rel => exact ⟨(wrap64 (x5_1 + 1)),ze,H',⟨by have:=HK1.out;omega⟩,⟨z1 K215.1⟩,⟨zH HB⟩⟩
    ·rw [if_neg c5] at H
     exact absurd H (by simp)
   ·rw [if_neg c4] at H
    have c4b0 : decide (x5_1 < (l0.length : Int)) = false:=decide_eq_false c4
    clear c4
    obtain rfl:=Option.some.inj H
    go_wp2
    repeat (go_quiet (fail);try go_wp2)
    go_ret
    exact ⟨by first|rfl|(simp [errW_none,errW_some] <;> rfl)|(simp [*,errW_none,errW_some] <;> rfl),zH HB⟩

end Go.Proofs.Ytgmjlhpigfaicaa.XA
