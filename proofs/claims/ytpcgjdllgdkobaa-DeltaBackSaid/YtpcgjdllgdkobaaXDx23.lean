/- Go functions of this seat as Lean functions, with proofs that the calls come to them. (Written by xprint.py, a program of this session, over the kit's print.) -/
import Derived.Test.YtpcgjdllgdkobaaXDx0
import Derived.Test.YtpcgjdllgdkobaaXDx8
import Derived.Test.YtpcgjdllgdkobaaXDx12
import Derived.Test.YtpcgjdllgdkobaaXDx14
import Derived.Test.YtpcgjdllgdkobaaXDx16
import Derived.Test.YtpcgjdllgdkobaaXDx17
import Derived.Test.YtpcgjdllgdkobaaXDx22
namespace Go.Proofs.Ytpcgjdllgdkobaa.XD
open Go.RowKit Go.Proofs.YtpcgjdllgdkobaaW.PrintWords Go.Proofs.YtpcgjdllgdkobaaW.PrintLast Go.Proofs.YtpcgjdllgdkobaaW.PrintMore
attribute [local go_sem] max2_int min2_int max_two min_two max_three min_three max_four min_four   -- for this text's walks alone
set_option linter.unusedVariables false
set_option linter.unusedSimpArgs false
open List renaming setIfInBounds_toArray → xA, set_cons_zero → xB, set_cons_succ → xC
open Go.Proofs.YtpcgjdllgdkobaaW.PrintWords renaming blk_drewN → bN, blk_drew → bD, blk_alloc → bA, below_set → bS, blk_frozen → bF, blk_cell → bC, cell_far → cF, blk_far → bZ, blk_below → bB, pw_below_drewN → bwN, below_drew1 → bw1, below_alloc → bwA
open Go.Proofs.YtpcgjdllgdkobaaW.PrintZ
open Bool renaming true → T,false → F

/-! ### beaconlaw14_DeltaBack: function 5 -/
def beaconlaw14_DeltaBack.j0 : Nat → List (S61) → List (S61) → Bool → Option (Bool)
 | 0, _, _, _ => none
 | k + 1, x0, x2, x74 => if x74 = true then (some false) else ((beaconlaw14_own.f x0).bind fun t359 => ((beaconlaw14_own.f x2).bind fun t362 => ((delta_Merge.f k t359 t362).bind fun bt365 => (if bt365.2 = 0 then ((beaconlaw14_own.f bt365.1).bind fun t370 => ((beaconlaw14_own.f x2).bind fun t373 => ((delta_Merge.f k t370 t373).bind fun bt376 => (if bt376.2 = 0 then ((beaconref06_SameNews.f k bt365.1 bt376.1).bind fun t380 => (if t380 = true then ((beaconlaw14_awake.f k).bind fun t381 => (some t381)) else (some false))) else (some false))))) else (if (bt365.1.length : Int) = 0 then ((beaconlaw14_awake.f k).bind fun t369 => (some t369)) else (some false))))))
def beaconlaw14_DeltaBack.f (k : Nat) (l0 : List (S61)) (l1 : List (S61)) (l2 : List (S61)) : Option (Bool) := (beaconlaw14_own.f l0).bind fun t327 => ((beaconlaw14_own.f l1).bind fun t330 => ((delta_Diff.f k t327 t330).bind fun bt333 => (if bt333.2 = 0 then ((beaconlaw14_own.f l0).bind fun t341 => ((delta_Merge.f k t341 bt333.1).bind fun bt344 => ((beaconlaw14_own.f l0).bind fun t348 => ((beaconlaw14_own.f l0).bind fun t351 => ((delta_Diff.f k t348 t351).bind fun bt354 => (if bt344.2 = 0 then ((beaconref06_SameNews.f k bt344.1 l1).bind fun t358 => (if t358 = true then (if bt354.2 = 0 then (beaconlaw14_DeltaBack.j0 k l0 l2 ((bt354.1.length : Int) != 0)) else (beaconlaw14_DeltaBack.j0 k l0 l2 true)) else (beaconlaw14_DeltaBack.j0 k l0 l2 true))) else (beaconlaw14_DeltaBack.j0 k l0 l2 true))))))) else ((beaconref14_List.f k l0).bind fun t337 => (if t337 = true then ((beaconref14_List.f k l1).bind fun t338 => (if t338 = true then (some false) else (if (bt333.1.length : Int) = 0 then ((beaconlaw14_awake.f k).bind fun t339 => (some t339)) else (some false)))) else (if (bt333.1.length : Int) = 0 then ((beaconlaw14_awake.f k).bind fun t340 => (some t340)) else (some false)))))))
theorem beaconlaw14_DeltaBack.mono_l : ∀ k, (∀ y0 y1 y2, LeO (beaconlaw14_DeltaBack.j0 k y0 y1 y2) (beaconlaw14_DeltaBack.j0 (k + 1) y0 y1 y2))
 | 0 => fun _ _ _ r h => by simp [beaconlaw14_DeltaBack.j0] at h
 | k + 1 => by
  have ih0:=beaconlaw14_DeltaBack.mono_l k
  ·intro y0 y1 y2
   unfold beaconlaw14_DeltaBack.j0
   repeat' first
   | (with_reducible exact ih0 _ _ _)
   | (with_reducible exact beaconlaw14_awake.mono _)
   | (with_reducible exact beaconref06_SameNews.mono _ _ _)
   | (with_reducible exact beaconref14_List.mono _ _)
   | (with_reducible exact delta_Diff.mono _ _ _)
   | (with_reducible exact delta_Merge.mono _ _ _)
   | (with_reducible exact LeO.refl _)
   | (with_reducible exact LeO.none _)
   | (with_reducible refine LeO.ite ?_ ?_)
   | (with_reducible refine LeO.bind ?_ (fun _ => ?_))
   | exact ih0 _ _ _
   | exact beaconlaw14_awake.mono _
   | exact beaconref06_SameNews.mono _ _ _
   | exact beaconref14_List.mono _ _
   | exact delta_Diff.mono _ _ _
   | exact delta_Merge.mono _ _ _
   | exact LeO.none _
   | refine LeO.ite ?_ ?_
   | refine LeO.bind ?_ (fun _ => ?_)
theorem beaconlaw14_DeltaBack.mono : ∀ a0 a1 a2 k, LeO (beaconlaw14_DeltaBack.f k a0 a1 a2) (beaconlaw14_DeltaBack.f (k + 1) a0 a1 a2) := by
 intro a0 a1 a2 k
 have ih0:=beaconlaw14_DeltaBack.mono_l k
 unfold beaconlaw14_DeltaBack.f
 repeat' first
   | (with_reducible exact ih0 _ _ _)
   | (with_reducible exact beaconlaw14_awake.mono _)
   | (with_reducible exact beaconref06_SameNews.mono _ _ _)
   | (with_reducible exact beaconref14_List.mono _ _)
   | (with_reducible exact delta_Diff.mono _ _ _)
   | (with_reducible exact delta_Merge.mono _ _ _)
   | (with_reducible exact LeO.refl _)
   | (with_reducible exact LeO.none _)
   | (with_reducible refine LeO.ite ?_ ?_)
   | (with_reducible refine LeO.bind ?_ (fun _ => ?_))
   | exact ih0 _ _ _
   | exact beaconlaw14_awake.mono _
   | exact beaconref06_SameNews.mono _ _ _
   | exact beaconref14_List.mono _ _
   | exact delta_Diff.mono _ _ _
   | exact delta_Merge.mono _ _ _
   | exact LeO.none _
   | refine LeO.ite ?_ ?_
   | refine LeO.bind ?_ (fun _ => ?_)
set_option maxHeartbeats 8000000 in
set_option maxRecDepth 100000 in
theorem beaconlaw14_DeltaBack.calls (k : Nat) (A0 : Option Addr) (c0 : Nat) (l0 : List (S61)) (A1 : Option Addr) (c1 : Nat) (l1 : List (S61)) (A2 : Option Addr) (c2 : Nat) (l2 : List (S61)) (r : Bool) (w : World) (hr0 : Kd.C k61 w A0 l0.length l0) (hc0 : l0.length ≤ c0) (hr1 : Kd.C k61 w A1 l1.length l1) (hc1 : l1.length ≤ c1) (hr2 : Kd.C k61 w A2 l2.length l2) (hc2 : l2.length ≤ c2) (h : beaconlaw14_DeltaBack.f k l0 l1 l2 = some r) (hr_ : r = true) :
  Calls Try.prog 5 #[.slice A0 l0.length c0,.slice A1 l1.length c1,.slice A2 l2.length c2] w fun e w' => e = .returned (.bool r) ∧ Below w.heap.size w w':=by
 have HR0:=zA hr0
 have HC0:=zA hc0
 clear hr0 hc0
 have HR1:=zA hr1
 have HC1:=zA hc1
 clear hr1 hc1
 have HR2:=zA hr2
 have HC2:=zA hc2
 clear hr2 hc2
 have HB:=zA (Below.refl w.heap.size w)
 have HR_:=zA hr_
 clear hr_
 have H : ((beaconlaw14_own.f l0).bind fun t327 => ((beaconlaw14_own.f l1).bind fun t330 => ((delta_Diff.f k t327 t330).bind fun bt333 => (if bt333.2 = 0 then ((beaconlaw14_own.f l0).bind fun t341 => ((delta_Merge.f k t341 bt333.1).bind fun bt344 => ((beaconlaw14_own.f l0).bind fun t348 => ((beaconlaw14_own.f l0).bind fun t351 => ((delta_Diff.f k t348 t351).bind fun bt354 => (if bt344.2 = 0 then ((beaconref06_SameNews.f k bt344.1 l1).bind fun t358 => (if t358 = true then (if bt354.2 = 0 then (beaconlaw14_DeltaBack.j0 k l0 l2 ((bt354.1.length : Int) != 0)) else (beaconlaw14_DeltaBack.j0 k l0 l2 true)) else (beaconlaw14_DeltaBack.j0 k l0 l2 true))) else (beaconlaw14_DeltaBack.j0 k l0 l2 true))))))) else ((beaconref14_List.f k l0).bind fun t337 => (if t337 = true then ((beaconref14_List.f k l1).bind fun t338 => (if t338 = true then (some false) else (if (bt333.1.length : Int) = 0 then ((beaconlaw14_awake.f k).bind fun t339 => (some t339)) else (some false)))) else (if (bt333.1.length : Int) = 0 then ((beaconlaw14_awake.f k).bind fun t340 => (some t340)) else (some false)))))))) = some r:=h
 clear h
 replace H:=Option.bind_eq_some_iff.mp H
 obtain ⟨t327,A40,H⟩:=H
 (try dsimp only at H)
 have A4:=zA A40
 clear A40
 replace H:=Option.bind_eq_some_iff.mp H
 obtain ⟨t330,A50,H⟩:=H
 (try dsimp only at H)
 have A5:=zA A50
 clear A50
 replace H:=Option.bind_eq_some_iff.mp H
 obtain ⟨⟨t333,t334⟩,A60,H⟩:=H
 (try dsimp only at H)
 have A6:=zA A60
 clear A60
 by_cases c7 : t334 = 0
 ·rw [if_pos c7] at H
  have c7b0 : (t334 == 0) = true:=beq_iff_eq.mpr c7
  have c7b1 : (t334 != 0) = false:=bne_eq_false_iff_eq.mpr c7
  clear c7
  replace H:=Option.bind_eq_some_iff.mp H
  obtain ⟨t341,A80,H⟩:=H
  (try dsimp only at H)
  have A8:=zA A80
  clear A80
  replace H:=Option.bind_eq_some_iff.mp H
  obtain ⟨⟨t344,t345⟩,A90,H⟩:=H
  (try dsimp only at H)
  have A9:=zA A90
  clear A90
  replace H:=Option.bind_eq_some_iff.mp H
  obtain ⟨t348,A100,H⟩:=H
  (try dsimp only at H)
  have A10:=zA A100
  clear A100
  replace H:=Option.bind_eq_some_iff.mp H
  obtain ⟨t351,A110,H⟩:=H
  (try dsimp only at H)
  have A11:=zA A110
  clear A110
  replace H:=Option.bind_eq_some_iff.mp H
  obtain ⟨⟨t354,t355⟩,A120,H⟩:=H
  (try dsimp only at H)
  have A12:=zA A120
  clear A120
  have HC13:=zA H
  clear H
  go_enter Try.func5,Try.ntmps5
  go_upto_region 6 with (first|((with_reducible refine gate_callee (f:=13) rfl ?_);refine zg (some 19) Try.func13 #[.slice A0 l0.length c0] ?_;(with_reducible refine (beaconlaw14_own.calls _ _ l0 t327 _ ?side1 ?side2 A4.out).mono ?_);(case side1 => exact zC HR0.out);(case side2 => exact HC0.out);rintro e w14 ⟨v328,rfl,ho0,hb⟩;refine ⟨_,rfl,?_⟩;have HO329:=zA (Kd.R_lower ho0 (zW HB));replace HB:=zS HB hb;(try clear hb);(try clear ho0))|((with_reducible refine gate_callee (f:=13) rfl ?_);refine zg (some 21) Try.func13 #[.slice A1 l1.length c1] ?_;(with_reducible refine (beaconlaw14_own.calls _ _ l1 t330 _ ?side1 ?side2 A5.out).mono ?_);(case side1 => exact zC (Kd.C_below HR1.out HB.1));(case side2 => exact HC1.out);rintro e w15 ⟨v331,rfl,ho0,hb⟩;refine ⟨_,rfl,?_⟩;have HO332:=zA (Kd.R_lower (Kd.R_new' ho0 (Kd.R_lt (zR HO329))) (zW HB));replace HO329:=zA (Kd.R_elder' (zR HO329) (Kd.R_base ho0) hb);replace HB:=zS HB hb;(try clear hb);(try clear ho0);obtain ⟨Ao16,co16,eo16⟩:=Kd.R_slice HO329.out;subst eo16;obtain ⟨Ao17,co17,eo17⟩:=Kd.R_slice HO332.out;subst eo17)|((with_reducible refine gate_callee (f:=12) rfl ?_);refine zg (some 22) Try.func12 #[.slice Ao16 t327.length co16,.slice Ao17 t330.length co17] ?_;(with_reducible refine (delta_Diff.calls k _ _ t327 _ _ t330 t333 t334 _ ?side1 ?side2 ?side3 ?side4 A6.out).mono ?_);(case side1 => exact zC ((Kd.R_reads' HO329.out).2.2));(case side2 => exact (Kd.R_reads' HO329.out).2.1);(case side3 => exact zC ((Kd.R_reads' HO332.out).2.2));(case side4 => exact (Kd.R_reads' HO332.out).2.1);rintro e w18 ⟨v335,rfl,ho0,hb⟩;refine ⟨_,rfl,?_⟩;have HO336:=zA (Kd.R_lower (Kd.R_new' (Kd.R_new' ho0 (Kd.R_lt (zR HO329))) (Kd.R_lt (zR HO332))) (zW HB));replace HO329:=zA (Kd.R_elder' (zR HO329) (Kd.R_base ho0) hb);replace HO332:=zA (Kd.R_elder' (zR HO332) (Kd.R_base ho0) hb);replace HB:=zS HB hb;(try clear hb);(try clear ho0))|((with_reducible refine gate_callee (f:=13) rfl ?_);refine zg (some 45) Try.func13 #[.slice A0 l0.length c0] ?_;(with_reducible refine (beaconlaw14_own.calls _ _ l0 t341 _ ?side1 ?side2 A8.out).mono ?_);(case side1 => exact zC (Kd.C_below HR0.out HB.1));(case side2 => exact HC0.out);rintro e w19 ⟨v342,rfl,ho0,hb⟩;refine ⟨_,rfl,?_⟩;have HO343:=zA (Kd.R_lower (Kd.R_new' (Kd.R_new' (Kd.R_new' ho0 (Kd.R_lt (zR HO329))) (Kd.R_lt (zR HO332))) (Kd.R_lt (zR HO336))) (zW HB));replace HO329:=zA (Kd.R_elder' (zR HO329) (Kd.R_base ho0) hb);replace HO332:=zA (Kd.R_elder' (zR HO332) (Kd.R_base ho0) hb);replace HO336:=zA (Kd.R_elder' (zR HO336) (Kd.R_base ho0) hb);replace HB:=zS HB hb;(try clear hb);(try clear ho0);obtain ⟨Ao20,co20,eo20⟩:=Kd.R_slice HO343.out;subst eo20;obtain ⟨Ao21,co21,eo21⟩:=Kd.R_slice HO336.out;subst eo21)|((with_reducible refine gate_callee (f:=15) rfl ?_);refine zg (some 47) Try.func15 #[.slice Ao20 t341.length co20,.slice Ao21 t333.length co21] ?_;(with_reducible refine (delta_Merge.calls k _ _ t341 _ _ t333 t344 t345 _ ?side1 ?side2 ?side3 ?side4 A9.out).mono ?_);(case side1 => exact zC ((Kd.R_reads' HO343.out).2.2));(case side2 => exact (Kd.R_reads' HO343.out).2.1);(case side3 => exact zC ((Kd.R_reads' HO336.out).2.2));(case side4 => exact (Kd.R_reads' HO336.out).2.1);rintro e w22 ⟨v346,rfl,ho0,hb⟩;refine ⟨_,rfl,?_⟩;have HO347:=zA (Kd.R_lower (Kd.R_new' (Kd.R_new' (Kd.R_new' (Kd.R_new' ho0 (Kd.R_lt (zR HO329))) (Kd.R_lt (zR HO332))) (Kd.R_lt (zR HO336))) (Kd.R_lt (zR HO343))) (zW HB));replace HO329:=zA (Kd.R_elder' (zR HO329) (Kd.R_base ho0) hb);replace HO332:=zA (Kd.R_elder' (zR HO332) (Kd.R_base ho0) hb);replace HO336:=zA (Kd.R_elder' (zR HO336) (Kd.R_base ho0) hb);replace HO343:=zA (Kd.R_elder' (zR HO343) (Kd.R_base ho0) hb);replace HB:=zS HB hb;(try clear hb);(try clear ho0))|((with_reducible refine gate_callee (f:=13) rfl ?_);refine zg (some 52) Try.func13 #[.slice A0 l0.length c0] ?_;(with_reducible refine (beaconlaw14_own.calls _ _ l0 t348 _ ?side1 ?side2 A10.out).mono ?_);(case side1 => exact zC (Kd.C_below HR0.out HB.1));(case side2 => exact HC0.out);rintro e w23 ⟨v349,rfl,ho0,hb⟩;refine ⟨_,rfl,?_⟩;have HO350:=zA (Kd.R_lower (Kd.R_new' (Kd.R_new' (Kd.R_new' (Kd.R_new' (Kd.R_new' ho0 (Kd.R_lt (zR HO329))) (Kd.R_lt (zR HO332))) (Kd.R_lt (zR HO336))) (Kd.R_lt (zR HO343))) (Kd.R_lt (zR HO347))) (zW HB));replace HO329:=zA (Kd.R_elder' (zR HO329) (Kd.R_base ho0) hb);replace HO332:=zA (Kd.R_elder' (zR HO332) (Kd.R_base ho0) hb);replace HO336:=zA (Kd.R_elder' (zR HO336) (Kd.R_base ho0) hb);replace HO343:=zA (Kd.R_elder' (zR HO343) (Kd.R_base ho0) hb);replace HO347:=zA (Kd.R_elder' (zR HO347) (Kd.R_base ho0) hb);replace HB:=zS HB hb;(try clear hb);(try clear ho0))|((with_reducible refine gate_callee (f:=13) rfl ?_);refine zg (some 54) Try.func13 #[.slice A0 l0.length c0] ?_;(with_reducible refine (beaconlaw14_own.calls _ _ l0 t351 _ ?side1 ?side2 A11.out).mono ?_);(case side1 => exact zC (Kd.C_below HR0.out HB.1));(case side2 => exact HC0.out);rintro e w24 ⟨v352,rfl,ho0,hb⟩;refine ⟨_,rfl,?_⟩;have HO353:=zA (Kd.R_lower (Kd.R_new' (Kd.R_new' (Kd.R_new' (Kd.R_new' (Kd.R_new' (Kd.R_new' ho0 (Kd.R_lt (zR HO329))) (Kd.R_lt (zR HO332))) (Kd.R_lt (zR HO336))) (Kd.R_lt (zR HO343))) (Kd.R_lt (zR HO347))) (Kd.R_lt (zR HO350))) (zW HB));replace HO329:=zA (Kd.R_elder' (zR HO329) (Kd.R_base ho0) hb);replace HO332:=zA (Kd.R_elder' (zR HO332) (Kd.R_base ho0) hb);replace HO336:=zA (Kd.R_elder' (zR HO336) (Kd.R_base ho0) hb);replace HO343:=zA (Kd.R_elder' (zR HO343) (Kd.R_base ho0) hb);replace HO347:=zA (Kd.R_elder' (zR HO347) (Kd.R_base ho0) hb);replace HO350:=zA (Kd.R_elder' (zR HO350) (Kd.R_base ho0) hb);replace HB:=zS HB hb;(try clear hb);(try clear ho0);obtain ⟨Ao25,co25,eo25⟩:=Kd.R_slice HO350.out;subst eo25;obtain ⟨Ao26,co26,eo26⟩:=Kd.R_slice HO353.out;subst eo26)|((with_reducible refine gate_callee (f:=12) rfl ?_);refine zg (some 55) Try.func12 #[.slice Ao25 t348.length co25,.slice Ao26 t351.length co26] ?_;(with_reducible refine (delta_Diff.calls k _ _ t348 _ _ t351 t354 t355 _ ?side1 ?side2 ?side3 ?side4 A12.out).mono ?_);(case side1 => exact zC ((Kd.R_reads' HO350.out).2.2));(case side2 => exact (Kd.R_reads' HO350.out).2.1);(case side3 => exact zC ((Kd.R_reads' HO353.out).2.2));(case side4 => exact (Kd.R_reads' HO353.out).2.1);rintro e w27 ⟨v356,rfl,ho0,hb⟩;refine ⟨_,rfl,?_⟩;have HO357:=zA (Kd.R_lower (Kd.R_new' (Kd.R_new' (Kd.R_new' (Kd.R_new' (Kd.R_new' (Kd.R_new' (Kd.R_new' ho0 (Kd.R_lt (zR HO329))) (Kd.R_lt (zR HO332))) (Kd.R_lt (zR HO336))) (Kd.R_lt (zR HO343))) (Kd.R_lt (zR HO347))) (Kd.R_lt (zR HO350))) (Kd.R_lt (zR HO353))) (zW HB));replace HO329:=zA (Kd.R_elder' (zR HO329) (Kd.R_base ho0) hb);replace HO332:=zA (Kd.R_elder' (zR HO332) (Kd.R_base ho0) hb);replace HO336:=zA (Kd.R_elder' (zR HO336) (Kd.R_base ho0) hb);replace HO343:=zA (Kd.R_elder' (zR HO343) (Kd.R_base ho0) hb);replace HO347:=zA (Kd.R_elder' (zR HO347) (Kd.R_base ho0) hb);replace HO350:=zA (Kd.R_elder' (zR HO350) (Kd.R_base ho0) hb);replace HO353:=zA (Kd.R_elder' (zR HO353) (Kd.R_base ho0) hb);replace HB:=zS HB hb;(try clear hb);(try clear ho0)))
  (try simp only [Act.put,xA,xB,xC])
  go_cut [74] (fun v74 wc => ∃ (kq : Nat) (x74_12 : Bool),v74 = .bool x74_12 ∧ Aside0 (beaconlaw14_DeltaBack.j0 kq l0 l2 x74_12 = some r) ∧ Aside0 (kq ≤ k) ∧ Aside0 (Below w.heap.size w wc))
  case first =>
   have H:=HC13.out
   clear HC13
   by_cases c28 : t345 = 0
   ·rw [if_pos c28] at H
    have c28b0 : (t345 == 0) = true:=beq_iff_eq.mpr c28
    have c28b1 : (t345 != 0) = false:=bne_eq_false_iff_eq.mpr c28
    clear c28
    (first|rw [c28b0]|(simp only [i64_w,i32_w];rw [c28b0])|skip)
    replace H:=Option.bind_eq_some_iff.mp H
    obtain ⟨t358,A290,H⟩:=H
    (try dsimp only at H)
    have A29:=zA A290
    clear A290
    by_cases c30 : t358 = true
    ·subst c30
     rw [if_pos rfl] at H
     by_cases c31 : t355 = 0
     ·rw [if_pos c31] at H
      have c31b0 : (t355 == 0) = true:=beq_iff_eq.mpr c31
      have c31b1 : (t355 != 0) = false:=bne_eq_false_iff_eq.mpr c31
      clear c31
      have H':=zA H
      clear H
      obtain ⟨Ao32,co32,eo32⟩:=Kd.R_slice HO347.out
      subst eo32
      go_wp2_with (first|(go_at_call 17;(with_reducible refine (beaconref06_SameNews.calls k _ _ t344 _ _ l1 true _ ?side1 ?side2 ?side3 ?side4 A29.out).mono ?_);(case side1 => exact zC ((Kd.R_reads' HO347.out).2.2));(case side2 => exact (Kd.R_reads' HO347.out).2.1);(case side3 => exact zC (Kd.C_below HR1.out HB.1));(case side4 => exact HC1.out);rintro e w33 ⟨rfl,hb⟩;replace HO329:=zRb HO329 hb;replace HO332:=zRb HO332 hb;replace HO336:=zRb HO336 hb;replace HO343:=zRb HO343 hb;replace HO347:=zRb HO347 hb;replace HO350:=zRb HO350 hb;replace HO353:=zRb HO353 hb;replace HO357:=zRb HO357 hb;replace HB:=zS HB hb;(try clear hb);obtain ⟨Ao34,co34,eo34⟩:=Kd.R_slice HO357.out;subst eo34))
      go_meet
      case rel => exact ⟨_,(((t354.length : Int) != 0)),ze,H',⟨zo⟩,⟨zH HB⟩⟩
     ·rw [if_neg c31] at H
      have c31b0 : (t355 == 0) = false:=beq_eq_false_iff_ne.mpr c31
      have c31b1 : (t355 != 0) = true:=bne_iff_ne.mpr c31
      have H':=zA H
      clear H
      obtain ⟨Ao35,co35,eo35⟩:=Kd.R_slice HO347.out
      subst eo35
      go_wp2_with (first|(go_at_call 17;(with_reducible refine (beaconref06_SameNews.calls k _ _ t344 _ _ l1 true _ ?side1 ?side2 ?side3 ?side4 A29.out).mono ?_);(case side1 => exact zC ((Kd.R_reads' HO347.out).2.2));(case side2 => exact (Kd.R_reads' HO347.out).2.1);(case side3 => exact zC (Kd.C_below HR1.out HB.1));(case side4 => exact HC1.out);rintro e w36 ⟨rfl,hb⟩;replace HO329:=zRb HO329 hb;replace HO332:=zRb HO332 hb;replace HO336:=zRb HO336 hb;replace HO343:=zRb HO343 hb;replace HO347:=zRb HO347 hb;replace HO350:=zRb HO350 hb;replace HO353:=zRb HO353 hb;replace HO357:=zRb HO357 hb;replace HB:=zS HB hb;(try clear hb)))
      go_meet
      case rel => exact ⟨_,(true),ze,H',⟨zo⟩,⟨zH HB⟩⟩
    ·replace c30:=Bool.eq_false_iff.mpr c30
     subst c30
     rw [if_neg (show ¬ (false = true) by decide)] at H
     have H':=zA H
     clear H
     obtain ⟨Ao37,co37,eo37⟩:=Kd.R_slice HO347.out
     subst eo37
     go_wp2_with (first|(go_at_call 17;(with_reducible refine (beaconref06_SameNews.calls k _ _ t344 _ _ l1 false _ ?side1 ?side2 ?side3 ?side4 A29.out).mono ?_);(case side1 => exact zC ((Kd.R_reads' HO347.out).2.2));(case side2 => exact (Kd.R_reads' HO347.out).2.1);(case side3 => exact zC (Kd.C_below HR1.out HB.1));(case side4 => exact HC1.out);rintro e w38 ⟨rfl,hb⟩;replace HO329:=zRb HO329 hb;replace HO332:=zRb HO332 hb;replace HO336:=zRb HO336 hb;replace HO343:=zRb HO343 hb;replace HO347:=zRb HO347 hb;replace HO350:=zRb HO350 hb;replace HO353:=zRb HO353 hb;replace HO357:=zRb HO357 hb;replace HB:=zS HB hb;(try clear hb)))
     go_meet
     case rel => exact ⟨_,(true),ze,H',⟨zo⟩,⟨zH HB⟩⟩
   ·rw [if_neg c28] at H
    have c28b0 : (t345 == 0) = false:=beq_eq_false_iff_ne.mpr c28
    have c28b1 : (t345 != 0) = true:=bne_iff_ne.mpr c28
    (first|rw [c28b0]|(simp only [i64_w,i32_w];rw [c28b0])|skip)
    have H':=zA H
    clear H
    go_wp2
    go_meet
    case rel => exact ⟨_,(true),ze,H',⟨zo⟩,⟨zH HB⟩⟩
  case rest =>
   clear HC13
   try clear c1;try clear c2;try clear c7;try clear c7b0;try clear c7b1
   obtain ⟨kq,x74_12,rfl,HA,HJ12,HB⟩:=hcut
   cases kq with
   | zero => exact absurd HA.out (by simp [beaconlaw14_DeltaBack.j0])
   | succ kj12 =>
    have H:=HA.out
    clear HA
    simp only [beaconlaw14_DeltaBack.j0] at H
    by_cases c39 : x74_12 = true
    ·subst c39
     rw [if_pos rfl] at H
     exact absurd ((Option.some.inj H).trans HR_.out) (by decide)
    ·replace c39:=Bool.eq_false_iff.mpr c39
     subst c39
     rw [if_neg (show ¬ (false = true) by decide)] at H
     replace H:=Option.bind_eq_some_iff.mp H
     obtain ⟨t359,A400,H⟩:=H
     (try dsimp only at H)
     have A40:=zA A400
     clear A400
     replace H:=Option.bind_eq_some_iff.mp H
     obtain ⟨t362,A410,H⟩:=H
     (try dsimp only at H)
     have A41:=zA A410
     clear A410
     replace H:=Option.bind_eq_some_iff.mp H
     obtain ⟨⟨t365,t366⟩,A420,H⟩:=H
     (try dsimp only at H)
     have A42:=zA A420
     clear A420
     by_cases c43 : t366 = 0
     ·rw [if_pos c43] at H
      have c43b0 : (t366 == 0) = true:=beq_iff_eq.mpr c43
      have c43b1 : (t366 != 0) = false:=bne_eq_false_iff_eq.mpr c43
      clear c43
      replace H:=Option.bind_eq_some_iff.mp H
      obtain ⟨t370,A440,H⟩:=H
      (try dsimp only at H)
      have A44:=zA A440
      clear A440
      replace H:=Option.bind_eq_some_iff.mp H
      obtain ⟨t373,A450,H⟩:=H
      (try dsimp only at H)
      have A45:=zA A450
      clear A450
      replace H:=Option.bind_eq_some_iff.mp H
      obtain ⟨⟨t376,t377⟩,A460,H⟩:=H
      (try dsimp only at H)
      have A46:=zA A460
      clear A460
      by_cases c47 : t377 = 0
      ·rw [if_pos c47] at H
       have c47b0 : (t377 == 0) = true:=beq_iff_eq.mpr c47
       have c47b1 : (t377 != 0) = false:=bne_eq_false_iff_eq.mpr c47
       clear c47
       replace H:=Option.bind_eq_some_iff.mp H
       obtain ⟨t380,A480,H⟩:=H
       (try dsimp only at H)
       have A48:=zA A480
       clear A480
       by_cases c49 : t380 = true
       ·subst c49
        rw [if_pos rfl] at H
        replace H:=Option.bind_eq_some_iff.mp H
        obtain ⟨t381,A500,H⟩:=H
        (try dsimp only at H)
        have A50:=zA A500
        clear A500
        obtain rfl:=Option.some.inj H
        go_wp2_with (first|((with_reducible refine gate_callee (f:=13) rfl ?_);refine zg (some 77) Try.func13 #[.slice A0 l0.length c0] ?_;(with_reducible refine (beaconlaw14_own.calls _ _ l0 t359 _ ?side1 ?side2 A40.out).mono ?_);(case side1 => exact zC (Kd.C_below HR0.out HB.1));(case side2 => exact HC0.out);rintro e w51 ⟨v360,rfl,ho0,hb⟩;refine ⟨_,rfl,?_⟩;have HO361:=zA (Kd.R_lower ho0 (zW HB));replace HB:=zS HB hb;(try clear hb);(try clear ho0))|((with_reducible refine gate_callee (f:=13) rfl ?_);refine zg (some 79) Try.func13 #[.slice A2 l2.length c2] ?_;(with_reducible refine (beaconlaw14_own.calls _ _ l2 t362 _ ?side1 ?side2 A41.out).mono ?_);(case side1 => exact zC (Kd.C_below HR2.out HB.1));(case side2 => exact HC2.out);rintro e w52 ⟨v363,rfl,ho0,hb⟩;refine ⟨_,rfl,?_⟩;have HO364:=zA (Kd.R_lower (Kd.R_new' ho0 (Kd.R_lt (zR HO361))) (zW HB));replace HO361:=zA (Kd.R_elder' (zR HO361) (Kd.R_base ho0) hb);replace HB:=zS HB hb;(try clear hb);(try clear ho0);obtain ⟨Ao53,co53,eo53⟩:=Kd.R_slice HO361.out;subst eo53;obtain ⟨Ao54,co54,eo54⟩:=Kd.R_slice HO364.out;subst eo54)|((with_reducible refine gate_callee (f:=15) rfl ?_);refine zg (some 80) Try.func15 #[.slice Ao53 t359.length co53,.slice Ao54 t362.length co54] ?_;(with_reducible refine (delta_Merge.calls kj12 _ _ t359 _ _ t362 t365 t366 _ ?side1 ?side2 ?side3 ?side4 A42.out).mono ?_);(case side1 => exact zC ((Kd.R_reads' HO361.out).2.2));(case side2 => exact (Kd.R_reads' HO361.out).2.1);(case side3 => exact zC ((Kd.R_reads' HO364.out).2.2));(case side4 => exact (Kd.R_reads' HO364.out).2.1);rintro e w55 ⟨v367,rfl,ho0,hb⟩;refine ⟨_,rfl,?_⟩;have HO368:=zA (Kd.R_lower (Kd.R_new' (Kd.R_new' ho0 (Kd.R_lt (zR HO361))) (Kd.R_lt (zR HO364))) (zW HB));replace HO361:=zA (Kd.R_elder' (zR HO361) (Kd.R_base ho0) hb);replace HO364:=zA (Kd.R_elder' (zR HO364) (Kd.R_base ho0) hb);replace HB:=zS HB hb;(try clear hb);(try clear ho0);obtain ⟨Ao56,co56,eo56⟩:=Kd.R_slice HO368.out;subst eo56)|((with_reducible refine gate_callee (f:=13) rfl ?_);refine zg (some 93) Try.func13 #[.slice Ao56 t365.length co56] ?_;(with_reducible refine (beaconlaw14_own.calls _ _ t365 t370 _ ?side1 ?side2 A44.out).mono ?_);(case side1 => exact zC ((Kd.R_reads' HO368.out).2.2));(case side2 => exact (Kd.R_reads' HO368.out).2.1);rintro e w57 ⟨v371,rfl,ho0,hb⟩;refine ⟨_,rfl,?_⟩;have HO372:=zA (Kd.R_lower (Kd.R_new' (Kd.R_new' (Kd.R_new' ho0 (Kd.R_lt (zR HO361))) (Kd.R_lt (zR HO364))) (Kd.R_lt (zR HO368))) (zW HB));replace HO361:=zA (Kd.R_elder' (zR HO361) (Kd.R_base ho0) hb);replace HO364:=zA (Kd.R_elder' (zR HO364) (Kd.R_base ho0) hb);replace HO368:=zA (Kd.R_elder' (zR HO368) (Kd.R_base ho0) hb);replace HB:=zS HB hb;(try clear hb);(try clear ho0))|((with_reducible refine gate_callee (f:=13) rfl ?_);refine zg (some 95) Try.func13 #[.slice A2 l2.length c2] ?_;(with_reducible refine (beaconlaw14_own.calls _ _ l2 t373 _ ?side1 ?side2 A45.out).mono ?_);(case side1 => exact zC (Kd.C_below HR2.out HB.1));(case side2 => exact HC2.out);rintro e w58 ⟨v374,rfl,ho0,hb⟩;refine ⟨_,rfl,?_⟩;have HO375:=zA (Kd.R_lower (Kd.R_new' (Kd.R_new' (Kd.R_new' (Kd.R_new' ho0 (Kd.R_lt (zR HO361))) (Kd.R_lt (zR HO364))) (Kd.R_lt (zR HO368))) (Kd.R_lt (zR HO372))) (zW HB));replace HO361:=zA (Kd.R_elder' (zR HO361) (Kd.R_base ho0) hb);replace HO364:=zA (Kd.R_elder' (zR HO364) (Kd.R_base ho0) hb);replace HO368:=zA (Kd.R_elder' (zR HO368) (Kd.R_base ho0) hb);replace HO372:=zA (Kd.R_elder' (zR HO372) (Kd.R_base ho0) hb);replace HB:=zS HB hb;(try clear hb);(try clear ho0);obtain ⟨Ao59,co59,eo59⟩:=Kd.R_slice HO372.out;subst eo59;obtain ⟨Ao60,co60,eo60⟩:=Kd.R_slice HO375.out;subst eo60)|((with_reducible refine gate_callee (f:=15) rfl ?_);refine zg (some 96) Try.func15 #[.slice Ao59 t370.length co59,.slice Ao60 t373.length co60] ?_;(with_reducible refine (delta_Merge.calls kj12 _ _ t370 _ _ t373 t376 t377 _ ?side1 ?side2 ?side3 ?side4 A46.out).mono ?_);(case side1 => exact zC ((Kd.R_reads' HO372.out).2.2));(case side2 => exact (Kd.R_reads' HO372.out).2.1);(case side3 => exact zC ((Kd.R_reads' HO375.out).2.2));(case side4 => exact (Kd.R_reads' HO375.out).2.1);rintro e w61 ⟨v378,rfl,ho0,hb⟩;refine ⟨_,rfl,?_⟩;have HO379:=zA (Kd.R_lower (Kd.R_new' (Kd.R_new' (Kd.R_new' (Kd.R_new' (Kd.R_new' ho0 (Kd.R_lt (zR HO361))) (Kd.R_lt (zR HO364))) (Kd.R_lt (zR HO368))) (Kd.R_lt (zR HO372))) (Kd.R_lt (zR HO375))) (zW HB));replace HO361:=zA (Kd.R_elder' (zR HO361) (Kd.R_base ho0) hb);replace HO364:=zA (Kd.R_elder' (zR HO364) (Kd.R_base ho0) hb);replace HO368:=zA (Kd.R_elder' (zR HO368) (Kd.R_base ho0) hb);replace HO372:=zA (Kd.R_elder' (zR HO372) (Kd.R_base ho0) hb);replace HO375:=zA (Kd.R_elder' (zR HO375) (Kd.R_base ho0) hb);replace HB:=zS HB hb;(try clear hb);(try clear ho0);obtain ⟨Ao62,co62,eo62⟩:=Kd.R_slice HO379.out;subst eo62)|(go_at_call 17;(with_reducible refine (beaconref06_SameNews.calls kj12 _ _ t365 _ _ t376 true _ ?side1 ?side2 ?side3 ?side4 A48.out).mono ?_);(case side1 => exact zC ((Kd.R_reads' HO368.out).2.2));(case side2 => exact (Kd.R_reads' HO368.out).2.1);(case side3 => exact zC ((Kd.R_reads' HO379.out).2.2));(case side4 => exact (Kd.R_reads' HO379.out).2.1);rintro e w63 ⟨rfl,hb⟩;replace HO361:=zRb HO361 hb;replace HO364:=zRb HO364 hb;replace HO368:=zRb HO368 hb;replace HO372:=zRb HO372 hb;replace HO375:=zRb HO375 hb;replace HO379:=zRb HO379 hb;replace HB:=zS HB hb;(try clear hb))|(go_at_call 11;(with_reducible refine (beaconlaw14_awake.calls kj12  t381 _ A50.out).mono ?_);rintro e w64 ⟨rfl,hb⟩;replace HO361:=zRb HO361 hb;replace HO364:=zRb HO364 hb;replace HO368:=zRb HO368 hb;replace HO372:=zRb HO372 hb;replace HO375:=zRb HO375 hb;replace HO379:=zRb HO379 hb;replace HB:=zS HB hb;(try clear hb)))
        go_ret
        exact ⟨zE,zH HB⟩
       ·replace c49:=Bool.eq_false_iff.mpr c49
        subst c49
        rw [if_neg (show ¬ (false = true) by decide)] at H
        exact absurd ((Option.some.inj H).trans HR_.out) (by decide)
      ·rw [if_neg c47] at H
       have c47b0 : (t377 == 0) = false:=beq_eq_false_iff_ne.mpr c47
       have c47b1 : (t377 != 0) = true:=bne_iff_ne.mpr c47
       exact absurd ((Option.some.inj H).trans HR_.out) (by decide)
     ·rw [if_neg c43] at H
      have c43b0 : (t366 == 0) = false:=beq_eq_false_iff_ne.mpr c43
      have c43b1 : (t366 != 0) = true:=bne_iff_ne.mpr c43
      by_cases c65 : (t365.length : Int) = 0
      ·rw [if_pos c65] at H
       have c65b0 : ((t365.length : Int) == 0) = true:=beq_iff_eq.mpr c65
       have c65b1 : ((t365.length : Int) != 0) = false:=bne_eq_false_iff_eq.mpr c65
       clear c65
       replace H:=Option.bind_eq_some_iff.mp H
       obtain ⟨t369,A660,H⟩:=H
       (try dsimp only at H)
       have A66:=zA A660
       clear A660
       obtain rfl:=Option.some.inj H
       go_wp2_with (first|((with_reducible refine gate_callee (f:=13) rfl ?_);refine zg (some 77) Try.func13 #[.slice A0 l0.length c0] ?_;(with_reducible refine (beaconlaw14_own.calls _ _ l0 t359 _ ?side1 ?side2 A40.out).mono ?_);(case side1 => exact zC (Kd.C_below HR0.out HB.1));(case side2 => exact HC0.out);rintro e w67 ⟨v360,rfl,ho0,hb⟩;refine ⟨_,rfl,?_⟩;have HO361:=zA (Kd.R_lower ho0 (zW HB));replace HB:=zS HB hb;(try clear hb);(try clear ho0))|((with_reducible refine gate_callee (f:=13) rfl ?_);refine zg (some 79) Try.func13 #[.slice A2 l2.length c2] ?_;(with_reducible refine (beaconlaw14_own.calls _ _ l2 t362 _ ?side1 ?side2 A41.out).mono ?_);(case side1 => exact zC (Kd.C_below HR2.out HB.1));(case side2 => exact HC2.out);rintro e w68 ⟨v363,rfl,ho0,hb⟩;refine ⟨_,rfl,?_⟩;have HO364:=zA (Kd.R_lower (Kd.R_new' ho0 (Kd.R_lt (zR HO361))) (zW HB));replace HO361:=zA (Kd.R_elder' (zR HO361) (Kd.R_base ho0) hb);replace HB:=zS HB hb;(try clear hb);(try clear ho0);obtain ⟨Ao69,co69,eo69⟩:=Kd.R_slice HO361.out;subst eo69;obtain ⟨Ao70,co70,eo70⟩:=Kd.R_slice HO364.out;subst eo70)|((with_reducible refine gate_callee (f:=15) rfl ?_);refine zg (some 80) Try.func15 #[.slice Ao69 t359.length co69,.slice Ao70 t362.length co70] ?_;(with_reducible refine (delta_Merge.calls kj12 _ _ t359 _ _ t362 t365 t366 _ ?side1 ?side2 ?side3 ?side4 A42.out).mono ?_);(case side1 => exact zC ((Kd.R_reads' HO361.out).2.2));(case side2 => exact (Kd.R_reads' HO361.out).2.1);(case side3 => exact zC ((Kd.R_reads' HO364.out).2.2));(case side4 => exact (Kd.R_reads' HO364.out).2.1);rintro e w71 ⟨v367,rfl,ho0,hb⟩;refine ⟨_,rfl,?_⟩;have HO368:=zA (Kd.R_lower (Kd.R_new' (Kd.R_new' ho0 (Kd.R_lt (zR HO361))) (Kd.R_lt (zR HO364))) (zW HB));replace HO361:=zA (Kd.R_elder' (zR HO361) (Kd.R_base ho0) hb);replace HO364:=zA (Kd.R_elder' (zR HO364) (Kd.R_base ho0) hb);replace HB:=zS HB hb;(try clear hb);(try clear ho0);obtain ⟨Ao72,co72,eo72⟩:=Kd.R_slice HO368.out;subst eo72)|(go_at_call 11;(with_reducible refine (beaconlaw14_awake.calls kj12  t369 _ A66.out).mono ?_);rintro e w73 ⟨rfl,hb⟩;replace HO361:=zRb HO361 hb;replace HO364:=zRb HO364 hb;replace HO368:=zRb HO368 hb;replace HB:=zS HB hb;(try clear hb)))
       go_ret
       exact ⟨zE,zH HB⟩
      ·rw [if_neg c65] at H
       have c65b0 : ((t365.length : Int) == 0) = false:=beq_eq_false_iff_ne.mpr c65
       have c65b1 : ((t365.length : Int) != 0) = true:=bne_iff_ne.mpr c65
       have c65b2 : ¬ (t365 = []):=fun h_ => c65 (by rw [h_];rfl)
       exact absurd ((Option.some.inj H).trans HR_.out) (by decide)
 ·rw [if_neg c7] at H
  have c7b0 : (t334 == 0) = false:=beq_eq_false_iff_ne.mpr c7
  have c7b1 : (t334 != 0) = true:=bne_iff_ne.mpr c7
  replace H:=Option.bind_eq_some_iff.mp H
  obtain ⟨t337,A740,H⟩:=H
  (try dsimp only at H)
  have A74:=zA A740
  clear A740
  by_cases c75 : t337 = true
  ·subst c75
   rw [if_pos rfl] at H
   replace H:=Option.bind_eq_some_iff.mp H
   obtain ⟨t338,A760,H⟩:=H
   (try dsimp only at H)
   have A76:=zA A760
   clear A760
   by_cases c77 : t338 = true
   ·subst c77
    rw [if_pos rfl] at H
    exact absurd ((Option.some.inj H).trans HR_.out) (by decide)
   ·replace c77:=Bool.eq_false_iff.mpr c77
    subst c77
    rw [if_neg (show ¬ (false = true) by decide)] at H
    by_cases c78 : (t333.length : Int) = 0
    ·rw [if_pos c78] at H
     have c78b0 : ((t333.length : Int) == 0) = true:=beq_iff_eq.mpr c78
     have c78b1 : ((t333.length : Int) != 0) = false:=bne_eq_false_iff_eq.mpr c78
     clear c78
     replace H:=Option.bind_eq_some_iff.mp H
     obtain ⟨t339,A790,H⟩:=H
     (try dsimp only at H)
     have A79:=zA A790
     clear A790
     obtain rfl:=Option.some.inj H
     go_enter Try.func5,Try.ntmps5
     go_wp2_with (first|((with_reducible refine gate_callee (f:=13) rfl ?_);refine zg (some 19) Try.func13 #[.slice A0 l0.length c0] ?_;(with_reducible refine (beaconlaw14_own.calls _ _ l0 t327 _ ?side1 ?side2 A4.out).mono ?_);(case side1 => exact zC HR0.out);(case side2 => exact HC0.out);rintro e w80 ⟨v328,rfl,ho0,hb⟩;refine ⟨_,rfl,?_⟩;have HO329:=zA (Kd.R_lower ho0 (zW HB));replace HB:=zS HB hb;(try clear hb);(try clear ho0))|((with_reducible refine gate_callee (f:=13) rfl ?_);refine zg (some 21) Try.func13 #[.slice A1 l1.length c1] ?_;(with_reducible refine (beaconlaw14_own.calls _ _ l1 t330 _ ?side1 ?side2 A5.out).mono ?_);(case side1 => exact zC (Kd.C_below HR1.out HB.1));(case side2 => exact HC1.out);rintro e w81 ⟨v331,rfl,ho0,hb⟩;refine ⟨_,rfl,?_⟩;have HO332:=zA (Kd.R_lower (Kd.R_new' ho0 (Kd.R_lt (zR HO329))) (zW HB));replace HO329:=zA (Kd.R_elder' (zR HO329) (Kd.R_base ho0) hb);replace HB:=zS HB hb;(try clear hb);(try clear ho0);obtain ⟨Ao82,co82,eo82⟩:=Kd.R_slice HO329.out;subst eo82;obtain ⟨Ao83,co83,eo83⟩:=Kd.R_slice HO332.out;subst eo83)|((with_reducible refine gate_callee (f:=12) rfl ?_);refine zg (some 22) Try.func12 #[.slice Ao82 t327.length co82,.slice Ao83 t330.length co83] ?_;(with_reducible refine (delta_Diff.calls k _ _ t327 _ _ t330 t333 t334 _ ?side1 ?side2 ?side3 ?side4 A6.out).mono ?_);(case side1 => exact zC ((Kd.R_reads' HO329.out).2.2));(case side2 => exact (Kd.R_reads' HO329.out).2.1);(case side3 => exact zC ((Kd.R_reads' HO332.out).2.2));(case side4 => exact (Kd.R_reads' HO332.out).2.1);rintro e w84 ⟨v335,rfl,ho0,hb⟩;refine ⟨_,rfl,?_⟩;have HO336:=zA (Kd.R_lower (Kd.R_new' (Kd.R_new' ho0 (Kd.R_lt (zR HO329))) (Kd.R_lt (zR HO332))) (zW HB));replace HO329:=zA (Kd.R_elder' (zR HO329) (Kd.R_base ho0) hb);replace HO332:=zA (Kd.R_elder' (zR HO332) (Kd.R_base ho0) hb);replace HB:=zS HB hb;(try clear hb);(try clear ho0))|((with_reducible refine gate_callee (f:=18) rfl ?_);refine zg (some 28) Try.func18 #[.slice A0 l0.length c0] ?_;(with_reducible refine (beaconref14_List.calls k _ _ l0 true _ ?side1 ?side2 A74.out).mono ?_);(case side1 => exact zC (Kd.C_below HR0.out HB.1));(case side2 => exact HC0.out);rintro e w85 ⟨rfl,hb⟩;refine ⟨_,rfl,?_⟩;replace HO329:=zRb HO329 hb;replace HO332:=zRb HO332 hb;replace HO336:=zRb HO336 hb;replace HB:=zS HB hb;(try clear hb))|(go_at_call 18;(with_reducible refine (beaconref14_List.calls k _ _ l1 false _ ?side1 ?side2 A76.out).mono ?_);(case side1 => exact zC (Kd.C_below HR1.out HB.1));(case side2 => exact HC1.out);rintro e w86 ⟨rfl,hb⟩;replace HO329:=zRb HO329 hb;replace HO332:=zRb HO332 hb;replace HO336:=zRb HO336 hb;replace HB:=zS HB hb;(try clear hb);obtain ⟨Ao87,co87,eo87⟩:=Kd.R_slice HO336.out;subst eo87)|(go_at_call 11;(with_reducible refine (beaconlaw14_awake.calls k  t339 _ A79.out).mono ?_);rintro e w88 ⟨rfl,hb⟩;replace HO329:=zRb HO329 hb;replace HO332:=zRb HO332 hb;replace HO336:=zRb HO336 hb;replace HB:=zS HB hb;(try clear hb)))
     go_ret
     exact ⟨zE,zH HB⟩
    ·rw [if_neg c78] at H
     have c78b0 : ((t333.length : Int) == 0) = false:=beq_eq_false_iff_ne.mpr c78
     have c78b1 : ((t333.length : Int) != 0) = true:=bne_iff_ne.mpr c78
     have c78b2 : ¬ (t333 = []):=fun h_ => c78 (by rw [h_];rfl)
     exact absurd ((Option.some.inj H).trans HR_.out) (by decide)
  ·replace c75:=Bool.eq_false_iff.mpr c75
   subst c75
   rw [if_neg (show ¬ (false = true) by decide)] at H
   by_cases c89 : (t333.length : Int) = 0
   ·rw [if_pos c89] at H
    have c89b0 : ((t333.length : Int) == 0) = true:=beq_iff_eq.mpr c89
    have c89b1 : ((t333.length : Int) != 0) = false:=bne_eq_false_iff_eq.mpr c89
    clear c89
    replace H:=Option.bind_eq_some_iff.mp H
    obtain ⟨t340,A900,H⟩:=H
    (try dsimp only at H)
    have A90:=zA A900
    clear A900
    obtain rfl:=Option.some.inj H
    go_enter Try.func5,Try.ntmps5
    go_wp2_with (first|((with_reducible refine gate_callee (f:=13) rfl ?_);refine zg (some 19) Try.func13 #[.slice A0 l0.length c0] ?_;(with_reducible refine (beaconlaw14_own.calls _ _ l0 t327 _ ?side1 ?side2 A4.out).mono ?_);(case side1 => exact zC HR0.out);(case side2 => exact HC0.out);rintro e w91 ⟨v328,rfl,ho0,hb⟩;refine ⟨_,rfl,?_⟩;have HO329:=zA (Kd.R_lower ho0 (zW HB));replace HB:=zS HB hb;(try clear hb);(try clear ho0))|((with_reducible refine gate_callee (f:=13) rfl ?_);refine zg (some 21) Try.func13 #[.slice A1 l1.length c1] ?_;(with_reducible refine (beaconlaw14_own.calls _ _ l1 t330 _ ?side1 ?side2 A5.out).mono ?_);(case side1 => exact zC (Kd.C_below HR1.out HB.1));(case side2 => exact HC1.out);rintro e w92 ⟨v331,rfl,ho0,hb⟩;refine ⟨_,rfl,?_⟩;have HO332:=zA (Kd.R_lower (Kd.R_new' ho0 (Kd.R_lt (zR HO329))) (zW HB));replace HO329:=zA (Kd.R_elder' (zR HO329) (Kd.R_base ho0) hb);replace HB:=zS HB hb;(try clear hb);(try clear ho0);obtain ⟨Ao93,co93,eo93⟩:=Kd.R_slice HO329.out;subst eo93;obtain ⟨Ao94,co94,eo94⟩:=Kd.R_slice HO332.out;subst eo94)|((with_reducible refine gate_callee (f:=12) rfl ?_);refine zg (some 22) Try.func12 #[.slice Ao93 t327.length co93,.slice Ao94 t330.length co94] ?_;(with_reducible refine (delta_Diff.calls k _ _ t327 _ _ t330 t333 t334 _ ?side1 ?side2 ?side3 ?side4 A6.out).mono ?_);(case side1 => exact zC ((Kd.R_reads' HO329.out).2.2));(case side2 => exact (Kd.R_reads' HO329.out).2.1);(case side3 => exact zC ((Kd.R_reads' HO332.out).2.2));(case side4 => exact (Kd.R_reads' HO332.out).2.1);rintro e w95 ⟨v335,rfl,ho0,hb⟩;refine ⟨_,rfl,?_⟩;have HO336:=zA (Kd.R_lower (Kd.R_new' (Kd.R_new' ho0 (Kd.R_lt (zR HO329))) (Kd.R_lt (zR HO332))) (zW HB));replace HO329:=zA (Kd.R_elder' (zR HO329) (Kd.R_base ho0) hb);replace HO332:=zA (Kd.R_elder' (zR HO332) (Kd.R_base ho0) hb);replace HB:=zS HB hb;(try clear hb);(try clear ho0))|((with_reducible refine gate_callee (f:=18) rfl ?_);refine zg (some 28) Try.func18 #[.slice A0 l0.length c0] ?_;(with_reducible refine (beaconref14_List.calls k _ _ l0 false _ ?side1 ?side2 A74.out).mono ?_);(case side1 => exact zC (Kd.C_below HR0.out HB.1));(case side2 => exact HC0.out);rintro e w96 ⟨rfl,hb⟩;refine ⟨_,rfl,?_⟩;replace HO329:=zRb HO329 hb;replace HO332:=zRb HO332 hb;replace HO336:=zRb HO336 hb;replace HB:=zS HB hb;(try clear hb);obtain ⟨Ao97,co97,eo97⟩:=Kd.R_slice HO336.out;subst eo97)|(go_at_call 11;(with_reducible refine (beaconlaw14_awake.calls k  t340 _ A90.out).mono ?_);rintro e w98 ⟨rfl,hb⟩;replace HO329:=zRb HO329 hb;replace HO332:=zRb HO332 hb;replace HO336:=zRb HO336 hb;replace HB:=zS HB hb;(try clear hb)))
    go_ret
    exact ⟨zE,zH HB⟩
   ·rw [if_neg c89] at H
    have c89b0 : ((t333.length : Int) == 0) = false:=beq_eq_false_iff_ne.mpr c89
    have c89b1 : ((t333.length : Int) != 0) = true:=bne_iff_ne.mpr c89
    have c89b2 : ¬ (t333 = []):=fun h_ => c89 (by rw [h_];rfl)
    exact absurd ((Option.some.inj H).trans HR_.out) (by decide)

/-! ### delta_Check: function 22 -/
def delta_Check.f (k : Nat) (a0_0 : Int) (l0_1 : List (S61)) (l0_2 : List (S61)) (a0_3 : Bool) (a0_4 : Int) : Option (Int) := (delta_list.f k l0_1).bind fun t383 => (if a0_3 = true then (if t383 = true then (if a0_0 > 0 then (if (l0_2.length : Int) > 0 then (if (l0_2.length : Int) ≤ 512 then ((delta_told.f k l0_2).bind fun t384 => (if t384 = true then (if a0_4 ≥ 0 then (some 0) else (some 1)) else (some 1))) else (some 1)) else (some 1)) else (some 1)) else (some 1)) else (if t383 = true then (if (l0_2.length : Int) = 0 then (if a0_4 = 0 then (some 0) else (some 1)) else (some 1)) else (some 1)))
theorem delta_Check.mono : ∀ a0 a1 a2 a3 a4 k, LeO (delta_Check.f k a0 a1 a2 a3 a4) (delta_Check.f (k + 1) a0 a1 a2 a3 a4) := by
 intro a0 a1 a2 a3 a4 k
 unfold delta_Check.f
 repeat' first
   | (with_reducible exact delta_list.mono _ _)
   | (with_reducible exact delta_told.mono _ _)
   | (with_reducible exact LeO.refl _)
   | (with_reducible exact LeO.none _)
   | (with_reducible refine LeO.ite ?_ ?_)
   | (with_reducible refine LeO.bind ?_ (fun _ => ?_))
   | exact delta_list.mono _ _
   | exact delta_told.mono _ _
   | exact LeO.none _
   | refine LeO.ite ?_ ?_
   | refine LeO.bind ?_ (fun _ => ?_)
set_option maxHeartbeats 8000000 in
set_option maxRecDepth 100000 in
theorem delta_Check.calls (k : Nat) (a0_0 : Int) (A0_1 : Option Addr) (c0_1 : Nat) (l0_1 : List (S61)) (A0_2 : Option Addr) (c0_2 : Nat) (l0_2 : List (S61)) (a0_3 : Bool) (a0_4 : Int) (r : Int) (w : World) (hr0_1 : Kd.C k61 w A0_1 l0_1.length l0_1) (hc0_1 : l0_1.length ≤ c0_1) (hr0_2 : Kd.C k61 w A0_2 l0_2.length l0_2) (hc0_2 : l0_2.length ≤ c0_2) (h : delta_Check.f k a0_0 l0_1 l0_2 a0_3 a0_4 = some r) :
  Calls Try.prog 22 #[.agg #[.int .u64 a0_0,.slice A0_1 l0_1.length c0_1,.slice A0_2 l0_2.length c0_2,.bool a0_3,.int .i64 a0_4]] w fun e w' => e = .returned (.int .i64 r) ∧ Below w.heap.size w w':=by
 have hu39:=Try.underlying39
 have HR0_1:=zA hr0_1
 have HC0_1:=zA hc0_1
 clear hr0_1 hc0_1
 have HR0_2:=zA hr0_2
 have HC0_2:=zA hc0_2
 clear hr0_2 hc0_2
 have HB:=zA (Below.refl w.heap.size w)
 have H : ((delta_list.f k l0_1).bind fun t383 => (if a0_3 = true then (if t383 = true then (if a0_0 > 0 then (if (l0_2.length : Int) > 0 then (if (l0_2.length : Int) ≤ 512 then ((delta_told.f k l0_2).bind fun t384 => (if t384 = true then (if a0_4 ≥ 0 then (some 0) else (some 1)) else (some 1))) else (some 1)) else (some 1)) else (some 1)) else (some 1)) else (if t383 = true then (if (l0_2.length : Int) = 0 then (if a0_4 = 0 then (some 0) else (some 1)) else (some 1)) else (some 1)))) = some r:=h
 clear h
 replace H:=Option.bind_eq_some_iff.mp H
 obtain ⟨t383,A20,H⟩:=H
 (try dsimp only at H)
 have A2:=zA A20
 clear A20
 by_cases c3 : a0_3 = true
 ·subst c3
  rw [if_pos rfl] at H
  by_cases c4 : t383 = true
  ·subst c4
   rw [if_pos rfl] at H
   by_cases c5 : a0_0 > 0
   ·rw [if_pos c5] at H
    have c5b0 : decide (0 < a0_0) = true:=decide_eq_true c5
    clear c5
    by_cases c6 : (l0_2.length : Int) > 0
    ·rw [if_pos c6] at H
     have c6b0 : decide (0 < (l0_2.length : Int)) = true:=decide_eq_true c6
     have c6b1 : decide (0 < l0_2.length) = true:=decide_eq_true (by omega)
     clear c6
     by_cases c7 : (l0_2.length : Int) ≤ 512
     ·rw [if_pos c7] at H
      have c7b0 : decide ((l0_2.length : Int) ≤ 512) = true:=decide_eq_true c7
      have c7b1 : decide (l0_2.length ≤ 512) = true:=decide_eq_true (by omega)
      clear c7
      replace H:=Option.bind_eq_some_iff.mp H
      obtain ⟨t384,A80,H⟩:=H
      (try dsimp only at H)
      have A8:=zA A80
      clear A80
      by_cases c9 : t384 = true
      ·subst c9
       rw [if_pos rfl] at H
       by_cases c10 : a0_4 ≥ 0
       ·rw [if_pos c10] at H
        have c10b0 : decide (0 ≤ a0_4) = true:=decide_eq_true c10
        clear c10
        obtain rfl:=Option.some.inj H
        go_enter Try.func22,Try.ntmps22
        go_wp2_with (first|((with_reducible refine gate_dst (N:=1) rfl ?_);(try (refine gate_guard (by rfl) ?_;dsimp only));refine zb (N:=1) (cs:=#[.int .u64 a0_0,.slice A0_1 l0_1.length c0_1,.slice A0_2 l0_2.length c0_2,.bool true,.int .i64 a0_4]) (t:=39) ?_;intro G382 hg w11 hbox hb;have K382:=zA (hbox);have GW382:=zN HB hg;have GE382:=zN HB hg;replace HB:=zS HB hb;clear hb hbox hg;obtain ⟨hcz12_0,hcz12_1,hcz12_2,hcz12_3,hcz12_4,hfz12_0,hfz12_1,hfz12_2,hfz12_3,hfz12_4⟩:=zc5 K382)|((with_reducible refine gate_callee (f:=30) rfl ?_);refine zg (some 6) Try.func30 #[.slice A0_1 l0_1.length c0_1] ?_;(with_reducible refine (delta_list.calls k _ _ l0_1 true _ ?side1 ?side2 A2.out).mono ?_);(case side1 => exact zC (Kd.C_below HR0_1.out HB.1));(case side2 => exact HC0_1.out);rintro e w13 ⟨rfl,hb⟩;refine ⟨_,rfl,?_⟩;replace K382:=zB K382 hb;replace HB:=zS HB hb;(try clear hb);obtain ⟨hcz14_0,hcz14_1,hcz14_2,hcz14_3,hcz14_4,hfz14_0,hfz14_1,hfz14_2,hfz14_3,hfz14_4⟩:=zc5 K382)|(go_at_call 33;(with_reducible refine (delta_told.calls k _ _ l0_2 true _ ?side1 ?side2 A8.out).mono ?_);(case side1 => exact zC (Kd.C_below HR0_2.out HB.1));(case side2 => exact HC0_2.out);rintro e w15 ⟨rfl,hb⟩;replace K382:=zB K382 hb;replace HB:=zS HB hb;(try clear hb);obtain ⟨hcz16_0,hcz16_1,hcz16_2,hcz16_3,hcz16_4,hfz16_0,hfz16_1,hfz16_2,hfz16_3,hfz16_4⟩:=zc5 K382))
        go_ret
        exact ⟨zE,zH HB⟩
       ·rw [if_neg c10] at H
        have c10b0 : decide (0 ≤ a0_4) = false:=decide_eq_false c10
        clear c10
        obtain rfl:=Option.some.inj H
        go_enter Try.func22,Try.ntmps22
        go_wp2_with (first|((with_reducible refine gate_dst (N:=1) rfl ?_);(try (refine gate_guard (by rfl) ?_;dsimp only));refine zb (N:=1) (cs:=#[.int .u64 a0_0,.slice A0_1 l0_1.length c0_1,.slice A0_2 l0_2.length c0_2,.bool true,.int .i64 a0_4]) (t:=39) ?_;intro G382 hg w17 hbox hb;have K382:=zA (hbox);have GW382:=zN HB hg;have GE382:=zN HB hg;replace HB:=zS HB hb;clear hb hbox hg;obtain ⟨hcz18_0,hcz18_1,hcz18_2,hcz18_3,hcz18_4,hfz18_0,hfz18_1,hfz18_2,hfz18_3,hfz18_4⟩:=zc5 K382)|((with_reducible refine gate_callee (f:=30) rfl ?_);refine zg (some 6) Try.func30 #[.slice A0_1 l0_1.length c0_1] ?_;(with_reducible refine (delta_list.calls k _ _ l0_1 true _ ?side1 ?side2 A2.out).mono ?_);(case side1 => exact zC (Kd.C_below HR0_1.out HB.1));(case side2 => exact HC0_1.out);rintro e w19 ⟨rfl,hb⟩;refine ⟨_,rfl,?_⟩;replace K382:=zB K382 hb;replace HB:=zS HB hb;(try clear hb);obtain ⟨hcz20_0,hcz20_1,hcz20_2,hcz20_3,hcz20_4,hfz20_0,hfz20_1,hfz20_2,hfz20_3,hfz20_4⟩:=zc5 K382)|(go_at_call 33;(with_reducible refine (delta_told.calls k _ _ l0_2 true _ ?side1 ?side2 A8.out).mono ?_);(case side1 => exact zC (Kd.C_below HR0_2.out HB.1));(case side2 => exact HC0_2.out);rintro e w21 ⟨rfl,hb⟩;replace K382:=zB K382 hb;replace HB:=zS HB hb;(try clear hb);obtain ⟨hcz22_0,hcz22_1,hcz22_2,hcz22_3,hcz22_4,hfz22_0,hfz22_1,hfz22_2,hfz22_3,hfz22_4⟩:=zc5 K382))
        go_ret
        exact ⟨zE,zH HB⟩
      ·replace c9:=Bool.eq_false_iff.mpr c9
       subst c9
       rw [if_neg (show ¬ (false = true) by decide)] at H
       obtain rfl:=Option.some.inj H
       go_enter Try.func22,Try.ntmps22
       go_wp2_with (first|((with_reducible refine gate_dst (N:=1) rfl ?_);(try (refine gate_guard (by rfl) ?_;dsimp only));refine zb (N:=1) (cs:=#[.int .u64 a0_0,.slice A0_1 l0_1.length c0_1,.slice A0_2 l0_2.length c0_2,.bool true,.int .i64 a0_4]) (t:=39) ?_;intro G382 hg w23 hbox hb;have K382:=zA (hbox);have GW382:=zN HB hg;have GE382:=zN HB hg;replace HB:=zS HB hb;clear hb hbox hg;obtain ⟨hcz24_0,hcz24_1,hcz24_2,hcz24_3,hcz24_4,hfz24_0,hfz24_1,hfz24_2,hfz24_3,hfz24_4⟩:=zc5 K382)|((with_reducible refine gate_callee (f:=30) rfl ?_);refine zg (some 6) Try.func30 #[.slice A0_1 l0_1.length c0_1] ?_;(with_reducible refine (delta_list.calls k _ _ l0_1 true _ ?side1 ?side2 A2.out).mono ?_);(case side1 => exact zC (Kd.C_below HR0_1.out HB.1));(case side2 => exact HC0_1.out);rintro e w25 ⟨rfl,hb⟩;refine ⟨_,rfl,?_⟩;replace K382:=zB K382 hb;replace HB:=zS HB hb;(try clear hb);obtain ⟨hcz26_0,hcz26_1,hcz26_2,hcz26_3,hcz26_4,hfz26_0,hfz26_1,hfz26_2,hfz26_3,hfz26_4⟩:=zc5 K382)|(go_at_call 33;(with_reducible refine (delta_told.calls k _ _ l0_2 false _ ?side1 ?side2 A8.out).mono ?_);(case side1 => exact zC (Kd.C_below HR0_2.out HB.1));(case side2 => exact HC0_2.out);rintro e w27 ⟨rfl,hb⟩;replace K382:=zB K382 hb;replace HB:=zS HB hb;(try clear hb)))
       go_ret
       exact ⟨zE,zH HB⟩
     ·rw [if_neg c7] at H
      have c7b0 : decide ((l0_2.length : Int) ≤ 512) = false:=decide_eq_false c7
      have c7b1 : decide (l0_2.length ≤ 512) = false:=decide_eq_false (by omega)
      clear c7
      obtain rfl:=Option.some.inj H
      go_enter Try.func22,Try.ntmps22
      go_wp2_with (first|((with_reducible refine gate_dst (N:=1) rfl ?_);(try (refine gate_guard (by rfl) ?_;dsimp only));refine zb (N:=1) (cs:=#[.int .u64 a0_0,.slice A0_1 l0_1.length c0_1,.slice A0_2 l0_2.length c0_2,.bool true,.int .i64 a0_4]) (t:=39) ?_;intro G382 hg w28 hbox hb;have K382:=zA (hbox);have GW382:=zN HB hg;have GE382:=zN HB hg;replace HB:=zS HB hb;clear hb hbox hg;obtain ⟨hcz29_0,hcz29_1,hcz29_2,hcz29_3,hcz29_4,hfz29_0,hfz29_1,hfz29_2,hfz29_3,hfz29_4⟩:=zc5 K382)|((with_reducible refine gate_callee (f:=30) rfl ?_);refine zg (some 6) Try.func30 #[.slice A0_1 l0_1.length c0_1] ?_;(with_reducible refine (delta_list.calls k _ _ l0_1 true _ ?side1 ?side2 A2.out).mono ?_);(case side1 => exact zC (Kd.C_below HR0_1.out HB.1));(case side2 => exact HC0_1.out);rintro e w30 ⟨rfl,hb⟩;refine ⟨_,rfl,?_⟩;replace K382:=zB K382 hb;replace HB:=zS HB hb;(try clear hb);obtain ⟨hcz31_0,hcz31_1,hcz31_2,hcz31_3,hcz31_4,hfz31_0,hfz31_1,hfz31_2,hfz31_3,hfz31_4⟩:=zc5 K382))
      go_ret
      exact ⟨zE,zH HB⟩
    ·rw [if_neg c6] at H
     have c6b0 : decide (0 < (l0_2.length : Int)) = false:=decide_eq_false c6
     have c6b1 : decide (0 < l0_2.length) = false:=decide_eq_false (by omega)
     clear c6
     obtain rfl:=Option.some.inj H
     go_enter Try.func22,Try.ntmps22
     go_wp2_with (first|((with_reducible refine gate_dst (N:=1) rfl ?_);(try (refine gate_guard (by rfl) ?_;dsimp only));refine zb (N:=1) (cs:=#[.int .u64 a0_0,.slice A0_1 l0_1.length c0_1,.slice A0_2 l0_2.length c0_2,.bool true,.int .i64 a0_4]) (t:=39) ?_;intro G382 hg w32 hbox hb;have K382:=zA (hbox);have GW382:=zN HB hg;have GE382:=zN HB hg;replace HB:=zS HB hb;clear hb hbox hg;obtain ⟨hcz33_0,hcz33_1,hcz33_2,hcz33_3,hcz33_4,hfz33_0,hfz33_1,hfz33_2,hfz33_3,hfz33_4⟩:=zc5 K382)|((with_reducible refine gate_callee (f:=30) rfl ?_);refine zg (some 6) Try.func30 #[.slice A0_1 l0_1.length c0_1] ?_;(with_reducible refine (delta_list.calls k _ _ l0_1 true _ ?side1 ?side2 A2.out).mono ?_);(case side1 => exact zC (Kd.C_below HR0_1.out HB.1));(case side2 => exact HC0_1.out);rintro e w34 ⟨rfl,hb⟩;refine ⟨_,rfl,?_⟩;replace K382:=zB K382 hb;replace HB:=zS HB hb;(try clear hb);obtain ⟨hcz35_0,hcz35_1,hcz35_2,hcz35_3,hcz35_4,hfz35_0,hfz35_1,hfz35_2,hfz35_3,hfz35_4⟩:=zc5 K382))
     go_ret
     exact ⟨zE,zH HB⟩
   ·rw [if_neg c5] at H
    have c5b0 : decide (0 < a0_0) = false:=decide_eq_false c5
    clear c5
    obtain rfl:=Option.some.inj H
    go_enter Try.func22,Try.ntmps22
    go_wp2_with (first|((with_reducible refine gate_dst (N:=1) rfl ?_);(try (refine gate_guard (by rfl) ?_;dsimp only));refine zb (N:=1) (cs:=#[.int .u64 a0_0,.slice A0_1 l0_1.length c0_1,.slice A0_2 l0_2.length c0_2,.bool true,.int .i64 a0_4]) (t:=39) ?_;intro G382 hg w36 hbox hb;have K382:=zA (hbox);have GW382:=zN HB hg;have GE382:=zN HB hg;replace HB:=zS HB hb;clear hb hbox hg;obtain ⟨hcz37_0,hcz37_1,hcz37_2,hcz37_3,hcz37_4,hfz37_0,hfz37_1,hfz37_2,hfz37_3,hfz37_4⟩:=zc5 K382)|((with_reducible refine gate_callee (f:=30) rfl ?_);refine zg (some 6) Try.func30 #[.slice A0_1 l0_1.length c0_1] ?_;(with_reducible refine (delta_list.calls k _ _ l0_1 true _ ?side1 ?side2 A2.out).mono ?_);(case side1 => exact zC (Kd.C_below HR0_1.out HB.1));(case side2 => exact HC0_1.out);rintro e w38 ⟨rfl,hb⟩;refine ⟨_,rfl,?_⟩;replace K382:=zB K382 hb;replace HB:=zS HB hb;(try clear hb);obtain ⟨hcz39_0,hcz39_1,hcz39_2,hcz39_3,hcz39_4,hfz39_0,hfz39_1,hfz39_2,hfz39_3,hfz39_4⟩:=zc5 K382))
    go_ret
    exact ⟨zE,zH HB⟩
  ·replace c4:=Bool.eq_false_iff.mpr c4
   subst c4
   rw [if_neg (show ¬ (false = true) by decide)] at H
   obtain rfl:=Option.some.inj H
   go_enter Try.func22,Try.ntmps22
   go_wp2_with (first|((with_reducible refine gate_dst (N:=1) rfl ?_);(try (refine gate_guard (by rfl) ?_;dsimp only));refine zb (N:=1) (cs:=#[.int .u64 a0_0,.slice A0_1 l0_1.length c0_1,.slice A0_2 l0_2.length c0_2,.bool true,.int .i64 a0_4]) (t:=39) ?_;intro G382 hg w40 hbox hb;have K382:=zA (hbox);have GW382:=zN HB hg;have GE382:=zN HB hg;replace HB:=zS HB hb;clear hb hbox hg;obtain ⟨hcz41_0,hcz41_1,hcz41_2,hcz41_3,hcz41_4,hfz41_0,hfz41_1,hfz41_2,hfz41_3,hfz41_4⟩:=zc5 K382)|((with_reducible refine gate_callee (f:=30) rfl ?_);refine zg (some 6) Try.func30 #[.slice A0_1 l0_1.length c0_1] ?_;(with_reducible refine (delta_list.calls k _ _ l0_1 false _ ?side1 ?side2 A2.out).mono ?_);(case side1 => exact zC (Kd.C_below HR0_1.out HB.1));(case side2 => exact HC0_1.out);rintro e w42 ⟨rfl,hb⟩;refine ⟨_,rfl,?_⟩;replace K382:=zB K382 hb;replace HB:=zS HB hb;(try clear hb);obtain ⟨hcz43_0,hcz43_1,hcz43_2,hcz43_3,hcz43_4,hfz43_0,hfz43_1,hfz43_2,hfz43_3,hfz43_4⟩:=zc5 K382))
   go_ret
   exact ⟨zE,zH HB⟩
 ·replace c3:=Bool.eq_false_iff.mpr c3
  subst c3
  rw [if_neg (show ¬ (false = true) by decide)] at H
  by_cases c44 : t383 = true
  ·subst c44
   rw [if_pos rfl] at H
   by_cases c45 : (l0_2.length : Int) = 0
   ·rw [if_pos c45] at H
    have c45b0 : ((l0_2.length : Int) == 0) = true:=beq_iff_eq.mpr c45
    have c45b1 : ((l0_2.length : Int) != 0) = false:=bne_eq_false_iff_eq.mpr c45
    clear c45
    by_cases c46 : a0_4 = 0
    ·rw [if_pos c46] at H
     have c46b0 : (a0_4 == 0) = true:=beq_iff_eq.mpr c46
     have c46b1 : (a0_4 != 0) = false:=bne_eq_false_iff_eq.mpr c46
     clear c46
     obtain rfl:=Option.some.inj H
     go_enter Try.func22,Try.ntmps22
     go_wp2_with (first|((with_reducible refine gate_dst (N:=1) rfl ?_);(try (refine gate_guard (by rfl) ?_;dsimp only));refine zb (N:=1) (cs:=#[.int .u64 a0_0,.slice A0_1 l0_1.length c0_1,.slice A0_2 l0_2.length c0_2,.bool false,.int .i64 a0_4]) (t:=39) ?_;intro G382 hg w47 hbox hb;have K382:=zA (hbox);have GW382:=zN HB hg;have GE382:=zN HB hg;replace HB:=zS HB hb;clear hb hbox hg;obtain ⟨hcz48_0,hcz48_1,hcz48_2,hcz48_3,hcz48_4,hfz48_0,hfz48_1,hfz48_2,hfz48_3,hfz48_4⟩:=zc5 K382)|((with_reducible refine gate_callee (f:=30) rfl ?_);refine zg (some 6) Try.func30 #[.slice A0_1 l0_1.length c0_1] ?_;(with_reducible refine (delta_list.calls k _ _ l0_1 true _ ?side1 ?side2 A2.out).mono ?_);(case side1 => exact zC (Kd.C_below HR0_1.out HB.1));(case side2 => exact HC0_1.out);rintro e w49 ⟨rfl,hb⟩;refine ⟨_,rfl,?_⟩;replace K382:=zB K382 hb;replace HB:=zS HB hb;(try clear hb);obtain ⟨hcz50_0,hcz50_1,hcz50_2,hcz50_3,hcz50_4,hfz50_0,hfz50_1,hfz50_2,hfz50_3,hfz50_4⟩:=zc5 K382))
     go_ret
     exact ⟨zE,zH HB⟩
    ·rw [if_neg c46] at H
     have c46b0 : (a0_4 == 0) = false:=beq_eq_false_iff_ne.mpr c46
     have c46b1 : (a0_4 != 0) = true:=bne_iff_ne.mpr c46
     obtain rfl:=Option.some.inj H
     go_enter Try.func22,Try.ntmps22
     go_wp2_with (first|((with_reducible refine gate_dst (N:=1) rfl ?_);(try (refine gate_guard (by rfl) ?_;dsimp only));refine zb (N:=1) (cs:=#[.int .u64 a0_0,.slice A0_1 l0_1.length c0_1,.slice A0_2 l0_2.length c0_2,.bool false,.int .i64 a0_4]) (t:=39) ?_;intro G382 hg w51 hbox hb;have K382:=zA (hbox);have GW382:=zN HB hg;have GE382:=zN HB hg;replace HB:=zS HB hb;clear hb hbox hg;obtain ⟨hcz52_0,hcz52_1,hcz52_2,hcz52_3,hcz52_4,hfz52_0,hfz52_1,hfz52_2,hfz52_3,hfz52_4⟩:=zc5 K382)|((with_reducible refine gate_callee (f:=30) rfl ?_);refine zg (some 6) Try.func30 #[.slice A0_1 l0_1.length c0_1] ?_;(with_reducible refine (delta_list.calls k _ _ l0_1 true _ ?side1 ?side2 A2.out).mono ?_);(case side1 => exact zC (Kd.C_below HR0_1.out HB.1));(case side2 => exact HC0_1.out);rintro e w53 ⟨rfl,hb⟩;refine ⟨_,rfl,?_⟩;replace K382:=zB K382 hb;replace HB:=zS HB hb;(try clear hb);obtain ⟨hcz54_0,hcz54_1,hcz54_2,hcz54_3,hcz54_4,hfz54_0,hfz54_1,hfz54_2,hfz54_3,hfz54_4⟩:=zc5 K382))
     go_ret
     exact ⟨zE,zH HB⟩
   ·rw [if_neg c45] at H
    have c45b0 : ((l0_2.length : Int) == 0) = false:=beq_eq_false_iff_ne.mpr c45
    have c45b1 : ((l0_2.length : Int) != 0) = true:=bne_iff_ne.mpr c45
    have c45b2 : ¬ (l0_2 = []):=fun h_ => c45 (by rw [h_];rfl)
    obtain rfl:=Option.some.inj H
    go_enter Try.func22,Try.ntmps22
    go_wp2_with (first|((with_reducible refine gate_dst (N:=1) rfl ?_);(try (refine gate_guard (by rfl) ?_;dsimp only));refine zb (N:=1) (cs:=#[.int .u64 a0_0,.slice A0_1 l0_1.length c0_1,.slice A0_2 l0_2.length c0_2,.bool false,.int .i64 a0_4]) (t:=39) ?_;intro G382 hg w55 hbox hb;have K382:=zA (hbox);have GW382:=zN HB hg;have GE382:=zN HB hg;replace HB:=zS HB hb;clear hb hbox hg;obtain ⟨hcz56_0,hcz56_1,hcz56_2,hcz56_3,hcz56_4,hfz56_0,hfz56_1,hfz56_2,hfz56_3,hfz56_4⟩:=zc5 K382)|((with_reducible refine gate_callee (f:=30) rfl ?_);refine zg (some 6) Try.func30 #[.slice A0_1 l0_1.length c0_1] ?_;(with_reducible refine (delta_list.calls k _ _ l0_1 true _ ?side1 ?side2 A2.out).mono ?_);(case side1 => exact zC (Kd.C_below HR0_1.out HB.1));(case side2 => exact HC0_1.out);rintro e w57 ⟨rfl,hb⟩;refine ⟨_,rfl,?_⟩;replace K382:=zB K382 hb;replace HB:=zS HB hb;(try clear hb);obtain ⟨hcz58_0,hcz58_1,hcz58_2,hcz58_3,hcz58_4,hfz58_0,hfz58_1,hfz58_2,hfz58_3,hfz58_4⟩:=zc5 K382))
    go_ret
    exact ⟨zE,zH HB⟩
  ·replace c44:=Bool.eq_false_iff.mpr c44
   subst c44
   rw [if_neg (show ¬ (false = true) by decide)] at H
   obtain rfl:=Option.some.inj H
   go_enter Try.func22,Try.ntmps22
   go_wp2_with (first|((with_reducible refine gate_dst (N:=1) rfl ?_);(try (refine gate_guard (by rfl) ?_;dsimp only));refine zb (N:=1) (cs:=#[.int .u64 a0_0,.slice A0_1 l0_1.length c0_1,.slice A0_2 l0_2.length c0_2,.bool false,.int .i64 a0_4]) (t:=39) ?_;intro G382 hg w59 hbox hb;have K382:=zA (hbox);have GW382:=zN HB hg;have GE382:=zN HB hg;replace HB:=zS HB hb;clear hb hbox hg;obtain ⟨hcz60_0,hcz60_1,hcz60_2,hcz60_3,hcz60_4,hfz60_0,hfz60_1,hfz60_2,hfz60_3,hfz60_4⟩:=zc5 K382)|((with_reducible refine gate_callee (f:=30) rfl ?_);refine zg (some 6) Try.func30 #[.slice A0_1 l0_1.length c0_1] ?_;(with_reducible refine (delta_list.calls k _ _ l0_1 false _ ?side1 ?side2 A2.out).mono ?_);(case side1 => exact zC (Kd.C_below HR0_1.out HB.1));(case side2 => exact HC0_1.out);rintro e w61 ⟨rfl,hb⟩;refine ⟨_,rfl,?_⟩;replace K382:=zB K382 hb;replace HB:=zS HB hb;(try clear hb);obtain ⟨hcz62_0,hcz62_1,hcz62_2,hcz62_3,hcz62_4,hfz62_0,hfz62_1,hfz62_2,hfz62_3,hfz62_4⟩:=zc5 K382))
   go_ret
   exact ⟨zE,zH HB⟩

end Go.Proofs.Ytpcgjdllgdkobaa.XD
