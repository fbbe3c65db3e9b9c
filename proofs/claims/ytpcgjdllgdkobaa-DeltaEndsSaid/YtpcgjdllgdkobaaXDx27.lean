/- Go functions of this seat as Lean functions, with proofs that the calls come to them. (Written by xprint.py, a program of this session, over the kit's print.) -/
import Derived.Test.YtpcgjdllgdkobaaXDx0
import Derived.Test.YtpcgjdllgdkobaaXDx2
import Derived.Test.YtpcgjdllgdkobaaXDx12
import Derived.Test.YtpcgjdllgdkobaaXDx14
import Derived.Test.YtpcgjdllgdkobaaXDx16
import Derived.Test.YtpcgjdllgdkobaaXDx17
import Derived.Test.YtpcgjdllgdkobaaXDx22
import Derived.Test.YtpcgjdllgdkobaaXDx25
import Derived.Test.YtpcgjdllgdkobaaXDx26
namespace Go.Proofs.Ytpcgjdllgdkobaa.XD
open Go.RowKit Go.Proofs.YtpcgjdllgdkobaaW.PrintWords Go.Proofs.YtpcgjdllgdkobaaW.PrintLast Go.Proofs.YtpcgjdllgdkobaaW.PrintMore
attribute [local go_sem] max2_int min2_int max_two min_two max_three min_three max_four min_four   -- for this text's walks alone
set_option linter.unusedVariables false
set_option linter.unusedSimpArgs false
open List renaming setIfInBounds_toArray → xA, set_cons_zero → xB, set_cons_succ → xC
open Go.Proofs.YtpcgjdllgdkobaaW.PrintWords renaming blk_drewN → bN, blk_drew → bD, blk_alloc → bA, below_set → bS, blk_frozen → bF, blk_cell → bC, cell_far → cF, blk_far → bZ, blk_below → bB, pw_below_drewN → bwN, below_drew1 → bw1, below_alloc → bwA
open Go.Proofs.YtpcgjdllgdkobaaW.PrintZ
open Bool renaming true → T,false → F

/-! ### beaconlaw14_DeltaEnds: function 6 -/
mutual
def beaconlaw14_DeltaEnds.j0 : Nat → List (S61) → List (S61) → Bool → Option (Bool)
 | 0, _, _, _ => none
 | k + 1, x0, x1, x23 => if x23 = true then ((beaconlaw14_awake.f k).bind fun t444 => (some t444)) else ((beaconlaw14_own.f x0).bind fun t445 => ((beaconlaw14_own.f x0).bind fun t450 => (beaconlaw14_DeltaEnds.l0 k x1 t450 (wrap64 (Int.tdiv (wrap64 ((wrap64 ((wrap64 ((x0.length : Int) + (x1.length : Int))) + 512)) - 1)) 512)) 0 t445 ([] : List (S61)) false 0 0)))
def beaconlaw14_DeltaEnds.l0 : Nat → List (S61) → List (S61) → Int → Int → List (S61) → List (S61) → Bool → Int → Int → Option (Bool)
 | 0, _, _, _, _, _, _, _, _, _ => none
 | k + 1, x1, x7, x8, x449000, x449001, x449002, x449003, x449004, x450000 => if x8 > 0 then ((beaconlaw14_own.f x1).bind fun t456 => ((delta_Offer.f k x449000 x449001 x449002 x449003 x449004 t456).bind fun bt459 => (if bt459.2.2.2.2.2.2.2 = 0 then (if bt459.2.2.2.2.2.2.1 = true then ((delta_Take.f x450000 bt459.1).bind fun bt477 => (if bt477.2.1 = true then (beaconlaw14_DeltaEnds.j2 k x1 x7 x8 bt459.2.2.2.2.2.1 (!bt477.2.2) bt459.1 bt459.2.1 bt459.2.2.1 bt459.2.2.2.1 bt459.2.2.2.2.1 bt477.1) else (beaconlaw14_DeltaEnds.j2 k x1 x7 x8 bt459.2.2.2.2.2.1 true bt459.1 bt459.2.1 bt459.2.2.1 bt459.2.2.2.1 bt459.2.2.2.2.1 bt477.1))) else ((delta_Settled.f k bt459.1 bt459.2.1 bt459.2.2.1 bt459.2.2.2.1 bt459.2.2.2.2.1 x1).bind fun t474 => (if t474 = true then ((beaconref06_SameNews.f k x7 x1).bind fun t475 => (if t475 = true then ((beaconlaw14_awake.f k).bind fun t476 => (some t476)) else (some false))) else (some false)))) else (some false)))) else ((delta_Settled.f k x449000 x449001 x449002 x449003 x449004 x1).bind fun t453 => (if t453 = true then ((beaconref06_SameNews.f k x7 x1).bind fun t454 => (if t454 = true then ((beaconlaw14_awake.f k).bind fun t455 => (some t455)) else (some false))) else (some false)))
def beaconlaw14_DeltaEnds.j2 : Nat → List (S61) → List (S61) → Int → List (S61) → Bool → Int → List (S61) → List (S61) → Bool → Int → Int → Option (Bool)
 | 0, _, _, _, _, _, _, _, _, _, _, _ => none
 | k + 1, x1, x7, x8, x10, x70, x449000, x449001, x449002, x449003, x449004, x450000 => if x70 = true then (some false) else ((beaconref14_Merge.f k x7 x10).bind fun bt481 => ((delta_Acked.f x449000 x449001 x449002 x449003 x449004 x449000).bind fun bt485 => (beaconlaw14_DeltaEnds.l0 k x1 bt481.1 (wrap64 (x8 - 1)) bt485.1 bt485.2.1 bt485.2.2.1 bt485.2.2.2.1 bt485.2.2.2.2.1 x450000)))
end
def beaconlaw14_DeltaEnds.f (k : Nat) (l0 : List (S61)) (l1 : List (S61)) : Option (Bool) := (beaconref14_List.f k l0).bind fun t442 => (if t442 = true then ((beaconref14_List.f k l1).bind fun t443 => (beaconlaw14_DeltaEnds.j0 k l0 l1 (!t443))) else (beaconlaw14_DeltaEnds.j0 k l0 l1 true))
theorem beaconlaw14_DeltaEnds.mono_l : ∀ k, (∀ y0 y1 y2, LeO (beaconlaw14_DeltaEnds.j0 k y0 y1 y2) (beaconlaw14_DeltaEnds.j0 (k + 1) y0 y1 y2)) ∧ (∀ y0 y1 y2 y3 y4 y5 y6 y7 y8, LeO (beaconlaw14_DeltaEnds.l0 k y0 y1 y2 y3 y4 y5 y6 y7 y8) (beaconlaw14_DeltaEnds.l0 (k + 1) y0 y1 y2 y3 y4 y5 y6 y7 y8)) ∧ (∀ y0 y1 y2 y3 y4 y5 y6 y7 y8 y9 y10, LeO (beaconlaw14_DeltaEnds.j2 k y0 y1 y2 y3 y4 y5 y6 y7 y8 y9 y10) (beaconlaw14_DeltaEnds.j2 (k + 1) y0 y1 y2 y3 y4 y5 y6 y7 y8 y9 y10))
 | 0 => ⟨fun _ _ _ r h => by simp [beaconlaw14_DeltaEnds.j0] at h, fun _ _ _ _ _ _ _ _ _ r h => by simp [beaconlaw14_DeltaEnds.l0] at h, fun _ _ _ _ _ _ _ _ _ _ _ r h => by simp [beaconlaw14_DeltaEnds.j2] at h⟩
 | k + 1 => by
  obtain ⟨ih0,ih1,ih2⟩:=beaconlaw14_DeltaEnds.mono_l k
  refine ⟨?_,?_,?_⟩
  ·intro y0 y1 y2
   unfold beaconlaw14_DeltaEnds.j0
   repeat' first
   | (with_reducible exact ih0 _ _ _)
   | (with_reducible exact ih1 _ _ _ _ _ _ _ _ _)
   | (with_reducible exact ih2 _ _ _ _ _ _ _ _ _ _ _)
   | (with_reducible exact beaconlaw14_awake.mono _)
   | (with_reducible exact beaconref06_SameNews.mono _ _ _)
   | (with_reducible exact beaconref14_List.mono _ _)
   | (with_reducible exact beaconref14_Merge.mono _ _ _)
   | (with_reducible exact delta_Offer.mono _ _ _ _ _ _ _)
   | (with_reducible exact delta_Settled.mono _ _ _ _ _ _ _)
   | (with_reducible exact LeO.refl _)
   | (with_reducible exact LeO.none _)
   | (with_reducible refine LeO.ite ?_ ?_)
   | (with_reducible refine LeO.bind ?_ (fun _ => ?_))
   | exact ih0 _ _ _
   | exact ih1 _ _ _ _ _ _ _ _ _
   | exact ih2 _ _ _ _ _ _ _ _ _ _ _
   | exact beaconlaw14_awake.mono _
   | exact beaconref06_SameNews.mono _ _ _
   | exact beaconref14_List.mono _ _
   | exact beaconref14_Merge.mono _ _ _
   | exact delta_Offer.mono _ _ _ _ _ _ _
   | exact delta_Settled.mono _ _ _ _ _ _ _
   | exact LeO.none _
   | refine LeO.ite ?_ ?_
   | refine LeO.bind ?_ (fun _ => ?_)
  ·intro y0 y1 y2 y3 y4 y5 y6 y7 y8
   unfold beaconlaw14_DeltaEnds.l0
   repeat' first
   | (with_reducible exact ih0 _ _ _)
   | (with_reducible exact ih1 _ _ _ _ _ _ _ _ _)
   | (with_reducible exact ih2 _ _ _ _ _ _ _ _ _ _ _)
   | (with_reducible exact beaconlaw14_awake.mono _)
   | (with_reducible exact beaconref06_SameNews.mono _ _ _)
   | (with_reducible exact beaconref14_List.mono _ _)
   | (with_reducible exact beaconref14_Merge.mono _ _ _)
   | (with_reducible exact delta_Offer.mono _ _ _ _ _ _ _)
   | (with_reducible exact delta_Settled.mono _ _ _ _ _ _ _)
   | (with_reducible exact LeO.refl _)
   | (with_reducible exact LeO.none _)
   | (with_reducible refine LeO.ite ?_ ?_)
   | (with_reducible refine LeO.bind ?_ (fun _ => ?_))
   | exact ih0 _ _ _
   | exact ih1 _ _ _ _ _ _ _ _ _
   | exact ih2 _ _ _ _ _ _ _ _ _ _ _
   | exact beaconlaw14_awake.mono _
   | exact beaconref06_SameNews.mono _ _ _
   | exact beaconref14_List.mono _ _
   | exact beaconref14_Merge.mono _ _ _
   | exact delta_Offer.mono _ _ _ _ _ _ _
   | exact delta_Settled.mono _ _ _ _ _ _ _
   | exact LeO.none _
   | refine LeO.ite ?_ ?_
   | refine LeO.bind ?_ (fun _ => ?_)
  ·intro y0 y1 y2 y3 y4 y5 y6 y7 y8 y9 y10
   unfold beaconlaw14_DeltaEnds.j2
   repeat' first
   | (with_reducible exact ih0 _ _ _)
   | (with_reducible exact ih1 _ _ _ _ _ _ _ _ _)
   | (with_reducible exact ih2 _ _ _ _ _ _ _ _ _ _ _)
   | (with_reducible exact beaconlaw14_awake.mono _)
   | (with_reducible exact beaconref06_SameNews.mono _ _ _)
   | (with_reducible exact beaconref14_List.mono _ _)
   | (with_reducible exact beaconref14_Merge.mono _ _ _)
   | (with_reducible exact delta_Offer.mono _ _ _ _ _ _ _)
   | (with_reducible exact delta_Settled.mono _ _ _ _ _ _ _)
   | (with_reducible exact LeO.refl _)
   | (with_reducible exact LeO.none _)
   | (with_reducible refine LeO.ite ?_ ?_)
   | (with_reducible refine LeO.bind ?_ (fun _ => ?_))
   | exact ih0 _ _ _
   | exact ih1 _ _ _ _ _ _ _ _ _
   | exact ih2 _ _ _ _ _ _ _ _ _ _ _
   | exact beaconlaw14_awake.mono _
   | exact beaconref06_SameNews.mono _ _ _
   | exact beaconref14_List.mono _ _
   | exact beaconref14_Merge.mono _ _ _
   | exact delta_Offer.mono _ _ _ _ _ _ _
   | exact delta_Settled.mono _ _ _ _ _ _ _
   | exact LeO.none _
   | refine LeO.ite ?_ ?_
   | refine LeO.bind ?_ (fun _ => ?_)
theorem beaconlaw14_DeltaEnds.mono : ∀ a0 a1 k, LeO (beaconlaw14_DeltaEnds.f k a0 a1) (beaconlaw14_DeltaEnds.f (k + 1) a0 a1) := by
 intro a0 a1 k
 obtain ⟨ih0,ih1,ih2⟩:=beaconlaw14_DeltaEnds.mono_l k
 unfold beaconlaw14_DeltaEnds.f
 repeat' first
   | (with_reducible exact ih0 _ _ _)
   | (with_reducible exact ih1 _ _ _ _ _ _ _ _ _)
   | (with_reducible exact ih2 _ _ _ _ _ _ _ _ _ _ _)
   | (with_reducible exact beaconlaw14_awake.mono _)
   | (with_reducible exact beaconref06_SameNews.mono _ _ _)
   | (with_reducible exact beaconref14_List.mono _ _)
   | (with_reducible exact beaconref14_Merge.mono _ _ _)
   | (with_reducible exact delta_Offer.mono _ _ _ _ _ _ _)
   | (with_reducible exact delta_Settled.mono _ _ _ _ _ _ _)
   | (with_reducible exact LeO.refl _)
   | (with_reducible exact LeO.none _)
   | (with_reducible refine LeO.ite ?_ ?_)
   | (with_reducible refine LeO.bind ?_ (fun _ => ?_))
   | exact ih0 _ _ _
   | exact ih1 _ _ _ _ _ _ _ _ _
   | exact ih2 _ _ _ _ _ _ _ _ _ _ _
   | exact beaconlaw14_awake.mono _
   | exact beaconref06_SameNews.mono _ _ _
   | exact beaconref14_List.mono _ _
   | exact beaconref14_Merge.mono _ _ _
   | exact delta_Offer.mono _ _ _ _ _ _ _
   | exact delta_Settled.mono _ _ _ _ _ _ _
   | exact LeO.none _
   | refine LeO.ite ?_ ?_
   | refine LeO.bind ?_ (fun _ => ?_)
def beaconlaw14_DeltaEnds.T9 : Bool × List (List Nat × List Nat) := (true, [([], []), ([], []), ([1], [1]), ([0, 2, 2], [0, 2]), ([3], [3]), ([4], [4]), ([4], [4]), ([4], [4]), ([4], [4]), ([], []), ([9, 5, 3, 0, 1, 2, 3, 4, 5, 9], [5, 9]), ([6, 10, 0, 1, 2, 3, 4, 5, 6, 9, 10], [6]), ([7, 11, 0, 1, 2, 3, 4, 5, 6, 7, 9, 10, 11], [7]), ([8, 12, 0, 1, 2, 3, 4, 5, 6, 7, 8, 9, 10, 11, 12], [8])])
def beaconlaw14_DeltaEnds.B9 : List Nat := [0, 0, 2, 7, 15, 31, 31, 31, 31, 0, 575, 1663, 3839, 8191]
theorem beaconlaw14_DeltaEnds.tab9 : rtab .any (opsOf Try.f6 9) = beaconlaw14_DeltaEnds.T9 := by kernel_rfl
theorem beaconlaw14_DeltaEnds.bits9 : waitsOk beaconlaw14_DeltaEnds.T9.2 beaconlaw14_DeltaEnds.B9 = true := by kernel_rfl
set_option maxHeartbeats 8000000 in
set_option maxRecDepth 100000 in
theorem beaconlaw14_DeltaEnds.calls (k : Nat) (A0 : Option Addr) (c0 : Nat) (l0 : List (S61)) (A1 : Option Addr) (c1 : Nat) (l1 : List (S61)) (r : Bool) (w : World) (hr0 : Kd.C k61 w A0 l0.length l0) (hc0 : l0.length ≤ c0) (hr1 : Kd.C k61 w A1 l1.length l1) (hc1 : l1.length ≤ c1) (h : beaconlaw14_DeltaEnds.f k l0 l1 = some r) (hr_ : r = true) :
  Calls Try.prog 6 #[.slice A0 l0.length c0,.slice A1 l1.length c1] w fun e w' => e = .returned (.bool r) ∧ Below w.heap.size w w':=by
 have hu39:=Try.underlying39
 have hu24:=Try.underlying24
 have HR0:=zA hr0
 have HC0:=zA hc0
 clear hr0 hc0
 have HR1:=zA hr1
 have HC1:=zA hc1
 clear hr1 hc1
 have HB:=zA (Below.refl w.heap.size w)
 have HR_:=zA hr_
 clear hr_
 have H : ((beaconref14_List.f k l0).bind fun t442 => (if t442 = true then ((beaconref14_List.f k l1).bind fun t443 => (beaconlaw14_DeltaEnds.j0 k l0 l1 (!t443))) else (beaconlaw14_DeltaEnds.j0 k l0 l1 true))) = some r:=h
 clear h
 have HC3:=zA H
 clear H
 go_enter Try.func6,Try.ntmps6
 go_upto_region 1 with (fail)
 go_cut [23] (fun v23 wc => ∃ (kq : Nat) (x23_2 : Bool),v23 = .bool x23_2 ∧ Aside0 (beaconlaw14_DeltaEnds.j0 kq l0 l1 x23_2 = some r) ∧ Aside0 (kq ≤ k) ∧ Aside0 (Below w.heap.size w wc))
 case first =>
  have H:=HC3.out
  clear HC3
  replace H:=Option.bind_eq_some_iff.mp H
  obtain ⟨t442,A40,H⟩:=H
  (try dsimp only at H)
  have A4:=zA A40
  clear A40
  by_cases c5 : t442 = true
  ·subst c5
   rw [if_pos rfl] at H
   replace H:=Option.bind_eq_some_iff.mp H
   obtain ⟨t443,A60,H⟩:=H
   (try dsimp only at H)
   have A6:=zA A60
   clear A60
   have H':=zA H
   clear H
   go_wp2_with (first|((with_reducible refine gate_callee (f:=18) rfl ?_);refine zg (some 17) Try.func18 #[.slice A0 l0.length c0] ?_;(with_reducible refine (beaconref14_List.calls k _ _ l0 true _ ?side1 ?side2 A4.out).mono ?_);(case side1 => exact zC (Kd.C_below HR0.out HB.1));(case side2 => exact HC0.out);rintro e w7 ⟨rfl,hb⟩;refine ⟨_,rfl,?_⟩;replace HB:=zS HB hb;(try clear hb))|(go_at_call 18;(with_reducible refine (beaconref14_List.calls k _ _ l1 t443 _ ?side1 ?side2 A6.out).mono ?_);(case side1 => exact zC (Kd.C_below HR1.out HB.1));(case side2 => exact HC1.out);rintro e w8 ⟨rfl,hb⟩;replace HB:=zS HB hb;(try clear hb)))
   go_meet
   case rel => exact ⟨_,(!t443),ze,H',⟨zo⟩,⟨zH HB⟩⟩
  ·replace c5:=Bool.eq_false_iff.mpr c5
   subst c5
   rw [if_neg (show ¬ (false = true) by decide)] at H
   have H':=zA H
   clear H
   go_wp2_with (first|((with_reducible refine gate_callee (f:=18) rfl ?_);refine zg (some 17) Try.func18 #[.slice A0 l0.length c0] ?_;(with_reducible refine (beaconref14_List.calls k _ _ l0 false _ ?side1 ?side2 A4.out).mono ?_);(case side1 => exact zC (Kd.C_below HR0.out HB.1));(case side2 => exact HC0.out);rintro e w9 ⟨rfl,hb⟩;refine ⟨_,rfl,?_⟩;replace HB:=zS HB hb;(try clear hb)))
   go_meet
   case rel => exact ⟨_,(true),ze,H',⟨zo⟩,⟨zH HB⟩⟩
 case rest =>
  clear HC3
  try clear c1
  obtain ⟨kq,x23_2,rfl,HA,HJ2,HB⟩:=hcut
  cases kq with
  | zero => exact absurd HA.out (by simp [beaconlaw14_DeltaEnds.j0])
  | succ kj2 =>
   have H:=HA.out
   clear HA
   simp only [beaconlaw14_DeltaEnds.j0] at H
   by_cases c10 : x23_2 = true
   ·subst c10
    rw [if_pos rfl] at H
    replace H:=Option.bind_eq_some_iff.mp H
    obtain ⟨t444,A110,H⟩:=H
    (try dsimp only at H)
    have A11:=zA A110
    clear A110
    obtain rfl:=Option.some.inj H
    go_wp2_with (first|((with_reducible refine gate_callee (f:=11) rfl ?_);refine zg (some 24) Try.func11 #[] ?_;(with_reducible refine (beaconlaw14_awake.calls kj2  t444 _ A11.out).mono ?_);rintro e w12 ⟨rfl,hb⟩;refine ⟨_,rfl,?_⟩;replace HB:=zS HB hb;(try clear hb)))
    go_ret
    exact ⟨zE,zH HB⟩
   ·replace c10:=Bool.eq_false_iff.mpr c10
    subst c10
    rw [if_neg (show ¬ (false = true) by decide)] at H
    replace H:=Option.bind_eq_some_iff.mp H
    obtain ⟨t445,A130,H⟩:=H
    (try dsimp only at H)
    have A13:=zA A130
    clear A130
    replace H:=Option.bind_eq_some_iff.mp H
    obtain ⟨t450,A140,H⟩:=H
    (try dsimp only at H)
    have A14:=zA A140
    clear A140
    have H':=zA H
    clear H
    go_wp2_with (first|((with_reducible refine gate_callee (f:=13) rfl ?_);refine zg (some 26) Try.func13 #[.slice A0 l0.length c0] ?_;(with_reducible refine (beaconlaw14_own.calls _ _ l0 t445 _ ?side1 ?side2 A13.out).mono ?_);(case side1 => exact zC (Kd.C_below HR0.out HB.1));(case side2 => exact HC0.out);rintro e w15 ⟨v446,rfl,ho0,hb⟩;refine ⟨_,rfl,?_⟩;have HO447:=zA (Kd.R_lower ho0 (zW HB));replace HB:=zS HB hb;(try clear hb);(try clear ho0);obtain ⟨Ao16,co16,eo16⟩:=Kd.R_slice HO447.out;subst eo16)|((with_reducible refine gate_dst (N:=5) rfl ?_);refine zb (N:=5) (cs:=#[.int .u64 0,.slice none 0 0,.slice none 0 0,.bool false,.int .i64 0]) (t:=39) ?_;intro G448 hg w17 hbox hb;replace HO447:=zRb HO447 hb;have K448:=zA (hbox);have GW448:=zN HB hg;have GE448:=zN HB hg;replace HB:=zS HB hb;clear hb hbox hg;obtain ⟨hcz18_0,hcz18_1,hcz18_2,hcz18_3,hcz18_4,hfz18_0,hfz18_1,hfz18_2,hfz18_3,hfz18_4⟩:=zc5 K448)|((with_reducible refine gate_store (t:=39) (p:=5) rfl ?_);refine store_event (t:=39) (p:=5) (v:=?vo_w19) (w1:=(((((w17.setCell ⟨G448,0,none⟩ (.int .u64 0)).setCell ⟨G448,1,none⟩ (.slice Ao16 t445.length co16)).setCell ⟨G448,2,none⟩ (.slice none 0 0)).setCell ⟨G448,3,none⟩ (.bool false)).setCell ⟨G448,4,none⟩ (.int .i64 0))) ?hg ?ho ?hn ?hr ?_;(case ho => rfl);(case hg => rfl);(case hn => rfl);(case hr => first|(go_simp;done)|(go_simp;rfl));intro w19 hw;replace HO447 : Aside0 (Kd.R k61 61 w19 w.heap.size (fun _ => True) (.slice Ao16 t445.length co16) t445):=⟨(by rw [hw];exact (zRf HO447 K448 (fun _ hk => trivial)))⟩;replace K448:=zVp hw (.cells #[.int .u64 0,.slice Ao16 t445.length co16,.slice none 0 0,.bool false,.int .i64 0] 39 (0,0)) K448;replace HB:=zU hw HB;clear hw)|((with_reducible refine gate_dst (N:=6) rfl ?_);refine zb (N:=6) (cs:=#[.int .u64 0]) (t:=24) ?_;intro G449 hg w20 hbox hb;replace HO447:=zRb HO447 hb;have K449:=zA (hbox);have GW449:=zN HB hg;have GE449:=zN HB hg;replace HB:=zS HB hb;have NB448_449:=zL K448 hg;have NB449_448:=zG K448 hg;replace K448:=zB K448 hb;clear hb hbox hg)|((with_reducible refine gate_callee (f:=13) rfl ?_);refine zg (some 29) Try.func13 #[.slice A0 l0.length c0] ?_;(with_reducible refine (beaconlaw14_own.calls _ _ l0 t450 _ ?side1 ?side2 A14.out).mono ?_);(case side1 => exact zC (Kd.C_below HR0.out HB.1));(case side2 => exact HC0.out);rintro e w21 ⟨v451,rfl,ho0,hb⟩;refine ⟨_,rfl,?_⟩;have HO452:=zA (Kd.R_lower (Kd.R_new' ho0 (Kd.R_lt (zR HO447))) (zW HB));replace HO447:=zA (Kd.R_elder' (zR HO447) (Kd.R_base ho0) hb);replace K448:=zB K448 hb;replace K449:=zB K449 hb;replace HB:=zS HB hb;(try clear hb);(try clear ho0)))
    go_loopg [7,8] kj2 (fun kq v7 v8 w' => ∃ (x7_2 : List (S61)) (x8_2 : Int) (x449000_2 : Int) (x449001_2 : List (S61)) (x449002_2 : List (S61)) (x449003_2 : Bool) (x449004_2 : Int) (x450000_2 : Int) (u449001 : Value) (u449002 : Value),v8 = .int .i64 x8_2 ∧ Aside0 (beaconlaw14_DeltaEnds.l0 kq l1 x7_2 x8_2 x449000_2 x449001_2 x449002_2 x449003_2 x449004_2 x450000_2 = some r) ∧ Aside0 (kq ≤ kj2) ∧ Aside0 (Kd.R k61 61 w' w.heap.size (fun k_ => some k_ ≠ (u449001 : Value).ownBlock ∧ some k_ ≠ (u449002 : Value).ownBlock) v7 x7_2) ∧ Aside0 (Kd.R k61 61 w' w.heap.size (fun k_ => some k_ ≠ (v7 : Value).ownBlock ∧ some k_ ≠ (u449002 : Value).ownBlock) u449001 x449001_2) ∧ Aside0 (Kd.R k61 61 w' w.heap.size (fun k_ => some k_ ≠ (v7 : Value).ownBlock ∧ some k_ ≠ (u449001 : Value).ownBlock) u449002 x449002_2) ∧ Aside0 (w'.heap[G448]? = some (.cells #[.int .u64 x449000_2,u449001,u449002,.bool x449003_2,.int .i64 x449004_2] 39 (0,0))) ∧ Aside0 (w'.heap[G449]? = some (.cells #[.int .u64 x450000_2] 24 (0,0))) ∧ Aside0 (Below w.heap.size w w'))
    case atStart => exact ⟨(t450),(wrap64 (Int.tdiv (wrap64 ((wrap64 ((wrap64 ((l0.length : Int) + (l1.length : Int))) + 512)) - 1)) 512)),(0),(t445),(([] : List (S61))),(false),(0),(0),(.slice Ao16 t445.length co16),(.slice none 0 0),ze,H',⟨Nat.le_refl _⟩,⟨by (with_reducible repeat (first|apply Kd.R_alloc|apply Kd.R_drewN|apply Kd.R_drew));exact Kd.R_mono HO452.out (fun _ hk => ⟨hk.2,(by simp [Value.ownBlock])⟩)⟩,⟨by (with_reducible repeat (first|apply Kd.R_alloc|apply Kd.R_drewN|apply Kd.R_drew));exact Kd.R_mono HO447.out (fun _ hk => ⟨hk.2,(by simp [Value.ownBlock])⟩)⟩,⟨by first|exact Kd.R_nil _ _ _ _ _|exact Kd.N_nil _ _ _ _ _|exact Kd.V_nil _ _ _ _ _|exact Kd.Q_nil _ _ _ _ _|exact Kd.S_nil _ _ _ _ _⟩,⟨z1 K448.1⟩,⟨z1 K449.1⟩,⟨zH HB⟩⟩
    case round =>
     clear H'
     try clear c1;try clear c10;try clear hcz18_0;try clear hcz18_1;try clear hcz18_2;try clear hcz18_3;try clear hcz18_4;try clear hfz18_0;try clear hfz18_1;try clear hfz18_2;try clear hfz18_3;try clear hfz18_4
     obtain ⟨x7_2,x8_2,x449000_2,x449001_2,x449002_2,x449003_2,x449004_2,x450000_2,u449001,u449002,rfl,HA,HK2,HO_7,HO_449001,HO_449002,K448,K449,HB⟩:=hrel
     cases gk with
     | zero => exact absurd HA.out (by simp [beaconlaw14_DeltaEnds.l0])
     | succ k2 =>
      have H:=HA.out
      clear HA
      simp only [beaconlaw14_DeltaEnds.l0] at H
      by_cases c22 : x8_2 > 0
      ·rw [if_pos c22] at H
       have c22b0 : decide (0 < x8_2) = true:=decide_eq_true c22
       clear c22
       replace H:=Option.bind_eq_some_iff.mp H
       obtain ⟨t456,A230,H⟩:=H
       (try dsimp only at H)
       have A23:=zA A230
       clear A230
       replace H:=Option.bind_eq_some_iff.mp H
       obtain ⟨⟨t459,t460,t463,t466,t467,t468,t471,t472⟩,A240,H⟩:=H
       (try dsimp only at H)
       have A24:=zA A240
       clear A240
       by_cases c25 : t472 = 0
       ·rw [if_pos c25] at H
        have c25b0 : (t472 == 0) = true:=beq_iff_eq.mpr c25
        have c25b1 : (t472 != 0) = false:=bne_eq_false_iff_eq.mpr c25
        clear c25
        by_cases c26 : t471 = true
        ·subst c26
         rw [if_pos rfl] at H
         replace H:=Option.bind_eq_some_iff.mp H
         obtain ⟨⟨t477,t478,t479⟩,A270,H⟩:=H
         (try dsimp only at H)
         have A27:=zA A270
         clear A270
         have HC28:=zA H
         clear H
         obtain ⟨Ao29,co29,eo29⟩:=Kd.R_slice HO_449001.out
         subst eo29
         obtain ⟨Ao30,co30,eo30⟩:=Kd.R_slice HO_449002.out
         subst eo30
         try go_wp2
         replace HO_7:=zA (Kd.R_drew HO_7.out)
         replace HO_449001:=zA (Kd.R_drew HO_449001.out)
         replace HO_449002:=zA (Kd.R_drew HO_449002.out)
         replace K448:=zA (bD K448.1)
         replace K449:=zA (bD K449.1)
         replace HB:=zA (bw1 HB.1)
         refine start_ (n:=14) (S:=fun w' => w'.cell? ⟨G448,0,none⟩ = some (.int .u64 x449000_2) ∧ w'.cell? ⟨G448,1,none⟩ = some (.slice Ao29 x449001_2.length co29) ∧ w'.cell? ⟨G448,2,none⟩ = some (.slice Ao30 x449002_2.length co30) ∧ w'.cell? ⟨G448,3,none⟩ = some (.bool x449003_2) ∧ w'.cell? ⟨G448,4,none⟩ = some (.int .i64 x449004_2)) (ds:=[]) #[F,F,F,F,F,F,F,F,F,F,F,F,F,F] (by kernel_rfl) rfl rfl ⟨zk K448 0,zk K448 1,zk K448 2,zk K448 3,zk K448 4⟩ (fun hHeld => ?_);refine with_tabW beaconlaw14_DeltaEnds.tab9 beaconlaw14_DeltaEnds.bits9 (fun HT_ HW_ => ?_)
         generalize wr.drew = w31 at HO_7 HO_449001 HO_449002 K448 K449 HB hHeld ⊢
         refine pz 1 44 #[F,T,F,F,F,F,F,F,F,F,F,F,F,F] HT_.1 ?_
         refine tz 0 43 #[T,T,F,F,F,F,F,F,F,F,F,F,F,F] HT_.1 HW_.1 hHeld ?_
         refine join_ (σ:=Value × Value × Value × Value × Nat) 4 #[T,T,T,T,T,T,T,T,T,T,F,F,F,F] (fun s_ => [(45,s_.1),(46,.tuple #[.agg #[.int .u64 t459,s_.2.1,s_.2.2.1,.bool t466,.int .i64 t467],s_.2.2.2.1,.bool true,.int .i64 t472]),(9,.pointer (some ⟨s_.2.2.2.2,0,none⟩)),(42,.tuple #[.agg #[.int .u64 t459,s_.2.1,s_.2.2.1,.bool t466,.int .i64 t467],s_.2.2.2.1,.bool true,.int .i64 t472]),(47,.agg #[.int .u64 t459,s_.2.1,s_.2.2.1,.bool t466,.int .i64 t467]),(48,s_.2.2.2.1),(49,.bool true),(50,.int .i64 t472)]) (fun s_ w' => (w'.cell? ⟨G448,0,none⟩ = some (.int .u64 x449000_2) ∧ w'.cell? ⟨G448,1,none⟩ = some (.slice Ao29 x449001_2.length co29) ∧ w'.cell? ⟨G448,2,none⟩ = some (.slice Ao30 x449002_2.length co30) ∧ w'.cell? ⟨G448,3,none⟩ = some (.bool x449003_2) ∧ w'.cell? ⟨G448,4,none⟩ = some (.int .i64 x449004_2)) ∧ (Kd.R k61 61 w' w.heap.size (fun k_ => some k_ ≠ (s_.2.1 : Value).ownBlock ∧ some k_ ≠ (s_.2.2.1 : Value).ownBlock ∧ some k_ ≠ (s_.2.2.2.1 : Value).ownBlock ∧ some k_ ≠ (.slice Ao29 x449001_2.length co29 : Value).ownBlock ∧ some k_ ≠ (.slice Ao30 x449002_2.length co30 : Value).ownBlock ∧ some k_ ≠ (u7 : Value).ownBlock) s_.1 t456) ∧ (Kd.R k61 61 w' w.heap.size (fun k_ => some k_ ≠ (s_.1 : Value).ownBlock ∧ some k_ ≠ (s_.2.2.1 : Value).ownBlock ∧ some k_ ≠ (s_.2.2.2.1 : Value).ownBlock ∧ some k_ ≠ (.slice Ao29 x449001_2.length co29 : Value).ownBlock ∧ some k_ ≠ (.slice Ao30 x449002_2.length co30 : Value).ownBlock ∧ some k_ ≠ (u7 : Value).ownBlock) s_.2.1 t460) ∧ (Kd.R k61 61 w' w.heap.size (fun k_ => some k_ ≠ (s_.1 : Value).ownBlock ∧ some k_ ≠ (s_.2.1 : Value).ownBlock ∧ some k_ ≠ (s_.2.2.2.1 : Value).ownBlock ∧ some k_ ≠ (.slice Ao29 x449001_2.length co29 : Value).ownBlock ∧ some k_ ≠ (.slice Ao30 x449002_2.length co30 : Value).ownBlock ∧ some k_ ≠ (u7 : Value).ownBlock) s_.2.2.1 t463) ∧ (Kd.R k61 61 w' w.heap.size (fun k_ => some k_ ≠ (s_.1 : Value).ownBlock ∧ some k_ ≠ (s_.2.1 : Value).ownBlock ∧ some k_ ≠ (s_.2.2.1 : Value).ownBlock ∧ some k_ ≠ (.slice Ao29 x449001_2.length co29 : Value).ownBlock ∧ some k_ ≠ (.slice Ao30 x449002_2.length co30 : Value).ownBlock ∧ some k_ ≠ (u7 : Value).ownBlock) s_.2.2.2.1 t468) ∧ (Kd.R k61 61 w' w.heap.size (fun k_ => some k_ ≠ (s_.1 : Value).ownBlock ∧ some k_ ≠ (s_.2.1 : Value).ownBlock ∧ some k_ ≠ (s_.2.2.1 : Value).ownBlock ∧ some k_ ≠ (s_.2.2.2.1 : Value).ownBlock ∧ some k_ ≠ (.slice Ao30 x449002_2.length co30 : Value).ownBlock ∧ some k_ ≠ (u7 : Value).ownBlock) (.slice Ao29 x449001_2.length co29) x449001_2) ∧ (Kd.R k61 61 w' w.heap.size (fun k_ => some k_ ≠ (s_.1 : Value).ownBlock ∧ some k_ ≠ (s_.2.1 : Value).ownBlock ∧ some k_ ≠ (s_.2.2.1 : Value).ownBlock ∧ some k_ ≠ (s_.2.2.2.1 : Value).ownBlock ∧ some k_ ≠ (.slice Ao29 x449001_2.length co29 : Value).ownBlock ∧ some k_ ≠ (u7 : Value).ownBlock) (.slice Ao30 x449002_2.length co30) x449002_2) ∧ (Kd.R k61 61 w' w.heap.size (fun k_ => some k_ ≠ (s_.1 : Value).ownBlock ∧ some k_ ≠ (s_.2.1 : Value).ownBlock ∧ some k_ ≠ (s_.2.2.1 : Value).ownBlock ∧ some k_ ≠ (s_.2.2.2.1 : Value).ownBlock ∧ some k_ ≠ (.slice Ao29 x449001_2.length co29 : Value).ownBlock ∧ some k_ ≠ (.slice Ao30 x449002_2.length co30 : Value).ownBlock) u7 x7_2) ∧ (w'.heap[G448]? = some (.cells #[.int .u64 x449000_2,.slice Ao29 x449001_2.length co29,.slice Ao30 x449002_2.length co30,.bool x449003_2,.int .i64 x449004_2] 39 (0,0))) ∧ (w'.heap[G449]? = some (.cells #[.int .u64 x450000_2] 24 (0,0))) ∧ (w'.heap[s_.2.2.2.2]? = some (.cells #[.int .u64 0,.slice none 0 0,.slice none 0 0,.bool false,.int .i64 0] 39 (0,0))) ∧ (w.heap.size ≤ s_.2.2.2.2) ∧ (w.heap.size ≤ s_.2.2.2.2) ∧ (G448 ≠ s_.2.2.2.2) ∧ (s_.2.2.2.2 ≠ G448) ∧ (G449 ≠ s_.2.2.2.2) ∧ (s_.2.2.2.2 ≠ G449) ∧ (Below w.heap.size w w')) ?_ ?_
         rotate_left
         ·intro hCont
          refine two_ (i:=2) (j:=9) (Ni:=some 45) (Nj:=some 9) #[T,T,T,F,F,F,F,F,F,F,F,F,F,F] #[T,T,F,F,F,F,F,F,F,T,F,F,F,F] rfl rfl rfl rfl (two_of HT_.out (by kernel_rfl)) (by decide) (by decide) (fun K hK => ?_) (fun K hK => ?_)
          ·skip
           refine zo_ Try.func13 #[.slice A1 l1.length c1] ?_
           with_reducible refine (beaconlaw14_own.calls _ _ l1 t456 _ ?side1 ?side2 A23.out).mono ?_
           (case side1 => exact zC (Kd.C_below HR1.out HB.1))
           (case side2 => exact HC1.out)
           rintro e w32 ⟨v457,rfl,ho0,hb⟩
           refine ⟨_,rfl,?_⟩
           have HO458:=zA (Kd.R_lower (Kd.R_new' (Kd.R_new' (Kd.R_new' ho0 (Kd.R_lt (zR HO_7))) (Kd.R_lt (zR HO_449001))) (Kd.R_lt (zR HO_449002))) (zW HB))
           replace HO_7:=zA (Kd.R_elder' (zR HO_7) (Kd.R_base ho0) hb)
           replace HO_449001:=zA (Kd.R_elder' (zR HO_449001) (Kd.R_base ho0) hb)
           replace HO_449002:=zA (Kd.R_elder' (zR HO_449002) (Kd.R_base ho0) hb)
           replace K448:=zB K448 hb
           replace K449:=zB K449 hb
           replace HB:=zS HB hb
           (try clear hb)
           (try clear hb2)
           (try clear hk)
           (try clear hi)
           (try clear ho0)
           obtain ⟨Ao33,co33,eo33⟩:=Kd.R_slice HO458.out
           (first|subst eo33|(injection eo33 with f1_ f2_ f3_;have f4_:=f1_.symm;have f5_:=f3_.symm;clear f1_ f2_ f3_;subst f4_;subst f5_))
           refine hK.out _ _ ⟨zk K448 0,zk K448 1,zk K448 2,zk K448 3,zk K448 4⟩ (fun hHeld => ?_)
           clear hK K
           refine nz 45 ?_
           refine two_ (i:=3) (j:=9) (Ni:=some 46) (Nj:=some 9) #[T,T,T,T,F,F,F,F,F,F,F,F,F,F] #[T,T,T,F,F,F,F,F,F,T,F,F,F,F] rfl rfl rfl rfl (two_of HT_.out (by kernel_rfl)) (by decide) (by decide) (fun K hK => ?_) (fun K hK => ?_)
           ·skip
            refine zo_ Try.func19 #[.agg #[.int .u64 x449000_2,.slice Ao29 x449001_2.length co29,.slice Ao30 x449002_2.length co30,.bool x449003_2,.int .i64 x449004_2],.slice Ao33 t456.length co33] ?_
            with_reducible refine (delta_Offer.calls k2 x449000_2 _ _ x449001_2 _ _ x449002_2 x449003_2 x449004_2 _ _ t456 t459 t460 t463 t466 t467 t468 true t472 _ ?side1 ?side2 ?side3 ?side4 ?side5 ?side6 A24.out).mono ?_
            (case side1 => exact zC ((Kd.R_reads' HO_449001.out).2.2))
            (case side2 => exact (Kd.R_reads' HO_449001.out).2.1)
            (case side3 => exact zC ((Kd.R_reads' HO_449002.out).2.2))
            (case side4 => exact (Kd.R_reads' HO_449002.out).2.1)
            (case side5 => exact zC ((Kd.R_reads' HO458.out).2.2))
            (case side6 => exact (Kd.R_reads' HO458.out).2.1)
            rintro e w34 ⟨v461,v464,v469,rfl,ho0,ho1,ho2,hb⟩
            refine ⟨_,rfl,?_⟩
            have HO462:=zA (Kd.R_lower (Kd.R_new' (Kd.R_new' (Kd.R_new' (Kd.R_new' ho0 (Kd.R_lt (zR HO_7))) (Kd.R_lt (zR HO_449001))) (Kd.R_lt (zR HO_449002))) (Kd.R_lt (zR HO458))) (zW HB))
            have HO465:=zA (Kd.R_lower (Kd.R_new' (Kd.R_new' (Kd.R_new' (Kd.R_new' ho1 (Kd.R_lt (zR HO_7))) (Kd.R_lt (zR HO_449001))) (Kd.R_lt (zR HO_449002))) (Kd.R_lt (zR HO458))) (zW HB))
            have HO470:=zA (Kd.R_lower (Kd.R_new' (Kd.R_new' (Kd.R_new' (Kd.R_new' ho2 (Kd.R_lt (zR HO_7))) (Kd.R_lt (zR HO_449001))) (Kd.R_lt (zR HO_449002))) (Kd.R_lt (zR HO458))) (zW HB))
            replace HO_7:=zA (Kd.R_mono (Kd.R_told (Kd.R_told (Kd.R_told (Kd.R_old (zR HO_7) hb) (Kd.R_base ho0)) (Kd.R_base ho1)) (Kd.R_base ho2)) (fun _ h_ => h_.1))
            replace HO_449001:=zA (Kd.R_mono (Kd.R_told (Kd.R_told (Kd.R_told (Kd.R_old (zR HO_449001) hb) (Kd.R_base ho0)) (Kd.R_base ho1)) (Kd.R_base ho2)) (fun _ h_ => h_.1))
            replace HO_449002:=zA (Kd.R_mono (Kd.R_told (Kd.R_told (Kd.R_told (Kd.R_old (zR HO_449002) hb) (Kd.R_base ho0)) (Kd.R_base ho1)) (Kd.R_base ho2)) (fun _ h_ => h_.1))
            replace HO458:=zA (Kd.R_mono (Kd.R_told (Kd.R_told (Kd.R_told (Kd.R_old (zR HO458) hb) (Kd.R_base ho0)) (Kd.R_base ho1)) (Kd.R_base ho2)) (fun _ h_ => h_.1))
            replace K448:=zB K448 hb
            replace K449:=zB K449 hb
            replace HB:=zS HB hb
            (try clear hb)
            (try clear hb2)
            (try clear hk)
            (try clear hi)
            (try clear ho0)
            (try clear ho1)
            (try clear ho2)
            refine hK.out _ _ ⟨zk K448 0,zk K448 1,zk K448 2,zk K448 3,zk K448 4⟩ (fun hHeld => ?_)
            clear hK K
            refine nz 46 ?_
            refine pz 4 42 #[T,T,T,T,T,F,F,F,F,F,F,F,F,F] HT_.1 ?_
            refine pz 5 47 #[T,T,T,T,T,T,F,F,F,F,F,F,F,F] HT_.1 ?_
            refine pz 6 48 #[T,T,T,T,T,T,T,F,F,F,F,F,F,F] HT_.1 ?_
            refine pz 7 49 #[T,T,T,T,T,T,T,T,F,F,F,F,F,F] HT_.1 ?_
            refine pz 8 50 #[T,T,T,T,T,T,T,T,T,F,F,F,F,F] HT_.1 ?_
            refine one_ (i:=9) (N:=some 9) #[T,T,T,T,T,T,T,T,T,T,F,F,F,F] rfl rfl (one_of HT_.out (by kernel_rfl)) (by decide) (fun K hK => ?_)
            refine zs_ (N:=9) (cs:=#[.int .u64 0,.slice none 0 0,.slice none 0 0,.bool false,.int .i64 0]) (t:=39) ?_
            intro G473 hg w35 hbox hb
            replace HO_7:=zRb HO_7 hb
            replace HO_449001:=zRb HO_449001 hb
            replace HO_449002:=zRb HO_449002 hb
            replace HO458:=zRb HO458 hb
            replace HO462:=zRb HO462 hb
            replace HO465:=zRb HO465 hb
            replace HO470:=zRb HO470 hb
            have K473:=zA (hbox)
            have GW473:=zN HB hg
            have GE473:=zN HB hg
            replace HB:=zS HB hb
            have NB448_473:=zL K448 hg
            have NB473_448:=zG K448 hg
            replace K448:=zB K448 hb
            have NB449_473:=zL K449 hg
            have NB473_449:=zG K449 hg
            replace K449:=zB K449 hb
            clear hb hbox hg
            refine hK.out _ _ ⟨zk K448 0,zk K448 1,zk K448 2,zk K448 3,zk K448 4⟩ (fun hHeld => ?_)
            clear hK K
            refine nz 9 ?_
            exact norm_ (by simp only [putAll,Act.put,xA,xB,xC]) (hCont (.slice Ao33 t456.length co33,v461,v464,v469,G473) _ ⟨hHeld,(by (with_reducible repeat (first|apply Kd.R_alloc|apply Kd.R_drewN|apply Kd.R_drew));exact Kd.R_mono HO458.out (fun _ hk => ⟨hk.1.1.2,⟨hk.1.2,⟨hk.2,⟨hk.1.1.1.1.2,⟨hk.1.1.1.2,hk.1.1.1.1.1.2⟩⟩⟩⟩⟩)),(by (with_reducible repeat (first|apply Kd.R_alloc|apply Kd.R_drewN|apply Kd.R_drew));exact Kd.R_mono HO462.out (fun _ hk => ⟨hk.2,⟨hk.1.1.1.1.1,⟨hk.1.1.1.1.2,⟨hk.1.1.2,⟨hk.1.2,hk.1.1.1.2⟩⟩⟩⟩⟩)),(by (with_reducible repeat (first|apply Kd.R_alloc|apply Kd.R_drewN|apply Kd.R_drew));exact Kd.R_mono HO465.out (fun _ hk => ⟨hk.2,⟨hk.1.1.1.1.1,⟨hk.1.1.1.1.2,⟨hk.1.1.2,⟨hk.1.2,hk.1.1.1.2⟩⟩⟩⟩⟩)),(by (with_reducible repeat (first|apply Kd.R_alloc|apply Kd.R_drewN|apply Kd.R_drew));exact Kd.R_mono HO470.out (fun _ hk => ⟨hk.2,⟨hk.1.1.1.1.1,⟨hk.1.1.1.1.2,⟨hk.1.1.2,⟨hk.1.2,hk.1.1.1.2⟩⟩⟩⟩⟩)),(by (with_reducible repeat (first|apply Kd.R_alloc|apply Kd.R_drewN|apply Kd.R_drew));exact Kd.R_mono HO_449001.out (fun _ hk => ⟨hk.1.1.1.2,⟨hk.1.1.2,⟨hk.1.2,⟨hk.2,⟨hk.1.1.1.1.2,hk.1.1.1.1.1⟩⟩⟩⟩⟩)),(by (with_reducible repeat (first|apply Kd.R_alloc|apply Kd.R_drewN|apply Kd.R_drew));exact Kd.R_mono HO_449002.out (fun _ hk => ⟨hk.1.1.1.2,⟨hk.1.1.2,⟨hk.1.2,⟨hk.2,⟨hk.1.1.1.1.2,hk.1.1.1.1.1⟩⟩⟩⟩⟩)),(by (with_reducible repeat (first|apply Kd.R_alloc|apply Kd.R_drewN|apply Kd.R_drew));exact Kd.R_mono HO_7.out (fun _ hk => ⟨hk.1.1.1.2,⟨hk.1.1.2,⟨hk.1.2,⟨hk.2,⟨hk.1.1.1.1.1,hk.1.1.1.1.2⟩⟩⟩⟩⟩)),(z1 K448.1),(z1 K449.1),(z1 K473.1),GW473.1,GE473.1,NB448_473.1,NB473_448.1,NB449_473.1,NB473_449.1,(zH HB)⟩)
           ·skip
            refine zs_ (N:=9) (cs:=#[.int .u64 0,.slice none 0 0,.slice none 0 0,.bool false,.int .i64 0]) (t:=39) ?_
            intro G473 hg w33 hbox hb
            replace HO_7:=zRb HO_7 hb
            replace HO_449001:=zRb HO_449001 hb
            replace HO_449002:=zRb HO_449002 hb
            replace HO458:=zRb HO458 hb
            have K473:=zA (hbox)
            have GW473:=zN HB hg
            have GE473:=zN HB hg
            replace HB:=zS HB hb
            have NB448_473:=zL K448 hg
            have NB473_448:=zG K448 hg
            replace K448:=zB K448 hb
            have NB449_473:=zL K449 hg
            have NB473_449:=zG K449 hg
            replace K449:=zB K449 hb
            clear hb hbox hg
            obtain ⟨Ao34,co34,eo34⟩:=Kd.R_slice HO458.out
            (first|subst eo34|(injection eo34 with f1_ f2_ f3_;have f4_:=f1_.symm;have f5_:=f3_.symm;clear f1_ f2_ f3_;subst f4_;subst f5_))
            refine hK.out _ _ ⟨zk K448 0,zk K448 1,zk K448 2,zk K448 3,zk K448 4⟩ (fun hHeld => ?_)
            clear hK K
            refine nz 9 ?_
            refine one_ (i:=3) (N:=some 46) #[T,T,T,T,F,F,F,F,F,T,F,F,F,F] rfl rfl (one_of HT_.out (by kernel_rfl)) (by decide) (fun K hK => ?_)
            refine zo_ Try.func19 #[.agg #[.int .u64 x449000_2,.slice Ao29 x449001_2.length co29,.slice Ao30 x449002_2.length co30,.bool x449003_2,.int .i64 x449004_2],.slice Ao34 t456.length co34] ?_
            with_reducible refine (delta_Offer.calls k2 x449000_2 _ _ x449001_2 _ _ x449002_2 x449003_2 x449004_2 _ _ t456 t459 t460 t463 t466 t467 t468 true t472 _ ?side1 ?side2 ?side3 ?side4 ?side5 ?side6 A24.out).mono ?_
            (case side1 => exact zC ((Kd.R_reads' HO_449001.out).2.2))
            (case side2 => exact (Kd.R_reads' HO_449001.out).2.1)
            (case side3 => exact zC ((Kd.R_reads' HO_449002.out).2.2))
            (case side4 => exact (Kd.R_reads' HO_449002.out).2.1)
            (case side5 => exact zC ((Kd.R_reads' HO458.out).2.2))
            (case side6 => exact (Kd.R_reads' HO458.out).2.1)
            rintro e w35 ⟨v461,v464,v469,rfl,ho0,ho1,ho2,hb⟩
            refine ⟨_,rfl,?_⟩
            have HO462:=zA (Kd.R_lower (Kd.R_new' (Kd.R_new' (Kd.R_new' (Kd.R_new' ho0 (Kd.R_lt (zR HO_7))) (Kd.R_lt (zR HO_449001))) (Kd.R_lt (zR HO_449002))) (Kd.R_lt (zR HO458))) (zW HB))
            have HO465:=zA (Kd.R_lower (Kd.R_new' (Kd.R_new' (Kd.R_new' (Kd.R_new' ho1 (Kd.R_lt (zR HO_7))) (Kd.R_lt (zR HO_449001))) (Kd.R_lt (zR HO_449002))) (Kd.R_lt (zR HO458))) (zW HB))
            have HO470:=zA (Kd.R_lower (Kd.R_new' (Kd.R_new' (Kd.R_new' (Kd.R_new' ho2 (Kd.R_lt (zR HO_7))) (Kd.R_lt (zR HO_449001))) (Kd.R_lt (zR HO_449002))) (Kd.R_lt (zR HO458))) (zW HB))
            replace HO_7:=zA (Kd.R_mono (Kd.R_told (Kd.R_told (Kd.R_told (Kd.R_old (zR HO_7) hb) (Kd.R_base ho0)) (Kd.R_base ho1)) (Kd.R_base ho2)) (fun _ h_ => h_.1))
            replace HO_449001:=zA (Kd.R_mono (Kd.R_told (Kd.R_told (Kd.R_told (Kd.R_old (zR HO_449001) hb) (Kd.R_base ho0)) (Kd.R_base ho1)) (Kd.R_base ho2)) (fun _ h_ => h_.1))
            replace HO_449002:=zA (Kd.R_mono (Kd.R_told (Kd.R_told (Kd.R_told (Kd.R_old (zR HO_449002) hb) (Kd.R_base ho0)) (Kd.R_base ho1)) (Kd.R_base ho2)) (fun _ h_ => h_.1))
            replace HO458:=zA (Kd.R_mono (Kd.R_told (Kd.R_told (Kd.R_told (Kd.R_old (zR HO458) hb) (Kd.R_base ho0)) (Kd.R_base ho1)) (Kd.R_base ho2)) (fun _ h_ => h_.1))
            replace K448:=zB K448 hb
            replace K449:=zB K449 hb
            replace K473:=zB K473 hb
            replace HB:=zS HB hb
            (try clear hb)
            (try clear hb2)
            (try clear hk)
            (try clear hi)
            (try clear ho0)
            (try clear ho1)
            (try clear ho2)
            refine hK.out _ _ ⟨zk K448 0,zk K448 1,zk K448 2,zk K448 3,zk K448 4⟩ (fun hHeld => ?_)
            clear hK K
            refine nz 46 ?_
            refine pz 4 42 #[T,T,T,T,T,F,F,F,F,T,F,F,F,F] HT_.1 ?_
            refine pz 5 47 #[T,T,T,T,T,T,F,F,F,T,F,F,F,F] HT_.1 ?_
            refine pz 6 48 #[T,T,T,T,T,T,T,F,F,T,F,F,F,F] HT_.1 ?_
            refine pz 7 49 #[T,T,T,T,T,T,T,T,F,T,F,F,F,F] HT_.1 ?_
            refine pz 8 50 #[T,T,T,T,T,T,T,T,T,T,F,F,F,F] HT_.1 ?_
            exact norm_ (by simp only [putAll,Act.put,xA,xB,xC]) (hCont (.slice Ao34 t456.length co34,v461,v464,v469,G473) _ ⟨hHeld,(by (with_reducible repeat (first|apply Kd.R_alloc|apply Kd.R_drewN|apply Kd.R_drew));exact Kd.R_mono HO458.out (fun _ hk => ⟨hk.1.1.2,⟨hk.1.2,⟨hk.2,⟨hk.1.1.1.1.2,⟨hk.1.1.1.2,hk.1.1.1.1.1.2⟩⟩⟩⟩⟩)),(by (with_reducible repeat (first|apply Kd.R_alloc|apply Kd.R_drewN|apply Kd.R_drew));exact Kd.R_mono HO462.out (fun _ hk => ⟨hk.2,⟨hk.1.1.1.1.1,⟨hk.1.1.1.1.2,⟨hk.1.1.2,⟨hk.1.2,hk.1.1.1.2⟩⟩⟩⟩⟩)),(by (with_reducible repeat (first|apply Kd.R_alloc|apply Kd.R_drewN|apply Kd.R_drew));exact Kd.R_mono HO465.out (fun _ hk => ⟨hk.2,⟨hk.1.1.1.1.1,⟨hk.1.1.1.1.2,⟨hk.1.1.2,⟨hk.1.2,hk.1.1.1.2⟩⟩⟩⟩⟩)),(by (with_reducible repeat (first|apply Kd.R_alloc|apply Kd.R_drewN|apply Kd.R_drew));exact Kd.R_mono HO470.out (fun _ hk => ⟨hk.2,⟨hk.1.1.1.1.1,⟨hk.1.1.1.1.2,⟨hk.1.1.2,⟨hk.1.2,hk.1.1.1.2⟩⟩⟩⟩⟩)),(by (with_reducible repeat (first|apply Kd.R_alloc|apply Kd.R_drewN|apply Kd.R_drew));exact Kd.R_mono HO_449001.out (fun _ hk => ⟨hk.1.1.1.2,⟨hk.1.1.2,⟨hk.1.2,⟨hk.2,⟨hk.1.1.1.1.2,hk.1.1.1.1.1⟩⟩⟩⟩⟩)),(by (with_reducible repeat (first|apply Kd.R_alloc|apply Kd.R_drewN|apply Kd.R_drew));exact Kd.R_mono HO_449002.out (fun _ hk => ⟨hk.1.1.1.2,⟨hk.1.1.2,⟨hk.1.2,⟨hk.2,⟨hk.1.1.1.1.2,hk.1.1.1.1.1⟩⟩⟩⟩⟩)),(by (with_reducible repeat (first|apply Kd.R_alloc|apply Kd.R_drewN|apply Kd.R_drew));exact Kd.R_mono HO_7.out (fun _ hk => ⟨hk.1.1.1.2,⟨hk.1.1.2,⟨hk.1.2,⟨hk.2,⟨hk.1.1.1.1.1,hk.1.1.1.1.2⟩⟩⟩⟩⟩)),(z1 K448.1),(z1 K449.1),(z1 K473.1),GW473.1,GE473.1,NB448_473.1,NB473_448.1,NB449_473.1,NB473_449.1,(zH HB)⟩)
          ·skip
           refine zs_ (N:=9) (cs:=#[.int .u64 0,.slice none 0 0,.slice none 0 0,.bool false,.int .i64 0]) (t:=39) ?_
           intro G473 hg w32 hbox hb
           replace HO_7:=zRb HO_7 hb
           replace HO_449001:=zRb HO_449001 hb
           replace HO_449002:=zRb HO_449002 hb
           have K473:=zA (hbox)
           have GW473:=zN HB hg
           have GE473:=zN HB hg
           replace HB:=zS HB hb
           have NB448_473:=zL K448 hg
           have NB473_448:=zG K448 hg
           replace K448:=zB K448 hb
           have NB449_473:=zL K449 hg
           have NB473_449:=zG K449 hg
           replace K449:=zB K449 hb
           clear hb hbox hg
           refine hK.out _ _ ⟨zk K448 0,zk K448 1,zk K448 2,zk K448 3,zk K448 4⟩ (fun hHeld => ?_)
           clear hK K
           refine nz 9 ?_
           refine one_ (i:=2) (N:=some 45) #[T,T,T,F,F,F,F,F,F,T,F,F,F,F] rfl rfl (one_of HT_.out (by kernel_rfl)) (by decide) (fun K hK => ?_)
           refine zo_ Try.func13 #[.slice A1 l1.length c1] ?_
           with_reducible refine (beaconlaw14_own.calls _ _ l1 t456 _ ?side1 ?side2 A23.out).mono ?_
           (case side1 => exact zC (Kd.C_below HR1.out HB.1))
           (case side2 => exact HC1.out)
           rintro e w33 ⟨v457,rfl,ho0,hb⟩
           refine ⟨_,rfl,?_⟩
           have HO458:=zA (Kd.R_lower (Kd.R_new' (Kd.R_new' (Kd.R_new' ho0 (Kd.R_lt (zR HO_7))) (Kd.R_lt (zR HO_449001))) (Kd.R_lt (zR HO_449002))) (zW HB))
           replace HO_7:=zA (Kd.R_elder' (zR HO_7) (Kd.R_base ho0) hb)
           replace HO_449001:=zA (Kd.R_elder' (zR HO_449001) (Kd.R_base ho0) hb)
           replace HO_449002:=zA (Kd.R_elder' (zR HO_449002) (Kd.R_base ho0) hb)
           replace K448:=zB K448 hb
           replace K449:=zB K449 hb
           replace K473:=zB K473 hb
           replace HB:=zS HB hb
           (try clear hb)
           (try clear hb2)
           (try clear hk)
           (try clear hi)
           (try clear ho0)
           obtain ⟨Ao34,co34,eo34⟩:=Kd.R_slice HO458.out
           (first|subst eo34|(injection eo34 with f1_ f2_ f3_;have f4_:=f1_.symm;have f5_:=f3_.symm;clear f1_ f2_ f3_;subst f4_;subst f5_))
           refine hK.out _ _ ⟨zk K448 0,zk K448 1,zk K448 2,zk K448 3,zk K448 4⟩ (fun hHeld => ?_)
           clear hK K
           refine nz 45 ?_
           refine one_ (i:=3) (N:=some 46) #[T,T,T,T,F,F,F,F,F,T,F,F,F,F] rfl rfl (one_of HT_.out (by kernel_rfl)) (by decide) (fun K hK => ?_)
           refine zo_ Try.func19 #[.agg #[.int .u64 x449000_2,.slice Ao29 x449001_2.length co29,.slice Ao30 x449002_2.length co30,.bool x449003_2,.int .i64 x449004_2],.slice Ao34 t456.length co34] ?_
           with_reducible refine (delta_Offer.calls k2 x449000_2 _ _ x449001_2 _ _ x449002_2 x449003_2 x449004_2 _ _ t456 t459 t460 t463 t466 t467 t468 true t472 _ ?side1 ?side2 ?side3 ?side4 ?side5 ?side6 A24.out).mono ?_
           (case side1 => exact zC ((Kd.R_reads' HO_449001.out).2.2))
           (case side2 => exact (Kd.R_reads' HO_449001.out).2.1)
           (case side3 => exact zC ((Kd.R_reads' HO_449002.out).2.2))
           (case side4 => exact (Kd.R_reads' HO_449002.out).2.1)
           (case side5 => exact zC ((Kd.R_reads' HO458.out).2.2))
           (case side6 => exact (Kd.R_reads' HO458.out).2.1)
           rintro e w35 ⟨v461,v464,v469,rfl,ho0,ho1,ho2,hb⟩
           refine ⟨_,rfl,?_⟩
           have HO462:=zA (Kd.R_lower (Kd.R_new' (Kd.R_new' (Kd.R_new' (Kd.R_new' ho0 (Kd.R_lt (zR HO_7))) (Kd.R_lt (zR HO_449001))) (Kd.R_lt (zR HO_449002))) (Kd.R_lt (zR HO458))) (zW HB))
           have HO465:=zA (Kd.R_lower (Kd.R_new' (Kd.R_new' (Kd.R_new' (Kd.R_new' ho1 (Kd.R_lt (zR HO_7))) (Kd.R_lt (zR HO_449001))) (Kd.R_lt (zR HO_449002))) (Kd.R_lt (zR HO458))) (zW HB))
           have HO470:=zA (Kd.R_lower (Kd.R_new' (Kd.R_new' (Kd.R_new' (Kd.R_new' ho2 (Kd.R_lt (zR HO_7))) (Kd.R_lt (zR HO_449001))) (Kd.R_lt (zR HO_449002))) (Kd.R_lt (zR HO458))) (zW HB))
           replace HO_7:=zA (Kd.R_mono (Kd.R_told (Kd.R_told (Kd.R_told (Kd.R_old (zR HO_7) hb) (Kd.R_base ho0)) (Kd.R_base ho1)) (Kd.R_base ho2)) (fun _ h_ => h_.1))
           replace HO_449001:=zA (Kd.R_mono (Kd.R_told (Kd.R_told (Kd.R_told (Kd.R_old (zR HO_449001) hb) (Kd.R_base ho0)) (Kd.R_base ho1)) (Kd.R_base ho2)) (fun _ h_ => h_.1))
           replace HO_449002:=zA (Kd.R_mono (Kd.R_told (Kd.R_told (Kd.R_told (Kd.R_old (zR HO_449002) hb) (Kd.R_base ho0)) (Kd.R_base ho1)) (Kd.R_base ho2)) (fun _ h_ => h_.1))
           replace HO458:=zA (Kd.R_mono (Kd.R_told (Kd.R_told (Kd.R_told (Kd.R_old (zR HO458) hb) (Kd.R_base ho0)) (Kd.R_base ho1)) (Kd.R_base ho2)) (fun _ h_ => h_.1))
           replace K448:=zB K448 hb
           replace K449:=zB K449 hb
           replace K473:=zB K473 hb
           replace HB:=zS HB hb
           (try clear hb)
           (try clear hb2)
           (try clear hk)
           (try clear hi)
           (try clear ho0)
           (try clear ho1)
           (try clear ho2)
           refine hK.out _ _ ⟨zk K448 0,zk K448 1,zk K448 2,zk K448 3,zk K448 4⟩ (fun hHeld => ?_)
           clear hK K
           refine nz 46 ?_
           refine pz 4 42 #[T,T,T,T,T,F,F,F,F,T,F,F,F,F] HT_.1 ?_
           refine pz 5 47 #[T,T,T,T,T,T,F,F,F,T,F,F,F,F] HT_.1 ?_
           refine pz 6 48 #[T,T,T,T,T,T,T,F,F,T,F,F,F,F] HT_.1 ?_
           refine pz 7 49 #[T,T,T,T,T,T,T,T,F,T,F,F,F,F] HT_.1 ?_
           refine pz 8 50 #[T,T,T,T,T,T,T,T,T,T,F,F,F,F] HT_.1 ?_
           exact norm_ (by simp only [putAll,Act.put,xA,xB,xC]) (hCont (.slice Ao34 t456.length co34,v461,v464,v469,G473) _ ⟨hHeld,(by (with_reducible repeat (first|apply Kd.R_alloc|apply Kd.R_drewN|apply Kd.R_drew));exact Kd.R_mono HO458.out (fun _ hk => ⟨hk.1.1.2,⟨hk.1.2,⟨hk.2,⟨hk.1.1.1.1.2,⟨hk.1.1.1.2,hk.1.1.1.1.1.2⟩⟩⟩⟩⟩)),(by (with_reducible repeat (first|apply Kd.R_alloc|apply Kd.R_drewN|apply Kd.R_drew));exact Kd.R_mono HO462.out (fun _ hk => ⟨hk.2,⟨hk.1.1.1.1.1,⟨hk.1.1.1.1.2,⟨hk.1.1.2,⟨hk.1.2,hk.1.1.1.2⟩⟩⟩⟩⟩)),(by (with_reducible repeat (first|apply Kd.R_alloc|apply Kd.R_drewN|apply Kd.R_drew));exact Kd.R_mono HO465.out (fun _ hk => ⟨hk.2,⟨hk.1.1.1.1.1,⟨hk.1.1.1.1.2,⟨hk.1.1.2,⟨hk.1.2,hk.1.1.1.2⟩⟩⟩⟩⟩)),(by (with_reducible repeat (first|apply Kd.R_alloc|apply Kd.R_drewN|apply Kd.R_drew));exact Kd.R_mono HO470.out (fun _ hk => ⟨hk.2,⟨hk.1.1.1.1.1,⟨hk.1.1.1.1.2,⟨hk.1.1.2,⟨hk.1.2,hk.1.1.1.2⟩⟩⟩⟩⟩)),(by (with_reducible repeat (first|apply Kd.R_alloc|apply Kd.R_drewN|apply Kd.R_drew));exact Kd.R_mono HO_449001.out (fun _ hk => ⟨hk.1.1.1.2,⟨hk.1.1.2,⟨hk.1.2,⟨hk.2,⟨hk.1.1.1.1.2,hk.1.1.1.1.1⟩⟩⟩⟩⟩)),(by (with_reducible repeat (first|apply Kd.R_alloc|apply Kd.R_drewN|apply Kd.R_drew));exact Kd.R_mono HO_449002.out (fun _ hk => ⟨hk.1.1.1.2,⟨hk.1.1.2,⟨hk.1.2,⟨hk.2,⟨hk.1.1.1.1.2,hk.1.1.1.1.1⟩⟩⟩⟩⟩)),(by (with_reducible repeat (first|apply Kd.R_alloc|apply Kd.R_drewN|apply Kd.R_drew));exact Kd.R_mono HO_7.out (fun _ hk => ⟨hk.1.1.1.2,⟨hk.1.1.2,⟨hk.1.2,⟨hk.2,⟨hk.1.1.1.1.1,hk.1.1.1.1.2⟩⟩⟩⟩⟩)),(z1 K448.1),(z1 K449.1),(z1 K473.1),GW473.1,GE473.1,NB448_473.1,NB473_448.1,NB449_473.1,NB473_449.1,(zH HB)⟩)
         rintro ⟨v457,v461,v464,v469,G473⟩ w36 ⟨hS_,h0_,h1_,h2_,h3_,h4_,h5_,h6_,h7_,h8_,h9_,h10_,h11_,h12_,h13_,h14_,h15_,h16_⟩
         have HO458 : Aside0 (Kd.R k61 61 w36 w.heap.size (fun k_ => some k_ ≠ (v461 : Value).ownBlock ∧ some k_ ≠ (v464 : Value).ownBlock ∧ some k_ ≠ (v469 : Value).ownBlock ∧ some k_ ≠ (.slice Ao29 x449001_2.length co29 : Value).ownBlock ∧ some k_ ≠ (.slice Ao30 x449002_2.length co30 : Value).ownBlock ∧ some k_ ≠ (u7 : Value).ownBlock) v457 t456):=⟨h0_⟩
         have HO462 : Aside0 (Kd.R k61 61 w36 w.heap.size (fun k_ => some k_ ≠ (v457 : Value).ownBlock ∧ some k_ ≠ (v464 : Value).ownBlock ∧ some k_ ≠ (v469 : Value).ownBlock ∧ some k_ ≠ (.slice Ao29 x449001_2.length co29 : Value).ownBlock ∧ some k_ ≠ (.slice Ao30 x449002_2.length co30 : Value).ownBlock ∧ some k_ ≠ (u7 : Value).ownBlock) v461 t460):=⟨h1_⟩
         have HO465 : Aside0 (Kd.R k61 61 w36 w.heap.size (fun k_ => some k_ ≠ (v457 : Value).ownBlock ∧ some k_ ≠ (v461 : Value).ownBlock ∧ some k_ ≠ (v469 : Value).ownBlock ∧ some k_ ≠ (.slice Ao29 x449001_2.length co29 : Value).ownBlock ∧ some k_ ≠ (.slice Ao30 x449002_2.length co30 : Value).ownBlock ∧ some k_ ≠ (u7 : Value).ownBlock) v464 t463):=⟨h2_⟩
         have HO470 : Aside0 (Kd.R k61 61 w36 w.heap.size (fun k_ => some k_ ≠ (v457 : Value).ownBlock ∧ some k_ ≠ (v461 : Value).ownBlock ∧ some k_ ≠ (v464 : Value).ownBlock ∧ some k_ ≠ (.slice Ao29 x449001_2.length co29 : Value).ownBlock ∧ some k_ ≠ (.slice Ao30 x449002_2.length co30 : Value).ownBlock ∧ some k_ ≠ (u7 : Value).ownBlock) v469 t468):=⟨h3_⟩
         replace HO_449001 : Aside0 (Kd.R k61 61 w36 w.heap.size (fun k_ => some k_ ≠ (v457 : Value).ownBlock ∧ some k_ ≠ (v461 : Value).ownBlock ∧ some k_ ≠ (v464 : Value).ownBlock ∧ some k_ ≠ (v469 : Value).ownBlock ∧ some k_ ≠ (.slice Ao30 x449002_2.length co30 : Value).ownBlock ∧ some k_ ≠ (u7 : Value).ownBlock) (.slice Ao29 x449001_2.length co29) x449001_2):=⟨h4_⟩
         replace HO_449002 : Aside0 (Kd.R k61 61 w36 w.heap.size (fun k_ => some k_ ≠ (v457 : Value).ownBlock ∧ some k_ ≠ (v461 : Value).ownBlock ∧ some k_ ≠ (v464 : Value).ownBlock ∧ some k_ ≠ (v469 : Value).ownBlock ∧ some k_ ≠ (.slice Ao29 x449001_2.length co29 : Value).ownBlock ∧ some k_ ≠ (u7 : Value).ownBlock) (.slice Ao30 x449002_2.length co30) x449002_2):=⟨h5_⟩
         replace HO_7 : Aside0 (Kd.R k61 61 w36 w.heap.size (fun k_ => some k_ ≠ (v457 : Value).ownBlock ∧ some k_ ≠ (v461 : Value).ownBlock ∧ some k_ ≠ (v464 : Value).ownBlock ∧ some k_ ≠ (v469 : Value).ownBlock ∧ some k_ ≠ (.slice Ao29 x449001_2.length co29 : Value).ownBlock ∧ some k_ ≠ (.slice Ao30 x449002_2.length co30 : Value).ownBlock) u7 x7_2):=⟨h6_⟩
         replace K448 : Aside0 (w36.heap[G448]? = some (.cells #[.int .u64 x449000_2,.slice Ao29 x449001_2.length co29,.slice Ao30 x449002_2.length co30,.bool x449003_2,.int .i64 x449004_2] 39 (0,0))):=⟨h7_⟩
         replace K449 : Aside0 (w36.heap[G449]? = some (.cells #[.int .u64 x450000_2] 24 (0,0))):=⟨h8_⟩
         have K473 : Aside0 (w36.heap[G473]? = some (.cells #[.int .u64 0,.slice none 0 0,.slice none 0 0,.bool false,.int .i64 0] 39 (0,0))):=⟨h9_⟩
         have GW473 : Aside0 (w.heap.size ≤ G473):=⟨h10_⟩
         have GE473 : Aside0 (w.heap.size ≤ G473):=⟨h11_⟩
         have NB448_473 : Aside0 (G448 ≠ G473):=⟨h12_⟩
         have NB473_448 : Aside0 (G473 ≠ G448):=⟨h13_⟩
         have NB449_473 : Aside0 (G449 ≠ G473):=⟨h14_⟩
         have NB473_449 : Aside0 (G473 ≠ G449):=⟨h15_⟩
         replace HB : Aside0 (Below w.heap.size w w36):=⟨h16_⟩
         clear h0_ h10_ h11_ h12_ h13_ h14_ h15_ h16_ h1_ h2_ h3_ h4_ h5_ h6_ h7_ h8_ h9_
         have hHeld : w36.cell? ⟨G448,0,none⟩ = some (.int .u64 x449000_2) ∧ w36.cell? ⟨G448,1,none⟩ = some (.slice Ao29 x449001_2.length co29) ∧ w36.cell? ⟨G448,2,none⟩ = some (.slice Ao30 x449002_2.length co30) ∧ w36.cell? ⟨G448,3,none⟩ = some (.bool x449003_2) ∧ w36.cell? ⟨G448,4,none⟩ = some (.int .i64 x449004_2):=hS_
         obtain ⟨Ao38,co38,eo38⟩:=Kd.R_slice HO462.out
         (first|subst eo38|(injection eo38 with f1_ f2_ f3_;have f4_:=f1_.symm;have f5_:=f3_.symm;clear f1_ f2_ f3_;subst f4_;subst f5_))
         obtain ⟨Ao40,co40,eo40⟩:=Kd.R_slice HO465.out
         (first|subst eo40|(injection eo40 with f1_ f2_ f3_;have f4_:=f1_.symm;have f5_:=f3_.symm;clear f1_ f2_ f3_;subst f4_;subst f5_))
         refine norm_ (a':=?_) ?_ ?_
         rotate_left
         ·simp only [putAll,Act.put,xA,xB,xC]
          rfl
         refine one_ (i:=10) (N:=none) #[T,T,T,T,T,T,T,T,T,T,T,F,F,F] rfl rfl (one_of HT_.out (by kernel_rfl)) (by decide) (fun K hK => ?_)
         have hs37 : w36.cell? ⟨G473,0,none⟩ = some (.int .u64 0):=zk K473 0
         have hfs37:=bF K473.1 0
         have:=NB448_473.1
         have:=NB449_473.1
         have:=NB473_448.1
         have:=NB473_449.1
         have hs39 : w36.cell? ⟨G473,1,none⟩ = some (.slice none 0 0):=zk K473 1
         have hfs39:=bF K473.1 1
         have hs41 : w36.cell? ⟨G473,2,none⟩ = some (.slice none 0 0):=zk K473 2
         have hfs41:=bF K473.1 2
         have hs42 : w36.cell? ⟨G473,3,none⟩ = some (.bool false):=zk K473 3
         have hfs42:=bF K473.1 3
         have hs43 : w36.cell? ⟨G473,4,none⟩ = some (.int .i64 0):=zk K473 4
         have hfs43:=bF K473.1 4
         refine sz ?_
         refine hK.out _ _ ⟨(zx (hHeld.1) NB448_473.1),(zx (hHeld.2.1) NB448_473.1),(zx (hHeld.2.2.1) NB448_473.1),(zx (hHeld.2.2.2.1) NB448_473.1),(zx (hHeld.2.2.2.2) NB448_473.1)⟩ (fun hHeld => ?_)
         clear hK K
         refine pz 11 10 #[T,T,T,T,T,T,T,T,T,T,T,T,F,F] HT_.1 ?_
         refine pz 12 11 #[T,T,T,T,T,T,T,T,T,T,T,T,T,F] HT_.1 ?_
         refine pz 13 12 #[T,T,T,T,T,T,T,T,T,T,T,T,T,T] HT_.1 ?_
         refine done_ (done_of HT_.out (by kernel_rfl)) ?_
         obtain ⟨hcz46_0,hcz46_1,hcz46_2,hcz46_3,hcz46_4,hfz46_0,hfz46_1,hfz46_2,hfz46_3,hfz46_4⟩:=zc5 K473
         have:=NB448_449.1
         have:=NB449_448.1
         obtain ⟨hcz48_0,hcz48_1,hcz48_2,hcz48_3,hcz48_4,hfz48_0,hfz48_1,hfz48_2,hfz48_3,hfz48_4⟩:=zc5 K448
         go_upto_region 16 with (first|((with_reducible refine gate_store (t:=39) (p:=5) rfl ?_);refine store_event (t:=39) (p:=5) (v:=?vo_w49) (w1:=((((((((((w36.setCell ⟨G473,0,none⟩ (.int .u64 t459)).setCell ⟨G473,1,none⟩ (.slice Ao38 t460.length co38)).setCell ⟨G473,2,none⟩ (.slice Ao40 t463.length co40)).setCell ⟨G473,3,none⟩ (.bool t466)).setCell ⟨G473,4,none⟩ (.int .i64 t467)).setCell ⟨G448,0,none⟩ (.int .u64 t459)).setCell ⟨G448,1,none⟩ (.slice Ao38 t460.length co38)).setCell ⟨G448,2,none⟩ (.slice Ao40 t463.length co40)).setCell ⟨G448,3,none⟩ (.bool t466)).setCell ⟨G448,4,none⟩ (.int .i64 t467))) ?hg ?ho ?hn ?hr ?_;(case ho => rfl);(case hg => rfl);(case hn => rfl);(case hr => first|(go_simp;done)|(go_simp;rfl));intro w49 hw;replace HO_7 : Aside0 (Kd.R k61 61 w49 w.heap.size (fun k_ => some k_ ≠ (.slice Ao29 x449001_2.length co29 : Value).ownBlock ∧ some k_ ≠ (.slice Ao30 x449002_2.length co30 : Value).ownBlock ∧ some k_ ≠ (v457 : Value).ownBlock ∧ some k_ ≠ (.slice Ao38 t460.length co38 : Value).ownBlock ∧ some k_ ≠ (.slice Ao40 t463.length co40 : Value).ownBlock ∧ some k_ ≠ (v469 : Value).ownBlock) u7 x7_2):=⟨(by rw [hw];exact (by (with_reducible repeat (first|apply Kd.R_alloc|apply Kd.R_drewN|apply Kd.R_drew));exact Kd.R_mono (Kd.R_far (p:=⟨G448,4,none⟩) (Kd.R_far (p:=⟨G448,3,none⟩) (Kd.R_far (p:=⟨G448,2,none⟩) (Kd.R_far (p:=⟨G448,1,none⟩) (Kd.R_far (p:=⟨G448,0,none⟩) (Kd.R_far (p:=⟨G473,4,none⟩) (Kd.R_far (p:=⟨G473,3,none⟩) (Kd.R_far (p:=⟨G473,2,none⟩) (Kd.R_far (p:=⟨G473,1,none⟩) (Kd.R_far (p:=⟨G473,0,none⟩) (Kd.R_types (Kd.R_types HO_7.out K473.1 (by decide)) K448.1 (by decide)) (fun _ hk => hk.1.2) (.int .u64 t459)) (fun _ hk => hk.1.2) (.slice Ao38 t460.length co38)) (fun _ hk => hk.1.2) (.slice Ao40 t463.length co40)) (fun _ hk => hk.1.2) (.bool t466)) (fun _ hk => hk.1.2) (.int .i64 t467)) (fun _ hk => hk.2) (.int .u64 t459)) (fun _ hk => hk.2) (.slice Ao38 t460.length co38)) (fun _ hk => hk.2) (.slice Ao40 t463.length co40)) (fun _ hk => hk.2) (.bool t466)) (fun _ hk => hk.2) (.int .i64 t467)) (fun _ hk => ⟨hk.1.1.2.2.2.2.1,⟨hk.1.1.2.2.2.2.2,⟨hk.1.1.1,⟨hk.1.1.2.1,⟨hk.1.1.2.2.1,hk.1.1.2.2.2.1⟩⟩⟩⟩⟩)))⟩;replace HO_449001 : Aside0 (Kd.R k61 61 w49 w.heap.size (fun k_ => some k_ ≠ (u7 : Value).ownBlock ∧ some k_ ≠ (.slice Ao30 x449002_2.length co30 : Value).ownBlock ∧ some k_ ≠ (v457 : Value).ownBlock ∧ some k_ ≠ (.slice Ao38 t460.length co38 : Value).ownBlock ∧ some k_ ≠ (.slice Ao40 t463.length co40 : Value).ownBlock ∧ some k_ ≠ (v469 : Value).ownBlock) (.slice Ao29 x449001_2.length co29) x449001_2):=⟨(by rw [hw];exact (by (with_reducible repeat (first|apply Kd.R_alloc|apply Kd.R_drewN|apply Kd.R_drew));exact Kd.R_mono (Kd.R_far (p:=⟨G448,4,none⟩) (Kd.R_far (p:=⟨G448,3,none⟩) (Kd.R_far (p:=⟨G448,2,none⟩) (Kd.R_far (p:=⟨G448,1,none⟩) (Kd.R_far (p:=⟨G448,0,none⟩) (Kd.R_far (p:=⟨G473,4,none⟩) (Kd.R_far (p:=⟨G473,3,none⟩) (Kd.R_far (p:=⟨G473,2,none⟩) (Kd.R_far (p:=⟨G473,1,none⟩) (Kd.R_far (p:=⟨G473,0,none⟩) (Kd.R_types (Kd.R_types HO_449001.out K473.1 (by decide)) K448.1 (by decide)) (fun _ hk => hk.1.2) (.int .u64 t459)) (fun _ hk => hk.1.2) (.slice Ao38 t460.length co38)) (fun _ hk => hk.1.2) (.slice Ao40 t463.length co40)) (fun _ hk => hk.1.2) (.bool t466)) (fun _ hk => hk.1.2) (.int .i64 t467)) (fun _ hk => hk.2) (.int .u64 t459)) (fun _ hk => hk.2) (.slice Ao38 t460.length co38)) (fun _ hk => hk.2) (.slice Ao40 t463.length co40)) (fun _ hk => hk.2) (.bool t466)) (fun _ hk => hk.2) (.int .i64 t467)) (fun _ hk => ⟨hk.1.1.2.2.2.2.2,⟨hk.1.1.2.2.2.2.1,⟨hk.1.1.1,⟨hk.1.1.2.1,⟨hk.1.1.2.2.1,hk.1.1.2.2.2.1⟩⟩⟩⟩⟩)))⟩;replace HO_449002 : Aside0 (Kd.R k61 61 w49 w.heap.size (fun k_ => some k_ ≠ (u7 : Value).ownBlock ∧ some k_ ≠ (.slice Ao29 x449001_2.length co29 : Value).ownBlock ∧ some k_ ≠ (v457 : Value).ownBlock ∧ some k_ ≠ (.slice Ao38 t460.length co38 : Value).ownBlock ∧ some k_ ≠ (.slice Ao40 t463.length co40 : Value).ownBlock ∧ some k_ ≠ (v469 : Value).ownBlock) (.slice Ao30 x449002_2.length co30) x449002_2):=⟨(by rw [hw];exact (by (with_reducible repeat (first|apply Kd.R_alloc|apply Kd.R_drewN|apply Kd.R_drew));exact Kd.R_mono (Kd.R_far (p:=⟨G448,4,none⟩) (Kd.R_far (p:=⟨G448,3,none⟩) (Kd.R_far (p:=⟨G448,2,none⟩) (Kd.R_far (p:=⟨G448,1,none⟩) (Kd.R_far (p:=⟨G448,0,none⟩) (Kd.R_far (p:=⟨G473,4,none⟩) (Kd.R_far (p:=⟨G473,3,none⟩) (Kd.R_far (p:=⟨G473,2,none⟩) (Kd.R_far (p:=⟨G473,1,none⟩) (Kd.R_far (p:=⟨G473,0,none⟩) (Kd.R_types (Kd.R_types HO_449002.out K473.1 (by decide)) K448.1 (by decide)) (fun _ hk => hk.1.2) (.int .u64 t459)) (fun _ hk => hk.1.2) (.slice Ao38 t460.length co38)) (fun _ hk => hk.1.2) (.slice Ao40 t463.length co40)) (fun _ hk => hk.1.2) (.bool t466)) (fun _ hk => hk.1.2) (.int .i64 t467)) (fun _ hk => hk.2) (.int .u64 t459)) (fun _ hk => hk.2) (.slice Ao38 t460.length co38)) (fun _ hk => hk.2) (.slice Ao40 t463.length co40)) (fun _ hk => hk.2) (.bool t466)) (fun _ hk => hk.2) (.int .i64 t467)) (fun _ hk => ⟨hk.1.1.2.2.2.2.2,⟨hk.1.1.2.2.2.2.1,⟨hk.1.1.1,⟨hk.1.1.2.1,⟨hk.1.1.2.2.1,hk.1.1.2.2.2.1⟩⟩⟩⟩⟩)))⟩;replace HO458 : Aside0 (Kd.R k61 61 w49 w.heap.size (fun k_ => some k_ ≠ (u7 : Value).ownBlock ∧ some k_ ≠ (.slice Ao29 x449001_2.length co29 : Value).ownBlock ∧ some k_ ≠ (.slice Ao30 x449002_2.length co30 : Value).ownBlock ∧ some k_ ≠ (.slice Ao38 t460.length co38 : Value).ownBlock ∧ some k_ ≠ (.slice Ao40 t463.length co40 : Value).ownBlock ∧ some k_ ≠ (v469 : Value).ownBlock) v457 t456):=⟨(by rw [hw];exact (by (with_reducible repeat (first|apply Kd.R_alloc|apply Kd.R_drewN|apply Kd.R_drew));exact Kd.R_mono (Kd.R_far (p:=⟨G448,4,none⟩) (Kd.R_far (p:=⟨G448,3,none⟩) (Kd.R_far (p:=⟨G448,2,none⟩) (Kd.R_far (p:=⟨G448,1,none⟩) (Kd.R_far (p:=⟨G448,0,none⟩) (Kd.R_far (p:=⟨G473,4,none⟩) (Kd.R_far (p:=⟨G473,3,none⟩) (Kd.R_far (p:=⟨G473,2,none⟩) (Kd.R_far (p:=⟨G473,1,none⟩) (Kd.R_far (p:=⟨G473,0,none⟩) (Kd.R_types (Kd.R_types HO458.out K473.1 (by decide)) K448.1 (by decide)) (fun _ hk => hk.1.2) (.int .u64 t459)) (fun _ hk => hk.1.2) (.slice Ao38 t460.length co38)) (fun _ hk => hk.1.2) (.slice Ao40 t463.length co40)) (fun _ hk => hk.1.2) (.bool t466)) (fun _ hk => hk.1.2) (.int .i64 t467)) (fun _ hk => hk.2) (.int .u64 t459)) (fun _ hk => hk.2) (.slice Ao38 t460.length co38)) (fun _ hk => hk.2) (.slice Ao40 t463.length co40)) (fun _ hk => hk.2) (.bool t466)) (fun _ hk => hk.2) (.int .i64 t467)) (fun _ hk => ⟨hk.1.1.2.2.2.2.2,⟨hk.1.1.2.2.2.1,⟨hk.1.1.2.2.2.2.1,⟨hk.1.1.1,⟨hk.1.1.2.1,hk.1.1.2.2.1⟩⟩⟩⟩⟩)))⟩;replace HO462 : Aside0 (Kd.R k61 61 w49 w.heap.size (fun k_ => some k_ ≠ (u7 : Value).ownBlock ∧ some k_ ≠ (.slice Ao29 x449001_2.length co29 : Value).ownBlock ∧ some k_ ≠ (.slice Ao30 x449002_2.length co30 : Value).ownBlock ∧ some k_ ≠ (v457 : Value).ownBlock ∧ some k_ ≠ (.slice Ao40 t463.length co40 : Value).ownBlock ∧ some k_ ≠ (v469 : Value).ownBlock) (.slice Ao38 t460.length co38) t460):=⟨(by rw [hw];exact (by (with_reducible repeat (first|apply Kd.R_alloc|apply Kd.R_drewN|apply Kd.R_drew));exact Kd.R_mono (Kd.R_far (p:=⟨G448,4,none⟩) (Kd.R_far (p:=⟨G448,3,none⟩) (Kd.R_far (p:=⟨G448,2,none⟩) (Kd.R_far (p:=⟨G448,1,none⟩) (Kd.R_far (p:=⟨G448,0,none⟩) (Kd.R_far (p:=⟨G473,4,none⟩) (Kd.R_far (p:=⟨G473,3,none⟩) (Kd.R_far (p:=⟨G473,2,none⟩) (Kd.R_far (p:=⟨G473,1,none⟩) (Kd.R_far (p:=⟨G473,0,none⟩) (Kd.R_types (Kd.R_types HO462.out K473.1 (by decide)) K448.1 (by decide)) (fun _ hk => hk.1.2) (.int .u64 t459)) (fun _ hk => hk.1.2) (.slice Ao38 t460.length co38)) (fun _ hk => hk.1.2) (.slice Ao40 t463.length co40)) (fun _ hk => hk.1.2) (.bool t466)) (fun _ hk => hk.1.2) (.int .i64 t467)) (fun _ hk => hk.2) (.int .u64 t459)) (fun _ hk => hk.2) (.slice Ao38 t460.length co38)) (fun _ hk => hk.2) (.slice Ao40 t463.length co40)) (fun _ hk => hk.2) (.bool t466)) (fun _ hk => hk.2) (.int .i64 t467)) (fun _ hk => ⟨hk.1.1.2.2.2.2.2,⟨hk.1.1.2.2.2.1,⟨hk.1.1.2.2.2.2.1,⟨hk.1.1.1,⟨hk.1.1.2.1,hk.1.1.2.2.1⟩⟩⟩⟩⟩)))⟩;replace HO465 : Aside0 (Kd.R k61 61 w49 w.heap.size (fun k_ => some k_ ≠ (u7 : Value).ownBlock ∧ some k_ ≠ (.slice Ao29 x449001_2.length co29 : Value).ownBlock ∧ some k_ ≠ (.slice Ao30 x449002_2.length co30 : Value).ownBlock ∧ some k_ ≠ (v457 : Value).ownBlock ∧ some k_ ≠ (.slice Ao38 t460.length co38 : Value).ownBlock ∧ some k_ ≠ (v469 : Value).ownBlock) (.slice Ao40 t463.length co40) t463):=⟨(by rw [hw];exact (by (with_reducible repeat (first|apply Kd.R_alloc|apply Kd.R_drewN|apply Kd.R_drew));exact Kd.R_mono (Kd.R_far (p:=⟨G448,4,none⟩) (Kd.R_far (p:=⟨G448,3,none⟩) (Kd.R_far (p:=⟨G448,2,none⟩) (Kd.R_far (p:=⟨G448,1,none⟩) (Kd.R_far (p:=⟨G448,0,none⟩) (Kd.R_far (p:=⟨G473,4,none⟩) (Kd.R_far (p:=⟨G473,3,none⟩) (Kd.R_far (p:=⟨G473,2,none⟩) (Kd.R_far (p:=⟨G473,1,none⟩) (Kd.R_far (p:=⟨G473,0,none⟩) (Kd.R_types (Kd.R_types HO465.out K473.1 (by decide)) K448.1 (by decide)) (fun _ hk => hk.1.2) (.int .u64 t459)) (fun _ hk => hk.1.2) (.slice Ao38 t460.length co38)) (fun _ hk => hk.1.2) (.slice Ao40 t463.length co40)) (fun _ hk => hk.1.2) (.bool t466)) (fun _ hk => hk.1.2) (.int .i64 t467)) (fun _ hk => hk.2) (.int .u64 t459)) (fun _ hk => hk.2) (.slice Ao38 t460.length co38)) (fun _ hk => hk.2) (.slice Ao40 t463.length co40)) (fun _ hk => hk.2) (.bool t466)) (fun _ hk => hk.2) (.int .i64 t467)) (fun _ hk => ⟨hk.1.1.2.2.2.2.2,⟨hk.1.1.2.2.2.1,⟨hk.1.1.2.2.2.2.1,⟨hk.1.1.1,⟨hk.1.1.2.1,hk.1.1.2.2.1⟩⟩⟩⟩⟩)))⟩;replace HO470 : Aside0 (Kd.R k61 61 w49 w.heap.size (fun k_ => some k_ ≠ (u7 : Value).ownBlock ∧ some k_ ≠ (.slice Ao29 x449001_2.length co29 : Value).ownBlock ∧ some k_ ≠ (.slice Ao30 x449002_2.length co30 : Value).ownBlock ∧ some k_ ≠ (v457 : Value).ownBlock ∧ some k_ ≠ (.slice Ao38 t460.length co38 : Value).ownBlock ∧ some k_ ≠ (.slice Ao40 t463.length co40 : Value).ownBlock) v469 t468):=⟨(by rw [hw];exact (by (with_reducible repeat (first|apply Kd.R_alloc|apply Kd.R_drewN|apply Kd.R_drew));exact Kd.R_mono (Kd.R_far (p:=⟨G448,4,none⟩) (Kd.R_far (p:=⟨G448,3,none⟩) (Kd.R_far (p:=⟨G448,2,none⟩) (Kd.R_far (p:=⟨G448,1,none⟩) (Kd.R_far (p:=⟨G448,0,none⟩) (Kd.R_far (p:=⟨G473,4,none⟩) (Kd.R_far (p:=⟨G473,3,none⟩) (Kd.R_far (p:=⟨G473,2,none⟩) (Kd.R_far (p:=⟨G473,1,none⟩) (Kd.R_far (p:=⟨G473,0,none⟩) (Kd.R_types (Kd.R_types HO470.out K473.1 (by decide)) K448.1 (by decide)) (fun _ hk => hk.1.2) (.int .u64 t459)) (fun _ hk => hk.1.2) (.slice Ao38 t460.length co38)) (fun _ hk => hk.1.2) (.slice Ao40 t463.length co40)) (fun _ hk => hk.1.2) (.bool t466)) (fun _ hk => hk.1.2) (.int .i64 t467)) (fun _ hk => hk.2) (.int .u64 t459)) (fun _ hk => hk.2) (.slice Ao38 t460.length co38)) (fun _ hk => hk.2) (.slice Ao40 t463.length co40)) (fun _ hk => hk.2) (.bool t466)) (fun _ hk => hk.2) (.int .i64 t467)) (fun _ hk => ⟨hk.1.1.2.2.2.2.2,⟨hk.1.1.2.2.2.1,⟨hk.1.1.2.2.2.2.1,⟨hk.1.1.1,⟨hk.1.1.2.1,hk.1.1.2.2.1⟩⟩⟩⟩⟩)))⟩;replace K448:=zVp hw (.cells #[.int .u64 t459,.slice Ao38 t460.length co38,.slice Ao40 t463.length co40,.bool t466,.int .i64 t467] 39 (0,0)) K448;replace K449:=zV hw K449;replace K473:=zVp hw (.cells #[.int .u64 t459,.slice Ao38 t460.length co38,.slice Ao40 t463.length co40,.bool t466,.int .i64 t467] 39 (0,0)) K473;replace HB:=zU hw HB;clear hw;have hcz50_0 : w49.cell? ⟨G449,0,none⟩ = some (.int .u64 x450000_2):=zk K449 0;have hfz50_0:=bF K449.1 0;obtain ⟨hcz51_0,hcz51_1,hcz51_2,hcz51_3,hcz51_4,hfz51_0,hfz51_1,hfz51_2,hfz51_3,hfz51_4⟩:=zc5 K448)|((with_reducible refine gate_callee (f:=9) rfl ?_);refine zg (some 60) Try.func9 #[.agg #[.int .u64 x450000_2],.int .u64 t459] ?_;(with_reducible refine (delta_Take.calls x450000_2 t459 t477 t478 t479 _ A27.out).mono ?_);rintro e w52 ⟨rfl,hb⟩;refine ⟨_,rfl,?_⟩;replace HO_7:=zRb HO_7 hb;replace HO_449001:=zRb HO_449001 hb;replace HO_449002:=zRb HO_449002 hb;replace HO458:=zRb HO458 hb;replace HO462:=zRb HO462 hb;replace HO465:=zRb HO465 hb;replace HO470:=zRb HO470 hb;replace K448:=zB K448 hb;replace K449:=zB K449 hb;replace K473:=zB K473 hb;replace HB:=zS HB hb;(try clear hb))|((with_reducible refine gate_dst (N:=13) rfl ?_);refine zb (N:=13) (cs:=#[.int .u64 0]) (t:=24) ?_;intro G480 hg w53 hbox hb;replace HO_7:=zRb HO_7 hb;replace HO_449001:=zRb HO_449001 hb;replace HO_449002:=zRb HO_449002 hb;replace HO458:=zRb HO458 hb;replace HO462:=zRb HO462 hb;replace HO465:=zRb HO465 hb;replace HO470:=zRb HO470 hb;have K480:=zA (hbox);have GW480:=zN HB hg;have GE480:=zN HB hg;replace HB:=zS HB hb;have NB448_480:=zL K448 hg;have NB480_448:=zG K448 hg;replace K448:=zB K448 hb;have NB449_480:=zL K449 hg;have NB480_449:=zG K449 hg;replace K449:=zB K449 hb;have NB473_480:=zL K473 hg;have NB480_473:=zG K473 hg;replace K473:=zB K473 hb;clear hb hbox hg;have:=NB480_448.1;have:=NB448_480.1;have:=NB480_449.1;have:=NB449_480.1;have:=NB480_473.1;have:=NB473_480.1;have hcz57_0 : w53.cell? ⟨G480,0,none⟩ = some (.int .u64 0):=zk K480 0;have hfz57_0:=bF K480.1 0;have hcz58_0 : w53.cell? ⟨G449,0,none⟩ = some (.int .u64 x450000_2):=zk K449 0;have hfz58_0:=bF K449.1 0))
         (try simp only [Act.put,xA,xB,xC])
         go_cut [70] (fun v70 wc => ∃ (kq : Nat) (x70_27 : Bool),v70 = .bool x70_27 ∧ Aside0 (beaconlaw14_DeltaEnds.j2 kq l1 x7_2 x8_2 t468 x70_27 t459 t460 t463 t466 t467 t477 = some r) ∧ Aside0 (kq ≤ k2) ∧ Aside0 (Kd.R k61 61 wc w.heap.size (fun k_ => some k_ ≠ (v469 : Value).ownBlock ∧ some k_ ≠ ((.slice Ao38 t460.length co38) : Value).ownBlock ∧ some k_ ≠ ((.slice Ao40 t463.length co40) : Value).ownBlock ∧ some k_ ≠ ((.slice Ao38 t460.length co38) : Value).ownBlock ∧ some k_ ≠ ((.slice Ao40 t463.length co40) : Value).ownBlock) u7 x7_2) ∧ Aside0 (Kd.R k61 61 wc w.heap.size (fun k_ => some k_ ≠ (u7 : Value).ownBlock ∧ some k_ ≠ ((.slice Ao38 t460.length co38) : Value).ownBlock ∧ some k_ ≠ ((.slice Ao40 t463.length co40) : Value).ownBlock ∧ some k_ ≠ ((.slice Ao38 t460.length co38) : Value).ownBlock ∧ some k_ ≠ ((.slice Ao40 t463.length co40) : Value).ownBlock) v469 t468) ∧ Aside0 (Kd.R k61 61 wc w.heap.size (fun k_ => some k_ ≠ (u7 : Value).ownBlock ∧ some k_ ≠ (v469 : Value).ownBlock ∧ some k_ ≠ ((.slice Ao40 t463.length co40) : Value).ownBlock ∧ some k_ ≠ ((.slice Ao40 t463.length co40) : Value).ownBlock) (.slice Ao38 t460.length co38) t460) ∧ Aside0 (Kd.R k61 61 wc w.heap.size (fun k_ => some k_ ≠ (u7 : Value).ownBlock ∧ some k_ ≠ (v469 : Value).ownBlock ∧ some k_ ≠ ((.slice Ao38 t460.length co38) : Value).ownBlock ∧ some k_ ≠ ((.slice Ao38 t460.length co38) : Value).ownBlock) (.slice Ao40 t463.length co40) t463) ∧ Aside0 (Kd.R k61 61 wc w.heap.size (fun k_ => some k_ ≠ (u7 : Value).ownBlock ∧ some k_ ≠ (v469 : Value).ownBlock ∧ some k_ ≠ ((.slice Ao40 t463.length co40) : Value).ownBlock ∧ some k_ ≠ ((.slice Ao40 t463.length co40) : Value).ownBlock) (.slice Ao38 t460.length co38) t460) ∧ Aside0 (Kd.R k61 61 wc w.heap.size (fun k_ => some k_ ≠ (u7 : Value).ownBlock ∧ some k_ ≠ (v469 : Value).ownBlock ∧ some k_ ≠ ((.slice Ao38 t460.length co38) : Value).ownBlock ∧ some k_ ≠ ((.slice Ao38 t460.length co38) : Value).ownBlock) (.slice Ao40 t463.length co40) t463) ∧ Aside0 (wc.heap[G448]? = some (.cells #[.int .u64 t459,(.slice Ao38 t460.length co38),(.slice Ao40 t463.length co40),.bool t466,.int .i64 t467] 39 (0,0))) ∧ Aside0 (wc.heap[G449]? = some (.cells #[.int .u64 t477] 24 (0,0))) ∧ Aside0 (wc.heap[G473]? = some (.cells #[.int .u64 t459,(.slice Ao38 t460.length co38),(.slice Ao40 t463.length co40),.bool t466,.int .i64 t467] 39 (0,0))) ∧ Aside0 (wc.heap[G480]? = some (.cells #[.int .u64 t477] 24 (0,0))) ∧ Aside0 (Below w.heap.size w wc))
         case first =>
          have H:=HC28.out
          clear HC28
          by_cases c59 : t478 = true
          ·subst c59
           rw [if_pos rfl] at H
           have H':=zA H
           clear H
           go_wp2
           go_meet
           case rel => exact ⟨_,(!t479),ze,H',⟨by have:=HJ2.out;have:=HK2.out;first|omega|exact Nat.le_refl _⟩,⟨by (with_reducible repeat (first|apply Kd.R_alloc|apply Kd.R_drewN|apply Kd.R_drew));exact Kd.R_mono (Kd.R_far (p:=⟨G449,0,none⟩) (Kd.R_far (p:=⟨G480,0,none⟩) (Kd.R_types (Kd.R_types HO_7.out K480.1 (by decide)) K449.1 (by decide)) (fun _ hk => hk.1.2) (.int .u64 t477)) (fun _ hk => hk.2) (.int .u64 t477)) (fun _ hk => ⟨hk.1.1.2.2.2.2.2,⟨hk.1.1.2.2.2.1,⟨hk.1.1.2.2.2.2.1,⟨hk.1.1.2.2.2.1,hk.1.1.2.2.2.2.1⟩⟩⟩⟩)⟩,⟨by (with_reducible repeat (first|apply Kd.R_alloc|apply Kd.R_drewN|apply Kd.R_drew));exact Kd.R_mono (Kd.R_far (p:=⟨G449,0,none⟩) (Kd.R_far (p:=⟨G480,0,none⟩) (Kd.R_types (Kd.R_types HO470.out K480.1 (by decide)) K449.1 (by decide)) (fun _ hk => hk.1.2) (.int .u64 t477)) (fun _ hk => hk.2) (.int .u64 t477)) (fun _ hk => ⟨hk.1.1.1,⟨hk.1.1.2.2.2.2.1,⟨hk.1.1.2.2.2.2.2,⟨hk.1.1.2.2.2.2.1,hk.1.1.2.2.2.2.2⟩⟩⟩⟩)⟩,⟨by (with_reducible repeat (first|apply Kd.R_alloc|apply Kd.R_drewN|apply Kd.R_drew));exact Kd.R_mono (Kd.R_far (p:=⟨G449,0,none⟩) (Kd.R_far (p:=⟨G480,0,none⟩) (Kd.R_types (Kd.R_types HO462.out K480.1 (by decide)) K449.1 (by decide)) (fun _ hk => hk.1.2) (.int .u64 t477)) (fun _ hk => hk.2) (.int .u64 t477)) (fun _ hk => ⟨hk.1.1.1,⟨hk.1.1.2.2.2.2.2,⟨hk.1.1.2.2.2.2.1,hk.1.1.2.2.2.2.1⟩⟩⟩)⟩,⟨by (with_reducible repeat (first|apply Kd.R_alloc|apply Kd.R_drewN|apply Kd.R_drew));exact Kd.R_mono (Kd.R_far (p:=⟨G449,0,none⟩) (Kd.R_far (p:=⟨G480,0,none⟩) (Kd.R_types (Kd.R_types HO465.out K480.1 (by decide)) K449.1 (by decide)) (fun _ hk => hk.1.2) (.int .u64 t477)) (fun _ hk => hk.2) (.int .u64 t477)) (fun _ hk => ⟨hk.1.1.1,⟨hk.1.1.2.2.2.2.2,⟨hk.1.1.2.2.2.2.1,hk.1.1.2.2.2.2.1⟩⟩⟩)⟩,⟨by (with_reducible repeat (first|apply Kd.R_alloc|apply Kd.R_drewN|apply Kd.R_drew));exact Kd.R_mono (Kd.R_far (p:=⟨G449,0,none⟩) (Kd.R_far (p:=⟨G480,0,none⟩) (Kd.R_types (Kd.R_types HO462.out K480.1 (by decide)) K449.1 (by decide)) (fun _ hk => hk.1.2) (.int .u64 t477)) (fun _ hk => hk.2) (.int .u64 t477)) (fun _ hk => ⟨hk.1.1.1,⟨hk.1.1.2.2.2.2.2,⟨hk.1.1.2.2.2.2.1,hk.1.1.2.2.2.2.1⟩⟩⟩)⟩,⟨by (with_reducible repeat (first|apply Kd.R_alloc|apply Kd.R_drewN|apply Kd.R_drew));exact Kd.R_mono (Kd.R_far (p:=⟨G449,0,none⟩) (Kd.R_far (p:=⟨G480,0,none⟩) (Kd.R_types (Kd.R_types HO465.out K480.1 (by decide)) K449.1 (by decide)) (fun _ hk => hk.1.2) (.int .u64 t477)) (fun _ hk => hk.2) (.int .u64 t477)) (fun _ hk => ⟨hk.1.1.1,⟨hk.1.1.2.2.2.2.2,⟨hk.1.1.2.2.2.2.1,hk.1.1.2.2.2.2.1⟩⟩⟩)⟩,⟨zf K448⟩,⟨zF K449⟩,⟨zf K473⟩,⟨zF K480⟩,⟨zH HB⟩⟩
          ·replace c59:=Bool.eq_false_iff.mpr c59
           subst c59
           rw [if_neg (show ¬ (false = true) by decide)] at H
           have H':=zA H
           clear H
           go_wp2
           go_meet
           case rel => exact ⟨_,(true),ze,H',⟨by have:=HJ2.out;have:=HK2.out;first|omega|exact Nat.le_refl _⟩,⟨by (with_reducible repeat (first|apply Kd.R_alloc|apply Kd.R_drewN|apply Kd.R_drew));exact Kd.R_mono (Kd.R_far (p:=⟨G449,0,none⟩) (Kd.R_far (p:=⟨G480,0,none⟩) (Kd.R_types (Kd.R_types HO_7.out K480.1 (by decide)) K449.1 (by decide)) (fun _ hk => hk.1.2) (.int .u64 t477)) (fun _ hk => hk.2) (.int .u64 t477)) (fun _ hk => ⟨hk.1.1.2.2.2.2.2,⟨hk.1.1.2.2.2.1,⟨hk.1.1.2.2.2.2.1,⟨hk.1.1.2.2.2.1,hk.1.1.2.2.2.2.1⟩⟩⟩⟩)⟩,⟨by (with_reducible repeat (first|apply Kd.R_alloc|apply Kd.R_drewN|apply Kd.R_drew));exact Kd.R_mono (Kd.R_far (p:=⟨G449,0,none⟩) (Kd.R_far (p:=⟨G480,0,none⟩) (Kd.R_types (Kd.R_types HO470.out K480.1 (by decide)) K449.1 (by decide)) (fun _ hk => hk.1.2) (.int .u64 t477)) (fun _ hk => hk.2) (.int .u64 t477)) (fun _ hk => ⟨hk.1.1.1,⟨hk.1.1.2.2.2.2.1,⟨hk.1.1.2.2.2.2.2,⟨hk.1.1.2.2.2.2.1,hk.1.1.2.2.2.2.2⟩⟩⟩⟩)⟩,⟨by (with_reducible repeat (first|apply Kd.R_alloc|apply Kd.R_drewN|apply Kd.R_drew));exact Kd.R_mono (Kd.R_far (p:=⟨G449,0,none⟩) (Kd.R_far (p:=⟨G480,0,none⟩) (Kd.R_types (Kd.R_types HO462.out K480.1 (by decide)) K449.1 (by decide)) (fun _ hk => hk.1.2) (.int .u64 t477)) (fun _ hk => hk.2) (.int .u64 t477)) (fun _ hk => ⟨hk.1.1.1,⟨hk.1.1.2.2.2.2.2,⟨hk.1.1.2.2.2.2.1,hk.1.1.2.2.2.2.1⟩⟩⟩)⟩,⟨by (with_reducible repeat (first|apply Kd.R_alloc|apply Kd.R_drewN|apply Kd.R_drew));exact Kd.R_mono (Kd.R_far (p:=⟨G449,0,none⟩) (Kd.R_far (p:=⟨G480,0,none⟩) (Kd.R_types (Kd.R_types HO465.out K480.1 (by decide)) K449.1 (by decide)) (fun _ hk => hk.1.2) (.int .u64 t477)) (fun _ hk => hk.2) (.int .u64 t477)) (fun _ hk => ⟨hk.1.1.1,⟨hk.1.1.2.2.2.2.2,⟨hk.1.1.2.2.2.2.1,hk.1.1.2.2.2.2.1⟩⟩⟩)⟩,⟨by (with_reducible repeat (first|apply Kd.R_alloc|apply Kd.R_drewN|apply Kd.R_drew));exact Kd.R_mono (Kd.R_far (p:=⟨G449,0,none⟩) (Kd.R_far (p:=⟨G480,0,none⟩) (Kd.R_types (Kd.R_types HO462.out K480.1 (by decide)) K449.1 (by decide)) (fun _ hk => hk.1.2) (.int .u64 t477)) (fun _ hk => hk.2) (.int .u64 t477)) (fun _ hk => ⟨hk.1.1.1,⟨hk.1.1.2.2.2.2.2,⟨hk.1.1.2.2.2.2.1,hk.1.1.2.2.2.2.1⟩⟩⟩)⟩,⟨by (with_reducible repeat (first|apply Kd.R_alloc|apply Kd.R_drewN|apply Kd.R_drew));exact Kd.R_mono (Kd.R_far (p:=⟨G449,0,none⟩) (Kd.R_far (p:=⟨G480,0,none⟩) (Kd.R_types (Kd.R_types HO465.out K480.1 (by decide)) K449.1 (by decide)) (fun _ hk => hk.1.2) (.int .u64 t477)) (fun _ hk => hk.2) (.int .u64 t477)) (fun _ hk => ⟨hk.1.1.1,⟨hk.1.1.2.2.2.2.2,⟨hk.1.1.2.2.2.2.1,hk.1.1.2.2.2.2.1⟩⟩⟩)⟩,⟨zf K448⟩,⟨zF K449⟩,⟨zf K473⟩,⟨zF K480⟩,⟨zH HB⟩⟩
         case rest =>
          clear HC28
          try clear c1;try clear hcz46_0;try clear hcz46_1;try clear hcz46_2;try clear hcz46_3;try clear hcz46_4;try clear hcz48_0;try clear hcz48_1;try clear hcz48_2;try clear hcz48_3;try clear hcz48_4;try clear hcz50_0;try clear hcz51_0;try clear hcz51_1;try clear hcz51_2;try clear hcz51_3;try clear hcz51_4;try clear hcz57_0;try clear hcz58_0;try clear hfz46_0;try clear hfz46_1;try clear hfz46_2;try clear hfz46_3;try clear hfz46_4;try clear hfz48_0;try clear hfz48_1;try clear hfz48_2;try clear hfz48_3;try clear hfz48_4;try clear hfz50_0;try clear hfz51_0;try clear hfz51_1;try clear hfz51_2;try clear hfz51_3;try clear hfz51_4;try clear hfz57_0;try clear hfz58_0
          obtain ⟨kq,x70_27,rfl,HA,HJ27,HO_7,HO_10,HO_449001,HO_449002,HO_474001,HO_474002,K448,K449,K473,K480,HB⟩:=hcut
          cases kq with
          | zero => exact absurd HA.out (by simp [beaconlaw14_DeltaEnds.j2])
          | succ kj27 =>
           have H:=HA.out
           clear HA
           simp only [beaconlaw14_DeltaEnds.j2] at H
           by_cases c60 : x70_27 = true
           ·subst c60
            rw [if_pos rfl] at H
            exact absurd ((Option.some.inj H).trans HR_.out) (by decide)
           ·replace c60:=Bool.eq_false_iff.mpr c60
            subst c60
            rw [if_neg (show ¬ (false = true) by decide)] at H
            replace H:=Option.bind_eq_some_iff.mp H
            obtain ⟨⟨t481,t482⟩,A610,H⟩:=H
            (try dsimp only at H)
            have A61:=zA A610
            clear A610
            replace H:=Option.bind_eq_some_iff.mp H
            obtain ⟨⟨t485,t486,t489,t492,t493,t494⟩,A620,H⟩:=H
            (try dsimp only at H)
            have A62:=zA A620
            clear A620
            have H':=zA H
            clear H
            obtain ⟨Ao63,co63,eo63⟩:=Kd.R_slice HO_7.out
            subst eo63
            obtain ⟨Ao64,co64,eo64⟩:=Kd.R_slice HO_10.out
            subst eo64
            go_wp2_with (first|((with_reducible refine gate_callee (f:=16) rfl ?_);refine zg (some 74) Try.func16 #[.slice Ao63 x7_2.length co63,.slice Ao64 t468.length co64] ?_;(with_reducible refine (beaconref14_Merge.calls kj27 _ _ x7_2 _ _ t468 t481 t482 _ ?side1 ?side2 ?side3 ?side4 A61.out).mono ?_);(case side1 => exact zC ((Kd.R_reads' HO_7.out).2.2));(case side2 => exact (Kd.R_reads' HO_7.out).2.1);(case side3 => exact zC ((Kd.R_reads' HO_10.out).2.2));(case side4 => exact (Kd.R_reads' HO_10.out).2.1);rintro e w65 ⟨v483,rfl,ho0,hb⟩;refine ⟨_,rfl,?_⟩;have HO484:=zA (Kd.R_lower (Kd.R_new' (Kd.R_new' (Kd.R_new' (Kd.R_new' (Kd.R_new' (Kd.R_new' ho0 (Kd.R_lt (zR HO_7))) (Kd.R_lt (zR HO_10))) (Kd.R_lt (zR HO_449001))) (Kd.R_lt (zR HO_449002))) (Kd.R_lt (zR HO_474001))) (Kd.R_lt (zR HO_474002))) (zW HB));replace HO_7:=zA (Kd.R_elder' (zR HO_7) (Kd.R_base ho0) hb);replace HO_10:=zA (Kd.R_elder' (zR HO_10) (Kd.R_base ho0) hb);replace HO_449001:=zA (Kd.R_elder' (zR HO_449001) (Kd.R_base ho0) hb);replace HO_449002:=zA (Kd.R_elder' (zR HO_449002) (Kd.R_base ho0) hb);replace HO_474001:=zA (Kd.R_elder' (zR HO_474001) (Kd.R_base ho0) hb);replace HO_474002:=zA (Kd.R_elder' (zR HO_474002) (Kd.R_base ho0) hb);replace K448:=zB K448 hb;replace K449:=zB K449 hb;replace K473:=zB K473 hb;replace K480:=zB K480 hb;replace HB:=zS HB hb;(try clear hb);(try clear ho0);have:=NB448_449.1;have:=NB449_448.1;have:=NB448_473.1;have:=NB473_448.1;have:=NB448_480.1;have:=NB480_448.1;obtain ⟨hcz69_0,hcz69_1,hcz69_2,hcz69_3,hcz69_4,hfz69_0,hfz69_1,hfz69_2,hfz69_3,hfz69_4⟩:=zc5 K448)|((with_reducible refine gate_callee (f:=20) rfl ?_);refine zg (some 81) Try.func20 #[.agg #[.int .u64 t459,.slice Ao38 t460.length co38,.slice Ao40 t463.length co40,.bool t466,.int .i64 t467],.int .u64 t459] ?_;(with_reducible refine (delta_Acked.calls t459 _ _ t460 _ _ t463 t466 t467 t459 t485 t486 t489 t492 t493 t494 _ ?side1 ?side2 ?side3 ?side4 A62.out).mono ?_);(case side1 => exact zC ((Kd.R_reads' HO_449001.out).2.2));(case side2 => exact (Kd.R_reads' HO_449001.out).2.1);(case side3 => exact zC ((Kd.R_reads' HO_449002.out).2.2));(case side4 => exact (Kd.R_reads' HO_449002.out).2.1);rintro e w70 ⟨v487,v490,rfl,ho0,ho1,hb⟩;refine ⟨_,rfl,?_⟩;have HO488:=zA (Kd.R_lower (Kd.R_new' (Kd.R_new' (Kd.R_new' (Kd.R_new' (Kd.R_new' (Kd.R_new' (Kd.R_new' ho0 (Kd.R_lt (zR HO_7))) (Kd.R_lt (zR HO_10))) (Kd.R_lt (zR HO_449001))) (Kd.R_lt (zR HO_449002))) (Kd.R_lt (zR HO_474001))) (Kd.R_lt (zR HO_474002))) (Kd.R_lt (zR HO484))) (zW HB));have HO491:=zA (Kd.R_lower (Kd.R_new' (Kd.R_new' (Kd.R_new' (Kd.R_new' (Kd.R_new' (Kd.R_new' (Kd.R_new' ho1 (Kd.R_lt (zR HO_7))) (Kd.R_lt (zR HO_10))) (Kd.R_lt (zR HO_449001))) (Kd.R_lt (zR HO_449002))) (Kd.R_lt (zR HO_474001))) (Kd.R_lt (zR HO_474002))) (Kd.R_lt (zR HO484))) (zW HB));replace HO_7:=zA (Kd.R_mono (Kd.R_told (Kd.R_told (Kd.R_old (zR HO_7) hb) (Kd.R_base ho0)) (Kd.R_base ho1)) (fun _ h_ => h_.1));replace HO_10:=zA (Kd.R_mono (Kd.R_told (Kd.R_told (Kd.R_old (zR HO_10) hb) (Kd.R_base ho0)) (Kd.R_base ho1)) (fun _ h_ => h_.1));replace HO_449001:=zA (Kd.R_mono (Kd.R_told (Kd.R_told (Kd.R_old (zR HO_449001) hb) (Kd.R_base ho0)) (Kd.R_base ho1)) (fun _ h_ => h_.1));replace HO_449002:=zA (Kd.R_mono (Kd.R_told (Kd.R_told (Kd.R_old (zR HO_449002) hb) (Kd.R_base ho0)) (Kd.R_base ho1)) (fun _ h_ => h_.1));replace HO_474001:=zA (Kd.R_mono (Kd.R_told (Kd.R_told (Kd.R_old (zR HO_474001) hb) (Kd.R_base ho0)) (Kd.R_base ho1)) (fun _ h_ => h_.1));replace HO_474002:=zA (Kd.R_mono (Kd.R_told (Kd.R_told (Kd.R_old (zR HO_474002) hb) (Kd.R_base ho0)) (Kd.R_base ho1)) (fun _ h_ => h_.1));replace HO484:=zA (Kd.R_mono (Kd.R_told (Kd.R_told (Kd.R_old (zR HO484) hb) (Kd.R_base ho0)) (Kd.R_base ho1)) (fun _ h_ => h_.1));replace K448:=zB K448 hb;replace K449:=zB K449 hb;replace K473:=zB K473 hb;replace K480:=zB K480 hb;replace HB:=zS HB hb;(try clear hb);(try clear ho0);(try clear ho1);obtain ⟨hcz71_0,hcz71_1,hcz71_2,hcz71_3,hcz71_4,hfz71_0,hfz71_1,hfz71_2,hfz71_3,hfz71_4⟩:=zc5 K448;obtain ⟨Ao72,co72,eo72⟩:=Kd.R_slice HO488.out;subst eo72;obtain ⟨Ao73,co73,eo73⟩:=Kd.R_slice HO491.out;subst eo73)|((with_reducible refine gate_store (t:=39) (p:=5) rfl ?_);refine store_event (t:=39) (p:=5) (v:=?vo_w74) (w1:=(((((w70.setCell ⟨G448,0,none⟩ (.int .u64 t485)).setCell ⟨G448,1,none⟩ (.slice Ao72 t486.length co72)).setCell ⟨G448,2,none⟩ (.slice Ao73 t489.length co73)).setCell ⟨G448,3,none⟩ (.bool t492)).setCell ⟨G448,4,none⟩ (.int .i64 t493))) ?hg ?ho ?hn ?hr ?_;(case ho => rfl);(case hg => rfl);(case hn => rfl);(case hr => first|(go_simp;done)|(go_simp;rfl));intro w74 hw;replace HO_7 : Aside0 (Kd.R k61 61 w74 w.heap.size (fun k_ => some k_ ≠ (.slice Ao64 t468.length co64 : Value).ownBlock ∧ some k_ ≠ (.slice Ao38 t460.length co38 : Value).ownBlock ∧ some k_ ≠ (.slice Ao40 t463.length co40 : Value).ownBlock ∧ some k_ ≠ (.slice Ao38 t460.length co38 : Value).ownBlock ∧ some k_ ≠ (.slice Ao40 t463.length co40 : Value).ownBlock ∧ some k_ ≠ (v483 : Value).ownBlock ∧ some k_ ≠ (.slice Ao72 t486.length co72 : Value).ownBlock ∧ some k_ ≠ (.slice Ao73 t489.length co73 : Value).ownBlock) (.slice Ao63 x7_2.length co63) x7_2):=⟨(by rw [hw];exact (zRf HO_7 K448 (fun _ hk => ⟨hk.1.1.1.1.1,⟨hk.1.1.1.1.2.1,⟨hk.1.1.1.1.2.2.1,⟨hk.1.1.1.1.2.2.2.1,⟨hk.1.1.1.1.2.2.2.2,⟨hk.1.1.1.2,⟨hk.1.1.2,hk.1.2⟩⟩⟩⟩⟩⟩⟩)))⟩;replace HO_10 : Aside0 (Kd.R k61 61 w74 w.heap.size (fun k_ => some k_ ≠ (.slice Ao63 x7_2.length co63 : Value).ownBlock ∧ some k_ ≠ (.slice Ao38 t460.length co38 : Value).ownBlock ∧ some k_ ≠ (.slice Ao40 t463.length co40 : Value).ownBlock ∧ some k_ ≠ (.slice Ao38 t460.length co38 : Value).ownBlock ∧ some k_ ≠ (.slice Ao40 t463.length co40 : Value).ownBlock ∧ some k_ ≠ (v483 : Value).ownBlock ∧ some k_ ≠ (.slice Ao72 t486.length co72 : Value).ownBlock ∧ some k_ ≠ (.slice Ao73 t489.length co73 : Value).ownBlock) (.slice Ao64 t468.length co64) t468):=⟨(by rw [hw];exact (zRf HO_10 K448 (fun _ hk => ⟨hk.1.1.1.1.1,⟨hk.1.1.1.1.2.1,⟨hk.1.1.1.1.2.2.1,⟨hk.1.1.1.1.2.2.2.1,⟨hk.1.1.1.1.2.2.2.2,⟨hk.1.1.1.2,⟨hk.1.1.2,hk.1.2⟩⟩⟩⟩⟩⟩⟩)))⟩;replace HO_449001 : Aside0 (Kd.R k61 61 w74 w.heap.size (fun k_ => some k_ ≠ (.slice Ao63 x7_2.length co63 : Value).ownBlock ∧ some k_ ≠ (.slice Ao64 t468.length co64 : Value).ownBlock ∧ some k_ ≠ (.slice Ao40 t463.length co40 : Value).ownBlock ∧ some k_ ≠ (.slice Ao40 t463.length co40 : Value).ownBlock ∧ some k_ ≠ (v483 : Value).ownBlock ∧ some k_ ≠ (.slice Ao72 t486.length co72 : Value).ownBlock ∧ some k_ ≠ (.slice Ao73 t489.length co73 : Value).ownBlock) (.slice Ao38 t460.length co38) t460):=⟨(by rw [hw];exact (zRf HO_449001 K448 (fun _ hk => ⟨hk.1.1.1.1.1,⟨hk.1.1.1.1.2.1,⟨hk.1.1.1.1.2.2.1,⟨hk.1.1.1.1.2.2.2,⟨hk.1.1.1.2,⟨hk.1.1.2,hk.1.2⟩⟩⟩⟩⟩⟩)))⟩;replace HO_449002 : Aside0 (Kd.R k61 61 w74 w.heap.size (fun k_ => some k_ ≠ (.slice Ao63 x7_2.length co63 : Value).ownBlock ∧ some k_ ≠ (.slice Ao64 t468.length co64 : Value).ownBlock ∧ some k_ ≠ (.slice Ao38 t460.length co38 : Value).ownBlock ∧ some k_ ≠ (.slice Ao38 t460.length co38 : Value).ownBlock ∧ some k_ ≠ (v483 : Value).ownBlock ∧ some k_ ≠ (.slice Ao72 t486.length co72 : Value).ownBlock ∧ some k_ ≠ (.slice Ao73 t489.length co73 : Value).ownBlock) (.slice Ao40 t463.length co40) t463):=⟨(by rw [hw];exact (zRf HO_449002 K448 (fun _ hk => ⟨hk.1.1.1.1.1,⟨hk.1.1.1.1.2.1,⟨hk.1.1.1.1.2.2.1,⟨hk.1.1.1.1.2.2.2,⟨hk.1.1.1.2,⟨hk.1.1.2,hk.1.2⟩⟩⟩⟩⟩⟩)))⟩;replace HO_474001 : Aside0 (Kd.R k61 61 w74 w.heap.size (fun k_ => some k_ ≠ (.slice Ao63 x7_2.length co63 : Value).ownBlock ∧ some k_ ≠ (.slice Ao64 t468.length co64 : Value).ownBlock ∧ some k_ ≠ (.slice Ao40 t463.length co40 : Value).ownBlock ∧ some k_ ≠ (.slice Ao40 t463.length co40 : Value).ownBlock ∧ some k_ ≠ (v483 : Value).ownBlock ∧ some k_ ≠ (.slice Ao72 t486.length co72 : Value).ownBlock ∧ some k_ ≠ (.slice Ao73 t489.length co73 : Value).ownBlock) (.slice Ao38 t460.length co38) t460):=⟨(by rw [hw];exact (zRf HO_474001 K448 (fun _ hk => ⟨hk.1.1.1.1.1,⟨hk.1.1.1.1.2.1,⟨hk.1.1.1.1.2.2.1,⟨hk.1.1.1.1.2.2.2,⟨hk.1.1.1.2,⟨hk.1.1.2,hk.1.2⟩⟩⟩⟩⟩⟩)))⟩;replace HO_474002 : Aside0 (Kd.R k61 61 w74 w.heap.size (fun k_ => some k_ ≠ (.slice Ao63 x7_2.length co63 : Value).ownBlock ∧ some k_ ≠ (.slice Ao64 t468.length co64 : Value).ownBlock ∧ some k_ ≠ (.slice Ao38 t460.length co38 : Value).ownBlock ∧ some k_ ≠ (.slice Ao38 t460.length co38 : Value).ownBlock ∧ some k_ ≠ (v483 : Value).ownBlock ∧ some k_ ≠ (.slice Ao72 t486.length co72 : Value).ownBlock ∧ some k_ ≠ (.slice Ao73 t489.length co73 : Value).ownBlock) (.slice Ao40 t463.length co40) t463):=⟨(by rw [hw];exact (zRf HO_474002 K448 (fun _ hk => ⟨hk.1.1.1.1.1,⟨hk.1.1.1.1.2.1,⟨hk.1.1.1.1.2.2.1,⟨hk.1.1.1.1.2.2.2,⟨hk.1.1.1.2,⟨hk.1.1.2,hk.1.2⟩⟩⟩⟩⟩⟩)))⟩;replace HO484 : Aside0 (Kd.R k61 61 w74 w.heap.size (fun k_ => some k_ ≠ (.slice Ao63 x7_2.length co63 : Value).ownBlock ∧ some k_ ≠ (.slice Ao64 t468.length co64 : Value).ownBlock ∧ some k_ ≠ (.slice Ao38 t460.length co38 : Value).ownBlock ∧ some k_ ≠ (.slice Ao40 t463.length co40 : Value).ownBlock ∧ some k_ ≠ (.slice Ao38 t460.length co38 : Value).ownBlock ∧ some k_ ≠ (.slice Ao40 t463.length co40 : Value).ownBlock ∧ some k_ ≠ (.slice Ao72 t486.length co72 : Value).ownBlock ∧ some k_ ≠ (.slice Ao73 t489.length co73 : Value).ownBlock) v483 t481):=⟨(by rw [hw];exact (zRf HO484 K448 (fun _ hk => ⟨hk.1.1.1.1.1.1.1.1.2,⟨hk.1.1.1.1.1.1.1.2,⟨hk.1.1.1.1.1.1.2,⟨hk.1.1.1.1.1.2,⟨hk.1.1.1.1.2,⟨hk.1.1.1.2,⟨hk.1.1.2,hk.1.2⟩⟩⟩⟩⟩⟩⟩)))⟩;replace HO488 : Aside0 (Kd.R k61 61 w74 w.heap.size (fun k_ => some k_ ≠ (.slice Ao63 x7_2.length co63 : Value).ownBlock ∧ some k_ ≠ (.slice Ao64 t468.length co64 : Value).ownBlock ∧ some k_ ≠ (.slice Ao38 t460.length co38 : Value).ownBlock ∧ some k_ ≠ (.slice Ao40 t463.length co40 : Value).ownBlock ∧ some k_ ≠ (.slice Ao38 t460.length co38 : Value).ownBlock ∧ some k_ ≠ (.slice Ao40 t463.length co40 : Value).ownBlock ∧ some k_ ≠ (v483 : Value).ownBlock ∧ some k_ ≠ (.slice Ao73 t489.length co73 : Value).ownBlock) (.slice Ao72 t486.length co72) t486):=⟨(by rw [hw];exact (zRf HO488 K448 (fun _ hk => ⟨hk.1.1.1.1.1.1.1.2,⟨hk.1.1.1.1.1.1.2,⟨hk.1.1.1.1.1.2,⟨hk.1.1.1.1.2,⟨hk.1.1.1.2,⟨hk.1.1.2,⟨hk.1.2,hk.1.1.1.1.1.1.1.1⟩⟩⟩⟩⟩⟩⟩)))⟩;replace HO491 : Aside0 (Kd.R k61 61 w74 w.heap.size (fun k_ => some k_ ≠ (.slice Ao63 x7_2.length co63 : Value).ownBlock ∧ some k_ ≠ (.slice Ao64 t468.length co64 : Value).ownBlock ∧ some k_ ≠ (.slice Ao38 t460.length co38 : Value).ownBlock ∧ some k_ ≠ (.slice Ao40 t463.length co40 : Value).ownBlock ∧ some k_ ≠ (.slice Ao38 t460.length co38 : Value).ownBlock ∧ some k_ ≠ (.slice Ao40 t463.length co40 : Value).ownBlock ∧ some k_ ≠ (v483 : Value).ownBlock ∧ some k_ ≠ (.slice Ao72 t486.length co72 : Value).ownBlock) (.slice Ao73 t489.length co73) t489):=⟨(by rw [hw];exact (zRf HO491 K448 (fun _ hk => ⟨hk.1.1.1.1.1.1.1.2,⟨hk.1.1.1.1.1.1.2,⟨hk.1.1.1.1.1.2,⟨hk.1.1.1.1.2,⟨hk.1.1.1.2,⟨hk.1.1.2,⟨hk.1.2,hk.1.1.1.1.1.1.1.1⟩⟩⟩⟩⟩⟩⟩)))⟩;replace K448:=zVp hw (.cells #[.int .u64 t485,.slice Ao72 t486.length co72,.slice Ao73 t489.length co73,.bool t492,.int .i64 t493] 39 (0,0)) K448;replace K449:=zV hw K449;replace K473:=zV hw K473;replace K480:=zV hw K480;replace HB:=zU hw HB;clear hw))
            go_roundg kj27
            case measure => have:=HJ2.out;have:=HK2.out;have:=HJ27.out;omega
            case rel => exact ⟨(t481),(wrap64 (x8_2 - 1)),(t485),(t486),(t489),(t492),(t493),(t477),(.slice Ao72 t486.length co72),(.slice Ao73 t489.length co73),ze,H',⟨by have:=HJ2.out;have:=HK2.out;have:=HJ27.out;omega⟩,⟨by (with_reducible repeat (first|apply Kd.R_alloc|apply Kd.R_drewN|apply Kd.R_drew));exact Kd.R_mono HO484.out (fun _ hk => ⟨hk.2.2.2.2.2.2.1,hk.2.2.2.2.2.2.2⟩)⟩,⟨by (with_reducible repeat (first|apply Kd.R_alloc|apply Kd.R_drewN|apply Kd.R_drew));exact Kd.R_mono HO488.out (fun _ hk => ⟨hk.2.2.2.2.2.2.1,hk.2.2.2.2.2.2.2⟩)⟩,⟨by (with_reducible repeat (first|apply Kd.R_alloc|apply Kd.R_drewN|apply Kd.R_drew));exact Kd.R_mono HO491.out (fun _ hk => ⟨hk.2.2.2.2.2.2.1,hk.2.2.2.2.2.2.2⟩)⟩,⟨z1 K448.1⟩,⟨z1 K449.1⟩,⟨zH HB⟩⟩
        ·replace c26:=Bool.eq_false_iff.mpr c26
         subst c26
         rw [if_neg (show ¬ (false = true) by decide)] at H
         replace H:=Option.bind_eq_some_iff.mp H
         obtain ⟨t474,A750,H⟩:=H
         (try dsimp only at H)
         have A75:=zA A750
         clear A750
         by_cases c76 : t474 = true
         ·subst c76
          rw [if_pos rfl] at H
          replace H:=Option.bind_eq_some_iff.mp H
          obtain ⟨t475,A770,H⟩:=H
          (try dsimp only at H)
          have A77:=zA A770
          clear A770
          by_cases c78 : t475 = true
          ·subst c78
           rw [if_pos rfl] at H
           replace H:=Option.bind_eq_some_iff.mp H
           obtain ⟨t476,A790,H⟩:=H
           (try dsimp only at H)
           have A79:=zA A790
           clear A790
           obtain rfl:=Option.some.inj H
           obtain ⟨Ao80,co80,eo80⟩:=Kd.R_slice HO_449001.out
           subst eo80
           obtain ⟨Ao81,co81,eo81⟩:=Kd.R_slice HO_449002.out
           subst eo81
           try go_wp2
           replace HO_7:=zA (Kd.R_drew HO_7.out)
           replace HO_449001:=zA (Kd.R_drew HO_449001.out)
           replace HO_449002:=zA (Kd.R_drew HO_449002.out)
           replace K448:=zA (bD K448.1)
           replace K449:=zA (bD K449.1)
           replace HB:=zA (bw1 HB.1)
           refine start_ (n:=14) (S:=fun w' => w'.cell? ⟨G448,0,none⟩ = some (.int .u64 x449000_2) ∧ w'.cell? ⟨G448,1,none⟩ = some (.slice Ao80 x449001_2.length co80) ∧ w'.cell? ⟨G448,2,none⟩ = some (.slice Ao81 x449002_2.length co81) ∧ w'.cell? ⟨G448,3,none⟩ = some (.bool x449003_2) ∧ w'.cell? ⟨G448,4,none⟩ = some (.int .i64 x449004_2)) (ds:=[]) #[F,F,F,F,F,F,F,F,F,F,F,F,F,F] (by kernel_rfl) rfl rfl ⟨zk K448 0,zk K448 1,zk K448 2,zk K448 3,zk K448 4⟩ (fun hHeld => ?_);refine with_tabW beaconlaw14_DeltaEnds.tab9 beaconlaw14_DeltaEnds.bits9 (fun HT_ HW_ => ?_)
           generalize wr.drew = w82 at HO_7 HO_449001 HO_449002 K448 K449 HB hHeld ⊢
           refine pz 1 44 #[F,T,F,F,F,F,F,F,F,F,F,F,F,F] HT_.1 ?_
           refine tz 0 43 #[T,T,F,F,F,F,F,F,F,F,F,F,F,F] HT_.1 HW_.1 hHeld ?_
           refine join_ (σ:=Value × Value × Value × Value × Nat) 4 #[T,T,T,T,T,T,T,T,T,T,F,F,F,F] (fun s_ => [(45,s_.1),(46,.tuple #[.agg #[.int .u64 t459,s_.2.1,s_.2.2.1,.bool t466,.int .i64 t467],s_.2.2.2.1,.bool false,.int .i64 t472]),(9,.pointer (some ⟨s_.2.2.2.2,0,none⟩)),(42,.tuple #[.agg #[.int .u64 t459,s_.2.1,s_.2.2.1,.bool t466,.int .i64 t467],s_.2.2.2.1,.bool false,.int .i64 t472]),(47,.agg #[.int .u64 t459,s_.2.1,s_.2.2.1,.bool t466,.int .i64 t467]),(48,s_.2.2.2.1),(49,.bool false),(50,.int .i64 t472)]) (fun s_ w' => (w'.cell? ⟨G448,0,none⟩ = some (.int .u64 x449000_2) ∧ w'.cell? ⟨G448,1,none⟩ = some (.slice Ao80 x449001_2.length co80) ∧ w'.cell? ⟨G448,2,none⟩ = some (.slice Ao81 x449002_2.length co81) ∧ w'.cell? ⟨G448,3,none⟩ = some (.bool x449003_2) ∧ w'.cell? ⟨G448,4,none⟩ = some (.int .i64 x449004_2)) ∧ (Kd.R k61 61 w' w.heap.size (fun k_ => some k_ ≠ (s_.2.1 : Value).ownBlock ∧ some k_ ≠ (s_.2.2.1 : Value).ownBlock ∧ some k_ ≠ (s_.2.2.2.1 : Value).ownBlock ∧ some k_ ≠ (.slice Ao80 x449001_2.length co80 : Value).ownBlock ∧ some k_ ≠ (.slice Ao81 x449002_2.length co81 : Value).ownBlock ∧ some k_ ≠ (u7 : Value).ownBlock) s_.1 t456) ∧ (Kd.R k61 61 w' w.heap.size (fun k_ => some k_ ≠ (s_.1 : Value).ownBlock ∧ some k_ ≠ (s_.2.2.1 : Value).ownBlock ∧ some k_ ≠ (s_.2.2.2.1 : Value).ownBlock ∧ some k_ ≠ (.slice Ao80 x449001_2.length co80 : Value).ownBlock ∧ some k_ ≠ (.slice Ao81 x449002_2.length co81 : Value).ownBlock ∧ some k_ ≠ (u7 : Value).ownBlock) s_.2.1 t460) ∧ (Kd.R k61 61 w' w.heap.size (fun k_ => some k_ ≠ (s_.1 : Value).ownBlock ∧ some k_ ≠ (s_.2.1 : Value).ownBlock ∧ some k_ ≠ (s_.2.2.2.1 : Value).ownBlock ∧ some k_ ≠ (.slice Ao80 x449001_2.length co80 : Value).ownBlock ∧ some k_ ≠ (.slice Ao81 x449002_2.length co81 : Value).ownBlock ∧ some k_ ≠ (u7 : Value).ownBlock) s_.2.2.1 t463) ∧ (Kd.R k61 61 w' w.heap.size (fun k_ => some k_ ≠ (s_.1 : Value).ownBlock ∧ some k_ ≠ (s_.2.1 : Value).ownBlock ∧ some k_ ≠ (s_.2.2.1 : Value).ownBlock ∧ some k_ ≠ (.slice Ao80 x449001_2.length co80 : Value).ownBlock ∧ some k_ ≠ (.slice Ao81 x449002_2.length co81 : Value).ownBlock ∧ some k_ ≠ (u7 : Value).ownBlock) s_.2.2.2.1 t468) ∧ (Kd.R k61 61 w' w.heap.size (fun k_ => some k_ ≠ (s_.1 : Value).ownBlock ∧ some k_ ≠ (s_.2.1 : Value).ownBlock ∧ some k_ ≠ (s_.2.2.1 : Value).ownBlock ∧ some k_ ≠ (s_.2.2.2.1 : Value).ownBlock ∧ some k_ ≠ (.slice Ao81 x449002_2.length co81 : Value).ownBlock ∧ some k_ ≠ (u7 : Value).ownBlock) (.slice Ao80 x449001_2.length co80) x449001_2) ∧ (Kd.R k61 61 w' w.heap.size (fun k_ => some k_ ≠ (s_.1 : Value).ownBlock ∧ some k_ ≠ (s_.2.1 : Value).ownBlock ∧ some k_ ≠ (s_.2.2.1 : Value).ownBlock ∧ some k_ ≠ (s_.2.2.2.1 : Value).ownBlock ∧ some k_ ≠ (.slice Ao80 x449001_2.length co80 : Value).ownBlock ∧ some k_ ≠ (u7 : Value).ownBlock) (.slice Ao81 x449002_2.length co81) x449002_2) ∧ (Kd.R k61 61 w' w.heap.size (fun k_ => some k_ ≠ (s_.1 : Value).ownBlock ∧ some k_ ≠ (s_.2.1 : Value).ownBlock ∧ some k_ ≠ (s_.2.2.1 : Value).ownBlock ∧ some k_ ≠ (s_.2.2.2.1 : Value).ownBlock ∧ some k_ ≠ (.slice Ao80 x449001_2.length co80 : Value).ownBlock ∧ some k_ ≠ (.slice Ao81 x449002_2.length co81 : Value).ownBlock) u7 x7_2) ∧ (w'.heap[G448]? = some (.cells #[.int .u64 x449000_2,.slice Ao80 x449001_2.length co80,.slice Ao81 x449002_2.length co81,.bool x449003_2,.int .i64 x449004_2] 39 (0,0))) ∧ (w'.heap[G449]? = some (.cells #[.int .u64 x450000_2] 24 (0,0))) ∧ (w'.heap[s_.2.2.2.2]? = some (.cells #[.int .u64 0,.slice none 0 0,.slice none 0 0,.bool false,.int .i64 0] 39 (0,0))) ∧ (w.heap.size ≤ s_.2.2.2.2) ∧ (w.heap.size ≤ s_.2.2.2.2) ∧ (G448 ≠ s_.2.2.2.2) ∧ (s_.2.2.2.2 ≠ G448) ∧ (G449 ≠ s_.2.2.2.2) ∧ (s_.2.2.2.2 ≠ G449) ∧ (Below w.heap.size w w')) ?_ ?_
           rotate_left
           ·intro hCont
            refine two_ (i:=2) (j:=9) (Ni:=some 45) (Nj:=some 9) #[T,T,T,F,F,F,F,F,F,F,F,F,F,F] #[T,T,F,F,F,F,F,F,F,T,F,F,F,F] rfl rfl rfl rfl (two_of HT_.out (by kernel_rfl)) (by decide) (by decide) (fun K hK => ?_) (fun K hK => ?_)
            ·skip
             refine zo_ Try.func13 #[.slice A1 l1.length c1] ?_
             with_reducible refine (beaconlaw14_own.calls _ _ l1 t456 _ ?side1 ?side2 A23.out).mono ?_
             (case side1 => exact zC (Kd.C_below HR1.out HB.1))
             (case side2 => exact HC1.out)
             rintro e w83 ⟨v457,rfl,ho0,hb⟩
             refine ⟨_,rfl,?_⟩
             have HO458:=zA (Kd.R_lower (Kd.R_new' (Kd.R_new' (Kd.R_new' ho0 (Kd.R_lt (zR HO_7))) (Kd.R_lt (zR HO_449001))) (Kd.R_lt (zR HO_449002))) (zW HB))
             replace HO_7:=zA (Kd.R_elder' (zR HO_7) (Kd.R_base ho0) hb)
             replace HO_449001:=zA (Kd.R_elder' (zR HO_449001) (Kd.R_base ho0) hb)
             replace HO_449002:=zA (Kd.R_elder' (zR HO_449002) (Kd.R_base ho0) hb)
             replace K448:=zB K448 hb
             replace K449:=zB K449 hb
             replace HB:=zS HB hb
             (try clear hb)
             (try clear hb2)
             (try clear hk)
             (try clear hi)
             (try clear ho0)
             obtain ⟨Ao84,co84,eo84⟩:=Kd.R_slice HO458.out
             (first|subst eo84|(injection eo84 with f1_ f2_ f3_;have f4_:=f1_.symm;have f5_:=f3_.symm;clear f1_ f2_ f3_;subst f4_;subst f5_))
             refine hK.out _ _ ⟨zk K448 0,zk K448 1,zk K448 2,zk K448 3,zk K448 4⟩ (fun hHeld => ?_)
             clear hK K
             refine nz 45 ?_
             refine two_ (i:=3) (j:=9) (Ni:=some 46) (Nj:=some 9) #[T,T,T,T,F,F,F,F,F,F,F,F,F,F] #[T,T,T,F,F,F,F,F,F,T,F,F,F,F] rfl rfl rfl rfl (two_of HT_.out (by kernel_rfl)) (by decide) (by decide) (fun K hK => ?_) (fun K hK => ?_)
             ·skip
              refine zo_ Try.func19 #[.agg #[.int .u64 x449000_2,.slice Ao80 x449001_2.length co80,.slice Ao81 x449002_2.length co81,.bool x449003_2,.int .i64 x449004_2],.slice Ao84 t456.length co84] ?_
              with_reducible refine (delta_Offer.calls k2 x449000_2 _ _ x449001_2 _ _ x449002_2 x449003_2 x449004_2 _ _ t456 t459 t460 t463 t466 t467 t468 false t472 _ ?side1 ?side2 ?side3 ?side4 ?side5 ?side6 A24.out).mono ?_
              (case side1 => exact zC ((Kd.R_reads' HO_449001.out).2.2))
              (case side2 => exact (Kd.R_reads' HO_449001.out).2.1)
              (case side3 => exact zC ((Kd.R_reads' HO_449002.out).2.2))
              (case side4 => exact (Kd.R_reads' HO_449002.out).2.1)
              (case side5 => exact zC ((Kd.R_reads' HO458.out).2.2))
              (case side6 => exact (Kd.R_reads' HO458.out).2.1)
              rintro e w85 ⟨v461,v464,v469,rfl,ho0,ho1,ho2,hb⟩
              refine ⟨_,rfl,?_⟩
              have HO462:=zA (Kd.R_lower (Kd.R_new' (Kd.R_new' (Kd.R_new' (Kd.R_new' ho0 (Kd.R_lt (zR HO_7))) (Kd.R_lt (zR HO_449001))) (Kd.R_lt (zR HO_449002))) (Kd.R_lt (zR HO458))) (zW HB))
              have HO465:=zA (Kd.R_lower (Kd.R_new' (Kd.R_new' (Kd.R_new' (Kd.R_new' ho1 (Kd.R_lt (zR HO_7))) (Kd.R_lt (zR HO_449001))) (Kd.R_lt (zR HO_449002))) (Kd.R_lt (zR HO458))) (zW HB))
              have HO470:=zA (Kd.R_lower (Kd.R_new' (Kd.R_new' (Kd.R_new' (Kd.R_new' ho2 (Kd.R_lt (zR HO_7))) (Kd.R_lt (zR HO_449001))) (Kd.R_lt (zR HO_449002))) (Kd.R_lt (zR HO458))) (zW HB))
              replace HO_7:=zA (Kd.R_mono (Kd.R_told (Kd.R_told (Kd.R_told (Kd.R_old (zR HO_7) hb) (Kd.R_base ho0)) (Kd.R_base ho1)) (Kd.R_base ho2)) (fun _ h_ => h_.1))
              replace HO_449001:=zA (Kd.R_mono (Kd.R_told (Kd.R_told (Kd.R_told (Kd.R_old (zR HO_449001) hb) (Kd.R_base ho0)) (Kd.R_base ho1)) (Kd.R_base ho2)) (fun _ h_ => h_.1))
              replace HO_449002:=zA (Kd.R_mono (Kd.R_told (Kd.R_told (Kd.R_told (Kd.R_old (zR HO_449002) hb) (Kd.R_base ho0)) (Kd.R_base ho1)) (Kd.R_base ho2)) (fun _ h_ => h_.1))
              replace HO458:=zA (Kd.R_mono (Kd.R_told (Kd.R_told (Kd.R_told (Kd.R_old (zR HO458) hb) (Kd.R_base ho0)) (Kd.R_base ho1)) (Kd.R_base ho2)) (fun _ h_ => h_.1))
              replace K448:=zB K448 hb
              replace K449:=zB K449 hb
              replace HB:=zS HB hb
              (try clear hb)
              (try clear hb2)
              (try clear hk)
              (try clear hi)
              (try clear ho0)
              (try clear ho1)
              (try clear ho2)
              refine hK.out _ _ ⟨zk K448 0,zk K448 1,zk K448 2,zk K448 3,zk K448 4⟩ (fun hHeld => ?_)
              clear hK K
              refine nz 46 ?_
              refine pz 4 42 #[T,T,T,T,T,F,F,F,F,F,F,F,F,F] HT_.1 ?_
              refine pz 5 47 #[T,T,T,T,T,T,F,F,F,F,F,F,F,F] HT_.1 ?_
              refine pz 6 48 #[T,T,T,T,T,T,T,F,F,F,F,F,F,F] HT_.1 ?_
              refine pz 7 49 #[T,T,T,T,T,T,T,T,F,F,F,F,F,F] HT_.1 ?_
              refine pz 8 50 #[T,T,T,T,T,T,T,T,T,F,F,F,F,F] HT_.1 ?_
              refine one_ (i:=9) (N:=some 9) #[T,T,T,T,T,T,T,T,T,T,F,F,F,F] rfl rfl (one_of HT_.out (by kernel_rfl)) (by decide) (fun K hK => ?_)
              refine zs_ (N:=9) (cs:=#[.int .u64 0,.slice none 0 0,.slice none 0 0,.bool false,.int .i64 0]) (t:=39) ?_
              intro G473 hg w86 hbox hb
              replace HO_7:=zRb HO_7 hb
              replace HO_449001:=zRb HO_449001 hb
              replace HO_449002:=zRb HO_449002 hb
              replace HO458:=zRb HO458 hb
              replace HO462:=zRb HO462 hb
              replace HO465:=zRb HO465 hb
              replace HO470:=zRb HO470 hb
              have K473:=zA (hbox)
              have GW473:=zN HB hg
              have GE473:=zN HB hg
              replace HB:=zS HB hb
              have NB448_473:=zL K448 hg
              have NB473_448:=zG K448 hg
              replace K448:=zB K448 hb
              have NB449_473:=zL K449 hg
              have NB473_449:=zG K449 hg
              replace K449:=zB K449 hb
              clear hb hbox hg
              refine hK.out _ _ ⟨zk K448 0,zk K448 1,zk K448 2,zk K448 3,zk K448 4⟩ (fun hHeld => ?_)
              clear hK K
              refine nz 9 ?_
              exact norm_ (by simp only [putAll,Act.put,xA,xB,xC]) (hCont (.slice Ao84 t456.length co84,v461,v464,v469,G473) _ ⟨hHeld,(by (with_reducible repeat (first|apply Kd.R_alloc|apply Kd.R_drewN|apply Kd.R_drew));exact Kd.R_mono HO458.out (fun _ hk => ⟨hk.1.1.2,⟨hk.1.2,⟨hk.2,⟨hk.1.1.1.1.2,⟨hk.1.1.1.2,hk.1.1.1.1.1.2⟩⟩⟩⟩⟩)),(by (with_reducible repeat (first|apply Kd.R_alloc|apply Kd.R_drewN|apply Kd.R_drew));exact Kd.R_mono HO462.out (fun _ hk => ⟨hk.2,⟨hk.1.1.1.1.1,⟨hk.1.1.1.1.2,⟨hk.1.1.2,⟨hk.1.2,hk.1.1.1.2⟩⟩⟩⟩⟩)),(by (with_reducible repeat (first|apply Kd.R_alloc|apply Kd.R_drewN|apply Kd.R_drew));exact Kd.R_mono HO465.out (fun _ hk => ⟨hk.2,⟨hk.1.1.1.1.1,⟨hk.1.1.1.1.2,⟨hk.1.1.2,⟨hk.1.2,hk.1.1.1.2⟩⟩⟩⟩⟩)),(by (with_reducible repeat (first|apply Kd.R_alloc|apply Kd.R_drewN|apply Kd.R_drew));exact Kd.R_mono HO470.out (fun _ hk => ⟨hk.2,⟨hk.1.1.1.1.1,⟨hk.1.1.1.1.2,⟨hk.1.1.2,⟨hk.1.2,hk.1.1.1.2⟩⟩⟩⟩⟩)),(by (with_reducible repeat (first|apply Kd.R_alloc|apply Kd.R_drewN|apply Kd.R_drew));exact Kd.R_mono HO_449001.out (fun _ hk => ⟨hk.1.1.1.2,⟨hk.1.1.2,⟨hk.1.2,⟨hk.2,⟨hk.1.1.1.1.2,hk.1.1.1.1.1⟩⟩⟩⟩⟩)),(by (with_reducible repeat (first|apply Kd.R_alloc|apply Kd.R_drewN|apply Kd.R_drew));exact Kd.R_mono HO_449002.out (fun _ hk => ⟨hk.1.1.1.2,⟨hk.1.1.2,⟨hk.1.2,⟨hk.2,⟨hk.1.1.1.1.2,hk.1.1.1.1.1⟩⟩⟩⟩⟩)),(by (with_reducible repeat (first|apply Kd.R_alloc|apply Kd.R_drewN|apply Kd.R_drew));exact Kd.R_mono HO_7.out (fun _ hk => ⟨hk.1.1.1.2,⟨hk.1.1.2,⟨hk.1.2,⟨hk.2,⟨hk.1.1.1.1.1,hk.1.1.1.1.2⟩⟩⟩⟩⟩)),(z1 K448.1),(z1 K449.1),(z1 K473.1),GW473.1,GE473.1,NB448_473.1,NB473_448.1,NB449_473.1,NB473_449.1,(zH HB)⟩)
             ·skip
              refine zs_ (N:=9) (cs:=#[.int .u64 0,.slice none 0 0,.slice none 0 0,.bool false,.int .i64 0]) (t:=39) ?_
              intro G473 hg w84 hbox hb
              replace HO_7:=zRb HO_7 hb
              replace HO_449001:=zRb HO_449001 hb
              replace HO_449002:=zRb HO_449002 hb
              replace HO458:=zRb HO458 hb
              have K473:=zA (hbox)
              have GW473:=zN HB hg
              have GE473:=zN HB hg
              replace HB:=zS HB hb
              have NB448_473:=zL K448 hg
              have NB473_448:=zG K448 hg
              replace K448:=zB K448 hb
              have NB449_473:=zL K449 hg
              have NB473_449:=zG K449 hg
              replace K449:=zB K449 hb
              clear hb hbox hg
              obtain ⟨Ao85,co85,eo85⟩:=Kd.R_slice HO458.out
              (first|subst eo85|(injection eo85 with f1_ f2_ f3_;have f4_:=f1_.symm;have f5_:=f3_.symm;clear f1_ f2_ f3_;subst f4_;subst f5_))
              refine hK.out _ _ ⟨zk K448 0,zk K448 1,zk K448 2,zk K448 3,zk K448 4⟩ (fun hHeld => ?_)
              clear hK K
              refine nz 9 ?_
              refine one_ (i:=3) (N:=some 46) #[T,T,T,T,F,F,F,F,F,T,F,F,F,F] rfl rfl (one_of HT_.out (by kernel_rfl)) (by decide) (fun K hK => ?_)
              refine zo_ Try.func19 #[.agg #[.int .u64 x449000_2,.slice Ao80 x449001_2.length co80,.slice Ao81 x449002_2.length co81,.bool x449003_2,.int .i64 x449004_2],.slice Ao85 t456.length co85] ?_
              with_reducible refine (delta_Offer.calls k2 x449000_2 _ _ x449001_2 _ _ x449002_2 x449003_2 x449004_2 _ _ t456 t459 t460 t463 t466 t467 t468 false t472 _ ?side1 ?side2 ?side3 ?side4 ?side5 ?side6 A24.out).mono ?_
              (case side1 => exact zC ((Kd.R_reads' HO_449001.out).2.2))
              (case side2 => exact (Kd.R_reads' HO_449001.out).2.1)
              (case side3 => exact zC ((Kd.R_reads' HO_449002.out).2.2))
              (case side4 => exact (Kd.R_reads' HO_449002.out).2.1)
              (case side5 => exact zC ((Kd.R_reads' HO458.out).2.2))
              (case side6 => exact (Kd.R_reads' HO458.out).2.1)
              rintro e w86 ⟨v461,v464,v469,rfl,ho0,ho1,ho2,hb⟩
              refine ⟨_,rfl,?_⟩
              have HO462:=zA (Kd.R_lower (Kd.R_new' (Kd.R_new' (Kd.R_new' (Kd.R_new' ho0 (Kd.R_lt (zR HO_7))) (Kd.R_lt (zR HO_449001))) (Kd.R_lt (zR HO_449002))) (Kd.R_lt (zR HO458))) (zW HB))
              have HO465:=zA (Kd.R_lower (Kd.R_new' (Kd.R_new' (Kd.R_new' (Kd.R_new' ho1 (Kd.R_lt (zR HO_7))) (Kd.R_lt (zR HO_449001))) (Kd.R_lt (zR HO_449002))) (Kd.R_lt (zR HO458))) (zW HB))
              have HO470:=zA (Kd.R_lower (Kd.R_new' (Kd.R_new' (Kd.R_new' (Kd.R_new' ho2 (Kd.R_lt (zR HO_7))) (Kd.R_lt (zR HO_449001))) (Kd.R_lt (zR HO_449002))) (Kd.R_lt (zR HO458))) (zW HB))
              replace HO_7:=zA (Kd.R_mono (Kd.R_told (Kd.R_told (Kd.R_told (Kd.R_old (zR HO_7) hb) (Kd.R_base ho0)) (Kd.R_base ho1)) (Kd.R_base ho2)) (fun _ h_ => h_.1))
              replace HO_449001:=zA (Kd.R_mono (Kd.R_told (Kd.R_told (Kd.R_told (Kd.R_old (zR HO_449001) hb) (Kd.R_base ho0)) (Kd.R_base ho1)) (Kd.R_base ho2)) (fun _ h_ => h_.1))
              replace HO_449002:=zA (Kd.R_mono (Kd.R_told (Kd.R_told (Kd.R_told (Kd.R_old (zR HO_449002) hb) (Kd.R_base ho0)) (Kd.R_base ho1)) (Kd.R_base ho2)) (fun _ h_ => h_.1))
              replace HO458:=zA (Kd.R_mono (Kd.R_told (Kd.R_told (Kd.R_told (Kd.R_old (zR HO458) hb) (Kd.R_base ho0)) (Kd.R_base ho1)) (Kd.R_base ho2)) (fun _ h_ => h_.1))
              replace K448:=zB K448 hb
              replace K449:=zB K449 hb
              replace K473:=zB K473 hb
              replace HB:=zS HB hb
              (try clear hb)
              (try clear hb2)
              (try clear hk)
              (try clear hi)
              (try clear ho0)
              (try clear ho1)
              (try clear ho2)
              refine hK.out _ _ ⟨zk K448 0,zk K448 1,zk K448 2,zk K448 3,zk K448 4⟩ (fun hHeld => ?_)
              clear hK K
              refine nz 46 ?_
              refine pz 4 42 #[T,T,T,T,T,F,F,F,F,T,F,F,F,F] HT_.1 ?_
              refine pz 5 47 #[T,T,T,T,T,T,F,F,F,T,F,F,F,F] HT_.1 ?_
              refine pz 6 48 #[T,T,T,T,T,T,T,F,F,T,F,F,F,F] HT_.1 ?_
              refine pz 7 49 #[T,T,T,T,T,T,T,T,F,T,F,F,F,F] HT_.1 ?_
              refine pz 8 50 #[T,T,T,T,T,T,T,T,T,T,F,F,F,F] HT_.1 ?_
              exact norm_ (by simp only [putAll,Act.put,xA,xB,xC]) (hCont (.slice Ao85 t456.length co85,v461,v464,v469,G473) _ ⟨hHeld,(by (with_reducible repeat (first|apply Kd.R_alloc|apply Kd.R_drewN|apply Kd.R_drew));exact Kd.R_mono HO458.out (fun _ hk => ⟨hk.1.1.2,⟨hk.1.2,⟨hk.2,⟨hk.1.1.1.1.2,⟨hk.1.1.1.2,hk.1.1.1.1.1.2⟩⟩⟩⟩⟩)),(by (with_reducible repeat (first|apply Kd.R_alloc|apply Kd.R_drewN|apply Kd.R_drew));exact Kd.R_mono HO462.out (fun _ hk => ⟨hk.2,⟨hk.1.1.1.1.1,⟨hk.1.1.1.1.2,⟨hk.1.1.2,⟨hk.1.2,hk.1.1.1.2⟩⟩⟩⟩⟩)),(by (with_reducible repeat (first|apply Kd.R_alloc|apply Kd.R_drewN|apply Kd.R_drew));exact Kd.R_mono HO465.out (fun _ hk => ⟨hk.2,⟨hk.1.1.1.1.1,⟨hk.1.1.1.1.2,⟨hk.1.1.2,⟨hk.1.2,hk.1.1.1.2⟩⟩⟩⟩⟩)),(by (with_reducible repeat (first|apply Kd.R_alloc|apply Kd.R_drewN|apply Kd.R_drew));exact Kd.R_mono HO470.out (fun _ hk => ⟨hk.2,⟨hk.1.1.1.1.1,⟨hk.1.1.1.1.2,⟨hk.1.1.2,⟨hk.1.2,hk.1.1.1.2⟩⟩⟩⟩⟩)),(by (with_reducible repeat (first|apply Kd.R_alloc|apply Kd.R_drewN|apply Kd.R_drew));exact Kd.R_mono HO_449001.out (fun _ hk => ⟨hk.1.1.1.2,⟨hk.1.1.2,⟨hk.1.2,⟨hk.2,⟨hk.1.1.1.1.2,hk.1.1.1.1.1⟩⟩⟩⟩⟩)),(by (with_reducible repeat (first|apply Kd.R_alloc|apply Kd.R_drewN|apply Kd.R_drew));exact Kd.R_mono HO_449002.out (fun _ hk => ⟨hk.1.1.1.2,⟨hk.1.1.2,⟨hk.1.2,⟨hk.2,⟨hk.1.1.1.1.2,hk.1.1.1.1.1⟩⟩⟩⟩⟩)),(by (with_reducible repeat (first|apply Kd.R_alloc|apply Kd.R_drewN|apply Kd.R_drew));exact Kd.R_mono HO_7.out (fun _ hk => ⟨hk.1.1.1.2,⟨hk.1.1.2,⟨hk.1.2,⟨hk.2,⟨hk.1.1.1.1.1,hk.1.1.1.1.2⟩⟩⟩⟩⟩)),(z1 K448.1),(z1 K449.1),(z1 K473.1),GW473.1,GE473.1,NB448_473.1,NB473_448.1,NB449_473.1,NB473_449.1,(zH HB)⟩)
            ·skip
             refine zs_ (N:=9) (cs:=#[.int .u64 0,.slice none 0 0,.slice none 0 0,.bool false,.int .i64 0]) (t:=39) ?_
             intro G473 hg w83 hbox hb
             replace HO_7:=zRb HO_7 hb
             replace HO_449001:=zRb HO_449001 hb
             replace HO_449002:=zRb HO_449002 hb
             have K473:=zA (hbox)
             have GW473:=zN HB hg
             have GE473:=zN HB hg
             replace HB:=zS HB hb
             have NB448_473:=zL K448 hg
             have NB473_448:=zG K448 hg
             replace K448:=zB K448 hb
             have NB449_473:=zL K449 hg
             have NB473_449:=zG K449 hg
             replace K449:=zB K449 hb
             clear hb hbox hg
             refine hK.out _ _ ⟨zk K448 0,zk K448 1,zk K448 2,zk K448 3,zk K448 4⟩ (fun hHeld => ?_)
             clear hK K
             refine nz 9 ?_
             refine one_ (i:=2) (N:=some 45) #[T,T,T,F,F,F,F,F,F,T,F,F,F,F] rfl rfl (one_of HT_.out (by kernel_rfl)) (by decide) (fun K hK => ?_)
             refine zo_ Try.func13 #[.slice A1 l1.length c1] ?_
             with_reducible refine (beaconlaw14_own.calls _ _ l1 t456 _ ?side1 ?side2 A23.out).mono ?_
             (case side1 => exact zC (Kd.C_below HR1.out HB.1))
             (case side2 => exact HC1.out)
             rintro e w84 ⟨v457,rfl,ho0,hb⟩
             refine ⟨_,rfl,?_⟩
             have HO458:=zA (Kd.R_lower (Kd.R_new' (Kd.R_new' (Kd.R_new' ho0 (Kd.R_lt (zR HO_7))) (Kd.R_lt (zR HO_449001))) (Kd.R_lt (zR HO_449002))) (zW HB))
             replace HO_7:=zA (Kd.R_elder' (zR HO_7) (Kd.R_base ho0) hb)
             replace HO_449001:=zA (Kd.R_elder' (zR HO_449001) (Kd.R_base ho0) hb)
             replace HO_449002:=zA (Kd.R_elder' (zR HO_449002) (Kd.R_base ho0) hb)
             replace K448:=zB K448 hb
             replace K449:=zB K449 hb
             replace K473:=zB K473 hb
             replace HB:=zS HB hb
             (try clear hb)
             (try clear hb2)
             (try clear hk)
             (try clear hi)
             (try clear ho0)
             obtain ⟨Ao85,co85,eo85⟩:=Kd.R_slice HO458.out
             (first|subst eo85|(injection eo85 with f1_ f2_ f3_;have f4_:=f1_.symm;have f5_:=f3_.symm;clear f1_ f2_ f3_;subst f4_;subst f5_))
             refine hK.out _ _ ⟨zk K448 0,zk K448 1,zk K448 2,zk K448 3,zk K448 4⟩ (fun hHeld => ?_)
             clear hK K
             refine nz 45 ?_
             refine one_ (i:=3) (N:=some 46) #[T,T,T,T,F,F,F,F,F,T,F,F,F,F] rfl rfl (one_of HT_.out (by kernel_rfl)) (by decide) (fun K hK => ?_)
             refine zo_ Try.func19 #[.agg #[.int .u64 x449000_2,.slice Ao80 x449001_2.length co80,.slice Ao81 x449002_2.length co81,.bool x449003_2,.int .i64 x449004_2],.slice Ao85 t456.length co85] ?_
             with_reducible refine (delta_Offer.calls k2 x449000_2 _ _ x449001_2 _ _ x449002_2 x449003_2 x449004_2 _ _ t456 t459 t460 t463 t466 t467 t468 false t472 _ ?side1 ?side2 ?side3 ?side4 ?side5 ?side6 A24.out).mono ?_
             (case side1 => exact zC ((Kd.R_reads' HO_449001.out).2.2))
             (case side2 => exact (Kd.R_reads' HO_449001.out).2.1)
             (case side3 => exact zC ((Kd.R_reads' HO_449002.out).2.2))
             (case side4 => exact (Kd.R_reads' HO_449002.out).2.1)
             (case side5 => exact zC ((Kd.R_reads' HO458.out).2.2))
             (case side6 => exact (Kd.R_reads' HO458.out).2.1)
             rintro e w86 ⟨v461,v464,v469,rfl,ho0,ho1,ho2,hb⟩
             refine ⟨_,rfl,?_⟩
             have HO462:=zA (Kd.R_lower (Kd.R_new' (Kd.R_new' (Kd.R_new' (Kd.R_new' ho0 (Kd.R_lt (zR HO_7))) (Kd.R_lt (zR HO_449001))) (Kd.R_lt (zR HO_449002))) (Kd.R_lt (zR HO458))) (zW HB))
             have HO465:=zA (Kd.R_lower (Kd.R_new' (Kd.R_new' (Kd.R_new' (Kd.R_new' ho1 (Kd.R_lt (zR HO_7))) (Kd.R_lt (zR HO_449001))) (Kd.R_lt (zR HO_449002))) (Kd.R_lt (zR HO458))) (zW HB))
             have HO470:=zA (Kd.R_lower (Kd.R_new' (Kd.R_new' (Kd.R_new' (Kd.R_new' ho2 (Kd.R_lt (zR HO_7))) (Kd.R_lt (zR HO_449001))) (Kd.R_lt (zR HO_449002))) (Kd.R_lt (zR HO458))) (zW HB))
             replace HO_7:=zA (Kd.R_mono (Kd.R_told (Kd.R_told (Kd.R_told (Kd.R_old (zR HO_7) hb) (Kd.R_base ho0)) (Kd.R_base ho1)) (Kd.R_base ho2)) (fun _ h_ => h_.1))
             replace HO_449001:=zA (Kd.R_mono (Kd.R_told (Kd.R_told (Kd.R_told (Kd.R_old (zR HO_449001) hb) (Kd.R_base ho0)) (Kd.R_base ho1)) (Kd.R_base ho2)) (fun _ h_ => h_.1))
             replace HO_449002:=zA (Kd.R_mono (Kd.R_told (Kd.R_told (Kd.R_told (Kd.R_old (zR HO_449002) hb) (Kd.R_base ho0)) (Kd.R_base ho1)) (Kd.R_base ho2)) (fun _ h_ => h_.1))
             replace HO458:=zA (Kd.R_mono (Kd.R_told (Kd.R_told (Kd.R_told (Kd.R_old (zR HO458) hb) (Kd.R_base ho0)) (Kd.R_base ho1)) (Kd.R_base ho2)) (fun _ h_ => h_.1))
             replace K448:=zB K448 hb
             replace K449:=zB K449 hb
             replace K473:=zB K473 hb
             replace HB:=zS HB hb
             (try clear hb)
             (try clear hb2)
             (try clear hk)
             (try clear hi)
             (try clear ho0)
             (try clear ho1)
             (try clear ho2)
             refine hK.out _ _ ⟨zk K448 0,zk K448 1,zk K448 2,zk K448 3,zk K448 4⟩ (fun hHeld => ?_)
             clear hK K
             refine nz 46 ?_
             refine pz 4 42 #[T,T,T,T,T,F,F,F,F,T,F,F,F,F] HT_.1 ?_
             refine pz 5 47 #[T,T,T,T,T,T,F,F,F,T,F,F,F,F] HT_.1 ?_
             refine pz 6 48 #[T,T,T,T,T,T,T,F,F,T,F,F,F,F] HT_.1 ?_
             refine pz 7 49 #[T,T,T,T,T,T,T,T,F,T,F,F,F,F] HT_.1 ?_
             refine pz 8 50 #[T,T,T,T,T,T,T,T,T,T,F,F,F,F] HT_.1 ?_
             exact norm_ (by simp only [putAll,Act.put,xA,xB,xC]) (hCont (.slice Ao85 t456.length co85,v461,v464,v469,G473) _ ⟨hHeld,(by (with_reducible repeat (first|apply Kd.R_alloc|apply Kd.R_drewN|apply Kd.R_drew));exact Kd.R_mono HO458.out (fun _ hk => ⟨hk.1.1.2,⟨hk.1.2,⟨hk.2,⟨hk.1.1.1.1.2,⟨hk.1.1.1.2,hk.1.1.1.1.1.2⟩⟩⟩⟩⟩)),(by (with_reducible repeat (first|apply Kd.R_alloc|apply Kd.R_drewN|apply Kd.R_drew));exact Kd.R_mono HO462.out (fun _ hk => ⟨hk.2,⟨hk.1.1.1.1.1,⟨hk.1.1.1.1.2,⟨hk.1.1.2,⟨hk.1.2,hk.1.1.1.2⟩⟩⟩⟩⟩)),(by (with_reducible repeat (first|apply Kd.R_alloc|apply Kd.R_drewN|apply Kd.R_drew));exact Kd.R_mono HO465.out (fun _ hk => ⟨hk.2,⟨hk.1.1.1.1.1,⟨hk.1.1.1.1.2,⟨hk.1.1.2,⟨hk.1.2,hk.1.1.1.2⟩⟩⟩⟩⟩)),(by (with_reducible repeat (first|apply Kd.R_alloc|apply Kd.R_drewN|apply Kd.R_drew));exact Kd.R_mono HO470.out (fun _ hk => ⟨hk.2,⟨hk.1.1.1.1.1,⟨hk.1.1.1.1.2,⟨hk.1.1.2,⟨hk.1.2,hk.1.1.1.2⟩⟩⟩⟩⟩)),(by (with_reducible repeat (first|apply Kd.R_alloc|apply Kd.R_drewN|apply Kd.R_drew));exact Kd.R_mono HO_449001.out (fun _ hk => ⟨hk.1.1.1.2,⟨hk.1.1.2,⟨hk.1.2,⟨hk.2,⟨hk.1.1.1.1.2,hk.1.1.1.1.1⟩⟩⟩⟩⟩)),(by (with_reducible repeat (first|apply Kd.R_alloc|apply Kd.R_drewN|apply Kd.R_drew));exact Kd.R_mono HO_449002.out (fun _ hk => ⟨hk.1.1.1.2,⟨hk.1.1.2,⟨hk.1.2,⟨hk.2,⟨hk.1.1.1.1.2,hk.1.1.1.1.1⟩⟩⟩⟩⟩)),(by (with_reducible repeat (first|apply Kd.R_alloc|apply Kd.R_drewN|apply Kd.R_drew));exact Kd.R_mono HO_7.out (fun _ hk => ⟨hk.1.1.1.2,⟨hk.1.1.2,⟨hk.1.2,⟨hk.2,⟨hk.1.1.1.1.1,hk.1.1.1.1.2⟩⟩⟩⟩⟩)),(z1 K448.1),(z1 K449.1),(z1 K473.1),GW473.1,GE473.1,NB448_473.1,NB473_448.1,NB449_473.1,NB473_449.1,(zH HB)⟩)
           rintro ⟨v457,v461,v464,v469,G473⟩ w87 ⟨hS_,h0_,h1_,h2_,h3_,h4_,h5_,h6_,h7_,h8_,h9_,h10_,h11_,h12_,h13_,h14_,h15_,h16_⟩
           have HO458 : Aside0 (Kd.R k61 61 w87 w.heap.size (fun k_ => some k_ ≠ (v461 : Value).ownBlock ∧ some k_ ≠ (v464 : Value).ownBlock ∧ some k_ ≠ (v469 : Value).ownBlock ∧ some k_ ≠ (.slice Ao80 x449001_2.length co80 : Value).ownBlock ∧ some k_ ≠ (.slice Ao81 x449002_2.length co81 : Value).ownBlock ∧ some k_ ≠ (u7 : Value).ownBlock) v457 t456):=⟨h0_⟩
           have HO462 : Aside0 (Kd.R k61 61 w87 w.heap.size (fun k_ => some k_ ≠ (v457 : Value).ownBlock ∧ some k_ ≠ (v464 : Value).ownBlock ∧ some k_ ≠ (v469 : Value).ownBlock ∧ some k_ ≠ (.slice Ao80 x449001_2.length co80 : Value).ownBlock ∧ some k_ ≠ (.slice Ao81 x449002_2.length co81 : Value).ownBlock ∧ some k_ ≠ (u7 : Value).ownBlock) v461 t460):=⟨h1_⟩
           have HO465 : Aside0 (Kd.R k61 61 w87 w.heap.size (fun k_ => some k_ ≠ (v457 : Value).ownBlock ∧ some k_ ≠ (v461 : Value).ownBlock ∧ some k_ ≠ (v469 : Value).ownBlock ∧ some k_ ≠ (.slice Ao80 x449001_2.length co80 : Value).ownBlock ∧ some k_ ≠ (.slice Ao81 x449002_2.length co81 : Value).ownBlock ∧ some k_ ≠ (u7 : Value).ownBlock) v464 t463):=⟨h2_⟩
           have HO470 : Aside0 (Kd.R k61 61 w87 w.heap.size (fun k_ => some k_ ≠ (v457 : Value).ownBlock ∧ some k_ ≠ (v461 : Value).ownBlock ∧ some k_ ≠ (v464 : Value).ownBlock ∧ some k_ ≠ (.slice Ao80 x449001_2.length co80 : Value).ownBlock ∧ some k_ ≠ (.slice Ao81 x449002_2.length co81 : Value).ownBlock ∧ some k_ ≠ (u7 : Value).ownBlock) v469 t468):=⟨h3_⟩
           replace HO_449001 : Aside0 (Kd.R k61 61 w87 w.heap.size (fun k_ => some k_ ≠ (v457 : Value).ownBlock ∧ some k_ ≠ (v461 : Value).ownBlock ∧ some k_ ≠ (v464 : Value).ownBlock ∧ some k_ ≠ (v469 : Value).ownBlock ∧ some k_ ≠ (.slice Ao81 x449002_2.length co81 : Value).ownBlock ∧ some k_ ≠ (u7 : Value).ownBlock) (.slice Ao80 x449001_2.length co80) x449001_2):=⟨h4_⟩
           replace HO_449002 : Aside0 (Kd.R k61 61 w87 w.heap.size (fun k_ => some k_ ≠ (v457 : Value).ownBlock ∧ some k_ ≠ (v461 : Value).ownBlock ∧ some k_ ≠ (v464 : Value).ownBlock ∧ some k_ ≠ (v469 : Value).ownBlock ∧ some k_ ≠ (.slice Ao80 x449001_2.length co80 : Value).ownBlock ∧ some k_ ≠ (u7 : Value).ownBlock) (.slice Ao81 x449002_2.length co81) x449002_2):=⟨h5_⟩
           replace HO_7 : Aside0 (Kd.R k61 61 w87 w.heap.size (fun k_ => some k_ ≠ (v457 : Value).ownBlock ∧ some k_ ≠ (v461 : Value).ownBlock ∧ some k_ ≠ (v464 : Value).ownBlock ∧ some k_ ≠ (v469 : Value).ownBlock ∧ some k_ ≠ (.slice Ao80 x449001_2.length co80 : Value).ownBlock ∧ some k_ ≠ (.slice Ao81 x449002_2.length co81 : Value).ownBlock) u7 x7_2):=⟨h6_⟩
           replace K448 : Aside0 (w87.heap[G448]? = some (.cells #[.int .u64 x449000_2,.slice Ao80 x449001_2.length co80,.slice Ao81 x449002_2.length co81,.bool x449003_2,.int .i64 x449004_2] 39 (0,0))):=⟨h7_⟩
           replace K449 : Aside0 (w87.heap[G449]? = some (.cells #[.int .u64 x450000_2] 24 (0,0))):=⟨h8_⟩
           have K473 : Aside0 (w87.heap[G473]? = some (.cells #[.int .u64 0,.slice none 0 0,.slice none 0 0,.bool false,.int .i64 0] 39 (0,0))):=⟨h9_⟩
           have GW473 : Aside0 (w.heap.size ≤ G473):=⟨h10_⟩
           have GE473 : Aside0 (w.heap.size ≤ G473):=⟨h11_⟩
           have NB448_473 : Aside0 (G448 ≠ G473):=⟨h12_⟩
           have NB473_448 : Aside0 (G473 ≠ G448):=⟨h13_⟩
           have NB449_473 : Aside0 (G449 ≠ G473):=⟨h14_⟩
           have NB473_449 : Aside0 (G473 ≠ G449):=⟨h15_⟩
           replace HB : Aside0 (Below w.heap.size w w87):=⟨h16_⟩
           clear h0_ h10_ h11_ h12_ h13_ h14_ h15_ h16_ h1_ h2_ h3_ h4_ h5_ h6_ h7_ h8_ h9_
           have hHeld : w87.cell? ⟨G448,0,none⟩ = some (.int .u64 x449000_2) ∧ w87.cell? ⟨G448,1,none⟩ = some (.slice Ao80 x449001_2.length co80) ∧ w87.cell? ⟨G448,2,none⟩ = some (.slice Ao81 x449002_2.length co81) ∧ w87.cell? ⟨G448,3,none⟩ = some (.bool x449003_2) ∧ w87.cell? ⟨G448,4,none⟩ = some (.int .i64 x449004_2):=hS_
           obtain ⟨Ao89,co89,eo89⟩:=Kd.R_slice HO462.out
           (first|subst eo89|(injection eo89 with f1_ f2_ f3_;have f4_:=f1_.symm;have f5_:=f3_.symm;clear f1_ f2_ f3_;subst f4_;subst f5_))
           obtain ⟨Ao91,co91,eo91⟩:=Kd.R_slice HO465.out
           (first|subst eo91|(injection eo91 with f1_ f2_ f3_;have f4_:=f1_.symm;have f5_:=f3_.symm;clear f1_ f2_ f3_;subst f4_;subst f5_))
           refine norm_ (a':=?_) ?_ ?_
           rotate_left
           ·simp only [putAll,Act.put,xA,xB,xC]
            rfl
           refine one_ (i:=10) (N:=none) #[T,T,T,T,T,T,T,T,T,T,T,F,F,F] rfl rfl (one_of HT_.out (by kernel_rfl)) (by decide) (fun K hK => ?_)
           have hs88 : w87.cell? ⟨G473,0,none⟩ = some (.int .u64 0):=zk K473 0
           have hfs88:=bF K473.1 0
           have:=NB448_473.1
           have:=NB449_473.1
           have:=NB473_448.1
           have:=NB473_449.1
           have hs90 : w87.cell? ⟨G473,1,none⟩ = some (.slice none 0 0):=zk K473 1
           have hfs90:=bF K473.1 1
           have hs92 : w87.cell? ⟨G473,2,none⟩ = some (.slice none 0 0):=zk K473 2
           have hfs92:=bF K473.1 2
           have hs93 : w87.cell? ⟨G473,3,none⟩ = some (.bool false):=zk K473 3
           have hfs93:=bF K473.1 3
           have hs94 : w87.cell? ⟨G473,4,none⟩ = some (.int .i64 0):=zk K473 4
           have hfs94:=bF K473.1 4
           refine sz ?_
           refine hK.out _ _ ⟨(zx (hHeld.1) NB448_473.1),(zx (hHeld.2.1) NB448_473.1),(zx (hHeld.2.2.1) NB448_473.1),(zx (hHeld.2.2.2.1) NB448_473.1),(zx (hHeld.2.2.2.2) NB448_473.1)⟩ (fun hHeld => ?_)
           clear hK K
           refine pz 11 10 #[T,T,T,T,T,T,T,T,T,T,T,T,F,F] HT_.1 ?_
           refine pz 12 11 #[T,T,T,T,T,T,T,T,T,T,T,T,T,F] HT_.1 ?_
           refine pz 13 12 #[T,T,T,T,T,T,T,T,T,T,T,T,T,T] HT_.1 ?_
           refine done_ (done_of HT_.out (by kernel_rfl)) ?_
           obtain ⟨hcz97_0,hcz97_1,hcz97_2,hcz97_3,hcz97_4,hfz97_0,hfz97_1,hfz97_2,hfz97_3,hfz97_4⟩:=zc5 K473
           have:=NB448_449.1
           have:=NB449_448.1
           obtain ⟨hcz99_0,hcz99_1,hcz99_2,hcz99_3,hcz99_4,hfz99_0,hfz99_1,hfz99_2,hfz99_3,hfz99_4⟩:=zc5 K448
           try go_wp2_with (first|((with_reducible refine gate_store (t:=39) (p:=5) rfl ?_);refine store_event (t:=39) (p:=5) (v:=?vo_w100) (w1:=((((((((((w87.setCell ⟨G473,0,none⟩ (.int .u64 t459)).setCell ⟨G473,1,none⟩ (.slice Ao89 t460.length co89)).setCell ⟨G473,2,none⟩ (.slice Ao91 t463.length co91)).setCell ⟨G473,3,none⟩ (.bool t466)).setCell ⟨G473,4,none⟩ (.int .i64 t467)).setCell ⟨G448,0,none⟩ (.int .u64 t459)).setCell ⟨G448,1,none⟩ (.slice Ao89 t460.length co89)).setCell ⟨G448,2,none⟩ (.slice Ao91 t463.length co91)).setCell ⟨G448,3,none⟩ (.bool t466)).setCell ⟨G448,4,none⟩ (.int .i64 t467))) ?hg ?ho ?hn ?hr ?_;(case ho => rfl);(case hg => rfl);(case hn => rfl);(case hr => first|(go_simp;done)|(go_simp;rfl));intro w100 hw;replace HO_7 : Aside0 (Kd.R k61 61 w100 w.heap.size (fun k_ => some k_ ≠ (.slice Ao80 x449001_2.length co80 : Value).ownBlock ∧ some k_ ≠ (.slice Ao81 x449002_2.length co81 : Value).ownBlock ∧ some k_ ≠ (v457 : Value).ownBlock ∧ some k_ ≠ (.slice Ao89 t460.length co89 : Value).ownBlock ∧ some k_ ≠ (.slice Ao91 t463.length co91 : Value).ownBlock ∧ some k_ ≠ (v469 : Value).ownBlock) u7 x7_2):=⟨(by rw [hw];exact (by (with_reducible repeat (first|apply Kd.R_alloc|apply Kd.R_drewN|apply Kd.R_drew));exact Kd.R_mono (Kd.R_far (p:=⟨G448,4,none⟩) (Kd.R_far (p:=⟨G448,3,none⟩) (Kd.R_far (p:=⟨G448,2,none⟩) (Kd.R_far (p:=⟨G448,1,none⟩) (Kd.R_far (p:=⟨G448,0,none⟩) (Kd.R_far (p:=⟨G473,4,none⟩) (Kd.R_far (p:=⟨G473,3,none⟩) (Kd.R_far (p:=⟨G473,2,none⟩) (Kd.R_far (p:=⟨G473,1,none⟩) (Kd.R_far (p:=⟨G473,0,none⟩) (Kd.R_types (Kd.R_types HO_7.out K473.1 (by decide)) K448.1 (by decide)) (fun _ hk => hk.1.2) (.int .u64 t459)) (fun _ hk => hk.1.2) (.slice Ao89 t460.length co89)) (fun _ hk => hk.1.2) (.slice Ao91 t463.length co91)) (fun _ hk => hk.1.2) (.bool t466)) (fun _ hk => hk.1.2) (.int .i64 t467)) (fun _ hk => hk.2) (.int .u64 t459)) (fun _ hk => hk.2) (.slice Ao89 t460.length co89)) (fun _ hk => hk.2) (.slice Ao91 t463.length co91)) (fun _ hk => hk.2) (.bool t466)) (fun _ hk => hk.2) (.int .i64 t467)) (fun _ hk => ⟨hk.1.1.2.2.2.2.1,⟨hk.1.1.2.2.2.2.2,⟨hk.1.1.1,⟨hk.1.1.2.1,⟨hk.1.1.2.2.1,hk.1.1.2.2.2.1⟩⟩⟩⟩⟩)))⟩;replace HO_449001 : Aside0 (Kd.R k61 61 w100 w.heap.size (fun k_ => some k_ ≠ (u7 : Value).ownBlock ∧ some k_ ≠ (.slice Ao81 x449002_2.length co81 : Value).ownBlock ∧ some k_ ≠ (v457 : Value).ownBlock ∧ some k_ ≠ (.slice Ao89 t460.length co89 : Value).ownBlock ∧ some k_ ≠ (.slice Ao91 t463.length co91 : Value).ownBlock ∧ some k_ ≠ (v469 : Value).ownBlock) (.slice Ao80 x449001_2.length co80) x449001_2):=⟨(by rw [hw];exact (by (with_reducible repeat (first|apply Kd.R_alloc|apply Kd.R_drewN|apply Kd.R_drew));exact Kd.R_mono (Kd.R_far (p:=⟨G448,4,none⟩) (Kd.R_far (p:=⟨G448,3,none⟩) (Kd.R_far (p:=⟨G448,2,none⟩) (Kd.R_far (p:=⟨G448,1,none⟩) (Kd.R_far (p:=⟨G448,0,none⟩) (Kd.R_far (p:=⟨G473,4,none⟩) (Kd.R_far (p:=⟨G473,3,none⟩) (Kd.R_far (p:=⟨G473,2,none⟩) (Kd.R_far (p:=⟨G473,1,none⟩) (Kd.R_far (p:=⟨G473,0,none⟩) (Kd.R_types (Kd.R_types HO_449001.out K473.1 (by decide)) K448.1 (by decide)) (fun _ hk => hk.1.2) (.int .u64 t459)) (fun _ hk => hk.1.2) (.slice Ao89 t460.length co89)) (fun _ hk => hk.1.2) (.slice Ao91 t463.length co91)) (fun _ hk => hk.1.2) (.bool t466)) (fun _ hk => hk.1.2) (.int .i64 t467)) (fun _ hk => hk.2) (.int .u64 t459)) (fun _ hk => hk.2) (.slice Ao89 t460.length co89)) (fun _ hk => hk.2) (.slice Ao91 t463.length co91)) (fun _ hk => hk.2) (.bool t466)) (fun _ hk => hk.2) (.int .i64 t467)) (fun _ hk => ⟨hk.1.1.2.2.2.2.2,⟨hk.1.1.2.2.2.2.1,⟨hk.1.1.1,⟨hk.1.1.2.1,⟨hk.1.1.2.2.1,hk.1.1.2.2.2.1⟩⟩⟩⟩⟩)))⟩;replace HO_449002 : Aside0 (Kd.R k61 61 w100 w.heap.size (fun k_ => some k_ ≠ (u7 : Value).ownBlock ∧ some k_ ≠ (.slice Ao80 x449001_2.length co80 : Value).ownBlock ∧ some k_ ≠ (v457 : Value).ownBlock ∧ some k_ ≠ (.slice Ao89 t460.length co89 : Value).ownBlock ∧ some k_ ≠ (.slice Ao91 t463.length co91 : Value).ownBlock ∧ some k_ ≠ (v469 : Value).ownBlock) (.slice Ao81 x449002_2.length co81) x449002_2):=⟨(by rw [hw];exact (by (with_reducible repeat (first|apply Kd.R_alloc|apply Kd.R_drewN|apply Kd.R_drew));exact Kd.R_mono (Kd.R_far (p:=⟨G448,4,none⟩) (Kd.R_far (p:=⟨G448,3,none⟩) (Kd.R_far (p:=⟨G448,2,none⟩) (Kd.R_far (p:=⟨G448,1,none⟩) (Kd.R_far (p:=⟨G448,0,none⟩) (Kd.R_far (p:=⟨G473,4,none⟩) (Kd.R_far (p:=⟨G473,3,none⟩) (Kd.R_far (p:=⟨G473,2,none⟩) (Kd.R_far (p:=⟨G473,1,none⟩) (Kd.R_far (p:=⟨G473,0,none⟩) (Kd.R_types (Kd.R_types HO_449002.out K473.1 (by decide)) K448.1 (by decide)) (fun _ hk => hk.1.2) (.int .u64 t459)) (fun _ hk => hk.1.2) (.slice Ao89 t460.length co89)) (fun _ hk => hk.1.2) (.slice Ao91 t463.length co91)) (fun _ hk => hk.1.2) (.bool t466)) (fun _ hk => hk.1.2) (.int .i64 t467)) (fun _ hk => hk.2) (.int .u64 t459)) (fun _ hk => hk.2) (.slice Ao89 t460.length co89)) (fun _ hk => hk.2) (.slice Ao91 t463.length co91)) (fun _ hk => hk.2) (.bool t466)) (fun _ hk => hk.2) (.int .i64 t467)) (fun _ hk => ⟨hk.1.1.2.2.2.2.2,⟨hk.1.1.2.2.2.2.1,⟨hk.1.1.1,⟨hk.1.1.2.1,⟨hk.1.1.2.2.1,hk.1.1.2.2.2.1⟩⟩⟩⟩⟩)))⟩;replace HO458 : Aside0 (Kd.R k61 61 w100 w.heap.size (fun k_ => some k_ ≠ (u7 : Value).ownBlock ∧ some k_ ≠ (.slice Ao80 x449001_2.length co80 : Value).ownBlock ∧ some k_ ≠ (.slice Ao81 x449002_2.length co81 : Value).ownBlock ∧ some k_ ≠ (.slice Ao89 t460.length co89 : Value).ownBlock ∧ some k_ ≠ (.slice Ao91 t463.length co91 : Value).ownBlock ∧ some k_ ≠ (v469 : Value).ownBlock) v457 t456):=⟨(by rw [hw];exact (by (with_reducible repeat (first|apply Kd.R_alloc|apply Kd.R_drewN|apply Kd.R_drew));exact Kd.R_mono (Kd.R_far (p:=⟨G448,4,none⟩) (Kd.R_far (p:=⟨G448,3,none⟩) (Kd.R_far (p:=⟨G448,2,none⟩) (Kd.R_far (p:=⟨G448,1,none⟩) (Kd.R_far (p:=⟨G448,0,none⟩) (Kd.R_far (p:=⟨G473,4,none⟩) (Kd.R_far (p:=⟨G473,3,none⟩) (Kd.R_far (p:=⟨G473,2,none⟩) (Kd.R_far (p:=⟨G473,1,none⟩) (Kd.R_far (p:=⟨G473,0,none⟩) (Kd.R_types (Kd.R_types HO458.out K473.1 (by decide)) K448.1 (by decide)) (fun _ hk => hk.1.2) (.int .u64 t459)) (fun _ hk => hk.1.2) (.slice Ao89 t460.length co89)) (fun _ hk => hk.1.2) (.slice Ao91 t463.length co91)) (fun _ hk => hk.1.2) (.bool t466)) (fun _ hk => hk.1.2) (.int .i64 t467)) (fun _ hk => hk.2) (.int .u64 t459)) (fun _ hk => hk.2) (.slice Ao89 t460.length co89)) (fun _ hk => hk.2) (.slice Ao91 t463.length co91)) (fun _ hk => hk.2) (.bool t466)) (fun _ hk => hk.2) (.int .i64 t467)) (fun _ hk => ⟨hk.1.1.2.2.2.2.2,⟨hk.1.1.2.2.2.1,⟨hk.1.1.2.2.2.2.1,⟨hk.1.1.1,⟨hk.1.1.2.1,hk.1.1.2.2.1⟩⟩⟩⟩⟩)))⟩;replace HO462 : Aside0 (Kd.R k61 61 w100 w.heap.size (fun k_ => some k_ ≠ (u7 : Value).ownBlock ∧ some k_ ≠ (.slice Ao80 x449001_2.length co80 : Value).ownBlock ∧ some k_ ≠ (.slice Ao81 x449002_2.length co81 : Value).ownBlock ∧ some k_ ≠ (v457 : Value).ownBlock ∧ some k_ ≠ (.slice Ao91 t463.length co91 : Value).ownBlock ∧ some k_ ≠ (v469 : Value).ownBlock) (.slice Ao89 t460.length co89) t460):=⟨(by rw [hw];exact (by (with_reducible repeat (first|apply Kd.R_alloc|apply Kd.R_drewN|apply Kd.R_drew));exact Kd.R_mono (Kd.R_far (p:=⟨G448,4,none⟩) (Kd.R_far (p:=⟨G448,3,none⟩) (Kd.R_far (p:=⟨G448,2,none⟩) (Kd.R_far (p:=⟨G448,1,none⟩) (Kd.R_far (p:=⟨G448,0,none⟩) (Kd.R_far (p:=⟨G473,4,none⟩) (Kd.R_far (p:=⟨G473,3,none⟩) (Kd.R_far (p:=⟨G473,2,none⟩) (Kd.R_far (p:=⟨G473,1,none⟩) (Kd.R_far (p:=⟨G473,0,none⟩) (Kd.R_types (Kd.R_types HO462.out K473.1 (by decide)) K448.1 (by decide)) (fun _ hk => hk.1.2) (.int .u64 t459)) (fun _ hk => hk.1.2) (.slice Ao89 t460.length co89)) (fun _ hk => hk.1.2) (.slice Ao91 t463.length co91)) (fun _ hk => hk.1.2) (.bool t466)) (fun _ hk => hk.1.2) (.int .i64 t467)) (fun _ hk => hk.2) (.int .u64 t459)) (fun _ hk => hk.2) (.slice Ao89 t460.length co89)) (fun _ hk => hk.2) (.slice Ao91 t463.length co91)) (fun _ hk => hk.2) (.bool t466)) (fun _ hk => hk.2) (.int .i64 t467)) (fun _ hk => ⟨hk.1.1.2.2.2.2.2,⟨hk.1.1.2.2.2.1,⟨hk.1.1.2.2.2.2.1,⟨hk.1.1.1,⟨hk.1.1.2.1,hk.1.1.2.2.1⟩⟩⟩⟩⟩)))⟩;replace HO465 : Aside0 (Kd.R k61 61 w100 w.heap.size (fun k_ => some k_ ≠ (u7 : Value).ownBlock ∧ some k_ ≠ (.slice Ao80 x449001_2.length co80 : Value).ownBlock ∧ some k_ ≠ (.slice Ao81 x449002_2.length co81 : Value).ownBlock ∧ some k_ ≠ (v457 : Value).ownBlock ∧ some k_ ≠ (.slice Ao89 t460.length co89 : Value).ownBlock ∧ some k_ ≠ (v469 : Value).ownBlock) (.slice Ao91 t463.length co91) t463):=⟨(by rw [hw];exact (by (with_reducible repeat (first|apply Kd.R_alloc|apply Kd.R_drewN|apply Kd.R_drew));exact Kd.R_mono (Kd.R_far (p:=⟨G448,4,none⟩) (Kd.R_far (p:=⟨G448,3,none⟩) (Kd.R_far (p:=⟨G448,2,none⟩) (Kd.R_far (p:=⟨G448,1,none⟩) (Kd.R_far (p:=⟨G448,0,none⟩) (Kd.R_far (p:=⟨G473,4,none⟩) (Kd.R_far (p:=⟨G473,3,none⟩) (Kd.R_far (p:=⟨G473,2,none⟩) (Kd.R_far (p:=⟨G473,1,none⟩) (Kd.R_far (p:=⟨G473,0,none⟩) (Kd.R_types (Kd.R_types HO465.out K473.1 (by decide)) K448.1 (by decide)) (fun _ hk => hk.1.2) (.int .u64 t459)) (fun _ hk => hk.1.2) (.slice Ao89 t460.length co89)) (fun _ hk => hk.1.2) (.slice Ao91 t463.length co91)) (fun _ hk => hk.1.2) (.bool t466)) (fun _ hk => hk.1.2) (.int .i64 t467)) (fun _ hk => hk.2) (.int .u64 t459)) (fun _ hk => hk.2) (.slice Ao89 t460.length co89)) (fun _ hk => hk.2) (.slice Ao91 t463.length co91)) (fun _ hk => hk.2) (.bool t466)) (fun _ hk => hk.2) (.int .i64 t467)) (fun _ hk => ⟨hk.1.1.2.2.2.2.2,⟨hk.1.1.2.2.2.1,⟨hk.1.1.2.2.2.2.1,⟨hk.1.1.1,⟨hk.1.1.2.1,hk.1.1.2.2.1⟩⟩⟩⟩⟩)))⟩;replace HO470 : Aside0 (Kd.R k61 61 w100 w.heap.size (fun k_ => some k_ ≠ (u7 : Value).ownBlock ∧ some k_ ≠ (.slice Ao80 x449001_2.length co80 : Value).ownBlock ∧ some k_ ≠ (.slice Ao81 x449002_2.length co81 : Value).ownBlock ∧ some k_ ≠ (v457 : Value).ownBlock ∧ some k_ ≠ (.slice Ao89 t460.length co89 : Value).ownBlock ∧ some k_ ≠ (.slice Ao91 t463.length co91 : Value).ownBlock) v469 t468):=⟨(by rw [hw];exact (by (with_reducible repeat (first|apply Kd.R_alloc|apply Kd.R_drewN|apply Kd.R_drew));exact Kd.R_mono (Kd.R_far (p:=⟨G448,4,none⟩) (Kd.R_far (p:=⟨G448,3,none⟩) (Kd.R_far (p:=⟨G448,2,none⟩) (Kd.R_far (p:=⟨G448,1,none⟩) (Kd.R_far (p:=⟨G448,0,none⟩) (Kd.R_far (p:=⟨G473,4,none⟩) (Kd.R_far (p:=⟨G473,3,none⟩) (Kd.R_far (p:=⟨G473,2,none⟩) (Kd.R_far (p:=⟨G473,1,none⟩) (Kd.R_far (p:=⟨G473,0,none⟩) (Kd.R_types (Kd.R_types HO470.out K473.1 (by decide)) K448.1 (by decide)) (fun _ hk => hk.1.2) (.int .u64 t459)) (fun _ hk => hk.1.2) (.slice Ao89 t460.length co89)) (fun _ hk => hk.1.2) (.slice Ao91 t463.length co91)) (fun _ hk => hk.1.2) (.bool t466)) (fun _ hk => hk.1.2) (.int .i64 t467)) (fun _ hk => hk.2) (.int .u64 t459)) (fun _ hk => hk.2) (.slice Ao89 t460.length co89)) (fun _ hk => hk.2) (.slice Ao91 t463.length co91)) (fun _ hk => hk.2) (.bool t466)) (fun _ hk => hk.2) (.int .i64 t467)) (fun _ hk => ⟨hk.1.1.2.2.2.2.2,⟨hk.1.1.2.2.2.1,⟨hk.1.1.2.2.2.2.1,⟨hk.1.1.1,⟨hk.1.1.2.1,hk.1.1.2.2.1⟩⟩⟩⟩⟩)))⟩;replace K448:=zVp hw (.cells #[.int .u64 t459,.slice Ao89 t460.length co89,.slice Ao91 t463.length co91,.bool t466,.int .i64 t467] 39 (0,0)) K448;replace K449:=zV hw K449;replace K473:=zVp hw (.cells #[.int .u64 t459,.slice Ao89 t460.length co89,.slice Ao91 t463.length co91,.bool t466,.int .i64 t467] 39 (0,0)) K473;replace HB:=zU hw HB;clear hw;obtain ⟨hcz101_0,hcz101_1,hcz101_2,hcz101_3,hcz101_4,hfz101_0,hfz101_1,hfz101_2,hfz101_3,hfz101_4⟩:=zc5 K448)|((with_reducible refine gate_callee (f:=21) rfl ?_);refine zg (some 86) Try.func21 #[.agg #[.int .u64 t459,.slice Ao89 t460.length co89,.slice Ao91 t463.length co91,.bool t466,.int .i64 t467],.slice A1 l1.length c1] ?_;(with_reducible refine (delta_Settled.calls k2 t459 _ _ t460 _ _ t463 t466 t467 _ _ l1 true _ ?side1 ?side2 ?side3 ?side4 ?side5 ?side6 A75.out).mono ?_);(case side1 => exact zC ((Kd.R_reads' HO462.out).2.2));(case side2 => exact (Kd.R_reads' HO462.out).2.1);(case side3 => exact zC ((Kd.R_reads' HO465.out).2.2));(case side4 => exact (Kd.R_reads' HO465.out).2.1);(case side5 => exact zC (Kd.C_below HR1.out HB.1));(case side6 => exact HC1.out);rintro e w102 ⟨rfl,hb⟩;refine ⟨_,rfl,?_⟩;replace HO_7:=zRb HO_7 hb;replace HO_449001:=zRb HO_449001 hb;replace HO_449002:=zRb HO_449002 hb;replace HO458:=zRb HO458 hb;replace HO462:=zRb HO462 hb;replace HO465:=zRb HO465 hb;replace HO470:=zRb HO470 hb;replace K448:=zB K448 hb;replace K449:=zB K449 hb;replace K473:=zB K473 hb;replace HB:=zS HB hb;(try clear hb);obtain ⟨Ao103,co103,eo103⟩:=Kd.R_slice HO_7.out;subst eo103)|(go_at_call 17;(with_reducible refine (beaconref06_SameNews.calls k2 _ _ x7_2 _ _ l1 true _ ?side1 ?side2 ?side3 ?side4 A77.out).mono ?_);(case side1 => exact zC ((Kd.R_reads' HO_7.out).2.2));(case side2 => exact (Kd.R_reads' HO_7.out).2.1);(case side3 => exact zC (Kd.C_below HR1.out HB.1));(case side4 => exact HC1.out);rintro e w104 ⟨rfl,hb⟩;replace HO_7:=zRb HO_7 hb;replace HO_449001:=zRb HO_449001 hb;replace HO_449002:=zRb HO_449002 hb;replace HO458:=zRb HO458 hb;replace HO462:=zRb HO462 hb;replace HO465:=zRb HO465 hb;replace HO470:=zRb HO470 hb;replace K448:=zB K448 hb;replace K449:=zB K449 hb;replace K473:=zB K473 hb;replace HB:=zS HB hb;(try clear hb))|(go_at_call 11;(with_reducible refine (beaconlaw14_awake.calls k2  t476 _ A79.out).mono ?_);rintro e w105 ⟨rfl,hb⟩;replace HO_7:=zRb HO_7 hb;replace HO_449001:=zRb HO_449001 hb;replace HO_449002:=zRb HO_449002 hb;replace HO458:=zRb HO458 hb;replace HO462:=zRb HO462 hb;replace HO465:=zRb HO465 hb;replace HO470:=zRb HO470 hb;replace K448:=zB K448 hb;replace K449:=zB K449 hb;replace K473:=zB K473 hb;replace HB:=zS HB hb;(try clear hb)))
           go_ret
           exact ⟨zE,zH HB⟩
          ·replace c78:=Bool.eq_false_iff.mpr c78
           subst c78
           rw [if_neg (show ¬ (false = true) by decide)] at H
           exact absurd ((Option.some.inj H).trans HR_.out) (by decide)
         ·replace c76:=Bool.eq_false_iff.mpr c76
          subst c76
          rw [if_neg (show ¬ (false = true) by decide)] at H
          exact absurd ((Option.some.inj H).trans HR_.out) (by decide)
       ·rw [if_neg c25] at H
        have c25b0 : (t472 == 0) = false:=beq_eq_false_iff_ne.mpr c25
        have c25b1 : (t472 != 0) = true:=bne_iff_ne.mpr c25
        exact absurd ((Option.some.inj H).trans HR_.out) (by decide)
      ·rw [if_neg c22] at H
       have c22b0 : decide (0 < x8_2) = false:=decide_eq_false c22
       clear c22
       replace H:=Option.bind_eq_some_iff.mp H
       obtain ⟨t453,A1060,H⟩:=H
       (try dsimp only at H)
       have A106:=zA A1060
       clear A1060
       by_cases c107 : t453 = true
       ·subst c107
        rw [if_pos rfl] at H
        replace H:=Option.bind_eq_some_iff.mp H
        obtain ⟨t454,A1080,H⟩:=H
        (try dsimp only at H)
        have A108:=zA A1080
        clear A1080
        by_cases c109 : t454 = true
        ·subst c109
         rw [if_pos rfl] at H
         replace H:=Option.bind_eq_some_iff.mp H
         obtain ⟨t455,A1100,H⟩:=H
         (try dsimp only at H)
         have A110:=zA A1100
         clear A1100
         obtain rfl:=Option.some.inj H
         have:=NB448_449.1
         have:=NB449_448.1
         obtain ⟨hcz112_0,hcz112_1,hcz112_2,hcz112_3,hcz112_4,hfz112_0,hfz112_1,hfz112_2,hfz112_3,hfz112_4⟩:=zc5 K448
         obtain ⟨Ao113,co113,eo113⟩:=Kd.R_slice HO_449001.out
         subst eo113
         obtain ⟨Ao114,co114,eo114⟩:=Kd.R_slice HO_449002.out
         subst eo114
         go_wp2_with (first|((with_reducible refine gate_callee (f:=21) rfl ?_);refine zg (some 86) Try.func21 #[.agg #[.int .u64 x449000_2,.slice Ao113 x449001_2.length co113,.slice Ao114 x449002_2.length co114,.bool x449003_2,.int .i64 x449004_2],.slice A1 l1.length c1] ?_;(with_reducible refine (delta_Settled.calls k2 x449000_2 _ _ x449001_2 _ _ x449002_2 x449003_2 x449004_2 _ _ l1 true _ ?side1 ?side2 ?side3 ?side4 ?side5 ?side6 A106.out).mono ?_);(case side1 => exact zC ((Kd.R_reads' HO_449001.out).2.2));(case side2 => exact (Kd.R_reads' HO_449001.out).2.1);(case side3 => exact zC ((Kd.R_reads' HO_449002.out).2.2));(case side4 => exact (Kd.R_reads' HO_449002.out).2.1);(case side5 => exact zC (Kd.C_below HR1.out HB.1));(case side6 => exact HC1.out);rintro e w115 ⟨rfl,hb⟩;refine ⟨_,rfl,?_⟩;replace HO_7:=zRb HO_7 hb;replace HO_449001:=zRb HO_449001 hb;replace HO_449002:=zRb HO_449002 hb;replace K448:=zB K448 hb;replace K449:=zB K449 hb;replace HB:=zS HB hb;(try clear hb);obtain ⟨Ao116,co116,eo116⟩:=Kd.R_slice HO_7.out;subst eo116)|(go_at_call 17;(with_reducible refine (beaconref06_SameNews.calls k2 _ _ x7_2 _ _ l1 true _ ?side1 ?side2 ?side3 ?side4 A108.out).mono ?_);(case side1 => exact zC ((Kd.R_reads' HO_7.out).2.2));(case side2 => exact (Kd.R_reads' HO_7.out).2.1);(case side3 => exact zC (Kd.C_below HR1.out HB.1));(case side4 => exact HC1.out);rintro e w117 ⟨rfl,hb⟩;replace HO_7:=zRb HO_7 hb;replace HO_449001:=zRb HO_449001 hb;replace HO_449002:=zRb HO_449002 hb;replace K448:=zB K448 hb;replace K449:=zB K449 hb;replace HB:=zS HB hb;(try clear hb))|(go_at_call 11;(with_reducible refine (beaconlaw14_awake.calls k2  t455 _ A110.out).mono ?_);rintro e w118 ⟨rfl,hb⟩;replace HO_7:=zRb HO_7 hb;replace HO_449001:=zRb HO_449001 hb;replace HO_449002:=zRb HO_449002 hb;replace K448:=zB K448 hb;replace K449:=zB K449 hb;replace HB:=zS HB hb;(try clear hb)))
         go_ret
         exact ⟨zE,zH HB⟩
        ·replace c109:=Bool.eq_false_iff.mpr c109
         subst c109
         rw [if_neg (show ¬ (false = true) by decide)] at H
         exact absurd ((Option.some.inj H).trans HR_.out) (by decide)
       ·replace c107:=Bool.eq_false_iff.mpr c107
        subst c107
        rw [if_neg (show ¬ (false = true) by decide)] at H
        exact absurd ((Option.some.inj H).trans HR_.out) (by decide)

end Go.Proofs.Ytpcgjdllgdkobaa.XD
