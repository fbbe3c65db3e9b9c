/- Go functions of this seat as Lean functions, with proofs that the calls come to them. (Written by xprint.py, a program of this session, over the kit's print.) -/
import Derived.Test.YtpcgjdllgdkobaaXDx0
import Derived.Test.YtpcgjdllgdkobaaXDx10
import Derived.Test.YtpcgjdllgdkobaaXDx17
import Derived.Test.YtpcgjdllgdkobaaXDx18
namespace Go.Proofs.Ytpcgjdllgdkobaa.XD
open Go.RowKit Go.Proofs.YtpcgjdllgdkobaaW.PrintWords Go.Proofs.YtpcgjdllgdkobaaW.PrintLast Go.Proofs.YtpcgjdllgdkobaaW.PrintMore
attribute [local go_sem] max2_int min2_int max_two min_two max_three min_three max_four min_four   -- for this text's walks alone
set_option linter.unusedVariables false
set_option linter.unusedSimpArgs false
theorem Z19.zm {p q : Prop} (hk : p) (f : p → q := by (intro hk; (repeat' (with_reducible refine And.intro ?_ ?_)); (all_goals first | exact hk | exact hk.1 | exact hk.2 | exact hk.1.1 | exact hk.1.2 | exact hk.2.1 | exact hk.2.2 | exact hk.1.1.1 | exact hk.1.1.2 | exact hk.1.2.1 | exact hk.1.2.2 | exact hk.2.1.1 | exact hk.2.1.2 | exact hk.2.2.1 | exact hk.2.2.2 | exact hk.1.1.1.1 | exact hk.1.1.1.2 | exact hk.1.1.2.1 | exact hk.1.1.2.2 | exact hk.1.2.1.1 | exact hk.1.2.1.2 | exact hk.1.2.2.1 | exact hk.1.2.2.2 | exact hk.2.1.1.1 | exact hk.2.1.1.2 | exact hk.2.1.2.1 | exact hk.2.1.2.2 | exact hk.2.2.1.1 | exact hk.2.2.1.2 | exact hk.2.2.2.1 | exact hk.2.2.2.2 | exact hk.1.1.1.1.1 | exact hk.1.1.1.1.2 | exact hk.1.1.1.2.1 | exact hk.1.1.1.2.2 | exact hk.1.1.2.1.1 | exact hk.1.1.2.1.2 | exact hk.1.1.2.2.1 | exact hk.1.1.2.2.2 | exact hk.1.2.1.1.1 | exact hk.1.2.1.1.2 | exact hk.1.2.1.2.1 | exact hk.1.2.1.2.2 | exact hk.1.2.2.1.1 | exact hk.1.2.2.1.2 | exact hk.1.2.2.2.1 | exact hk.1.2.2.2.2 | exact hk.2.1.1.1.1 | exact hk.2.1.1.1.2 | exact hk.2.1.1.2.1 | exact hk.2.1.1.2.2 | exact hk.2.1.2.1.1 | exact hk.2.1.2.1.2 | exact hk.2.1.2.2.1 | exact hk.2.1.2.2.2 | exact hk.2.2.1.1.1 | exact hk.2.2.1.1.2 | exact hk.2.2.1.2.1 | exact hk.2.2.1.2.2 | exact hk.2.2.2.1.1 | exact hk.2.2.2.1.2 | exact hk.2.2.2.2.1 | exact hk.2.2.2.2.2))) : q := f hk
open List renaming setIfInBounds_toArray → xA, set_cons_zero → xB, set_cons_succ → xC
open Go.Proofs.YtpcgjdllgdkobaaW.PrintWords renaming blk_drewN → bN, blk_drew → bD, blk_alloc → bA, below_set → bS, blk_frozen → bF, blk_cell → bC, cell_far → cF, blk_far → bZ, blk_below → bB, pw_below_drewN → bwN, below_drew1 → bw1, below_alloc → bwA
open Go.Proofs.YtpcgjdllgdkobaaW.PrintZ
open Bool renaming true → T,false → F

/-! ### beaconref14_diff: function 32 -/
mutual
def beaconref14_diff.l0 : Nat → List (S61) → List (S61) → List (S61) → Int → Option ((List (S61)))
 | 0, _, _, _, _ => none
 | k + 1, x0, x1, x5, x6 => if x6 < (x1.length : Int) then (if 0 ≤ x6 then ((beaconref14_place.f k x0 ((rd_T61 x1 x6).f0) ((rd_T61 x1 x6).f1) ((rd_T61 x1 x6).f2) ((rd_T61 x1 x6).f3) ((rd_T61 x1 x6).f4)).bind fun t243 => (if t243 < 0 then (if x5.length < 3518437208883 then (beaconref14_diff.l0 k x0 x1 (x5 ++ [(⟨(rd_T61 x1 x6).f0, (rd_T61 x1 x6).f1, (rd_T61 x1 x6).f2, (rd_T61 x1 x6).f3, (rd_T61 x1 x6).f4⟩ : S61)]) (wrap64 (x6 + 1))) else (none)) else (if 0 ≤ t243 then (if t243 < (x0.length : Int) then ((beaconref06_SameNews.f k (([(⟨(rd_T61 x0 t243).f0, (rd_T61 x0 t243).f1, (rd_T61 x0 t243).f2, (rd_T61 x0 t243).f3, (rd_T61 x0 t243).f4⟩ : S61)] : List (S61))) (([(⟨(rd_T61 x1 x6).f0, (rd_T61 x1 x6).f1, (rd_T61 x1 x6).f2, (rd_T61 x1 x6).f3, (rd_T61 x1 x6).f4⟩ : S61)] : List (S61)))).bind fun t256 => (if t256 = true then (beaconref14_diff.l0 k x0 x1 x5 (wrap64 (x6 + 1))) else (if x5.length < 3518437208883 then (beaconref14_diff.l0 k x0 x1 (x5 ++ [(⟨(rd_T61 x1 x6).f0, (rd_T61 x1 x6).f1, (rd_T61 x1 x6).f2, (rd_T61 x1 x6).f3, (rd_T61 x1 x6).f4⟩ : S61)]) (wrap64 (x6 + 1))) else (none)))) else (none)) else (none)))) else (none)) else (beaconref14_diff.l1 k x0 x1 x5 0)
def beaconref14_diff.l1 : Nat → List (S61) → List (S61) → List (S61) → Int → Option ((List (S61)))
 | 0, _, _, _, _ => none
 | k + 1, x0, x1, x5, x8 => if x8 < (x0.length : Int) then (if 0 ≤ x8 then ((beaconref14_place.f k x1 ((rd_T61 x0 x8).f0) ((rd_T61 x0 x8).f1) ((rd_T61 x0 x8).f2) ((rd_T61 x0 x8).f3) ((rd_T61 x0 x8).f4)).bind fun t262 => (if t262 < 0 then ((math_Inf.f 1).bind fun t265 => ((beaconref14_put.f k x5 ((rd_T61 x0 x8).f0) ((rd_T61 x0 x8).f1) t265 0 0).bind fun t266 => (beaconref14_diff.l1 k x0 x1 t266 (wrap64 (x8 + 1))))) else (beaconref14_diff.l1 k x0 x1 x5 (wrap64 (x8 + 1))))) else (none)) else (some x5)
end
def beaconref14_diff.f (k : Nat) (l0 : List (S61)) (l1 : List (S61)) : Option ((List (S61))) := beaconref14_diff.l0 k l0 l1 ([] : List (S61)) 0
theorem beaconref14_diff.mono_l : ∀ k, (∀ y0 y1 y2 y3, LeO (beaconref14_diff.l0 k y0 y1 y2 y3) (beaconref14_diff.l0 (k + 1) y0 y1 y2 y3)) ∧ (∀ y0 y1 y2 y3, LeO (beaconref14_diff.l1 k y0 y1 y2 y3) (beaconref14_diff.l1 (k + 1) y0 y1 y2 y3))
 | 0 => ⟨fun _ _ _ _ r h => by simp [beaconref14_diff.l0] at h, fun _ _ _ _ r h => by simp [beaconref14_diff.l1] at h⟩
 | k + 1 => by
  obtain ⟨ih0,ih1⟩:=beaconref14_diff.mono_l k
  refine ⟨?_,?_⟩
  ·intro y0 y1 y2 y3
   unfold beaconref14_diff.l0
   repeat' first
   | (with_reducible exact ih0 _ _ _ _)
   | (with_reducible exact ih1 _ _ _ _)
   | (with_reducible exact beaconref06_SameNews.mono _ _ _)
   | (with_reducible exact beaconref14_place.mono _ _ _ _ _ _ _)
   | (with_reducible exact beaconref14_put.mono _ _ _ _ _ _ _)
   | (with_reducible exact LeO.refl _)
   | (with_reducible exact LeO.none _)
   | (with_reducible refine LeO.ite ?_ ?_)
   | (with_reducible refine LeO.bind ?_ (fun _ => ?_))
   | exact ih0 _ _ _ _
   | exact ih1 _ _ _ _
   | exact beaconref06_SameNews.mono _ _ _
   | exact beaconref14_place.mono _ _ _ _ _ _ _
   | exact beaconref14_put.mono _ _ _ _ _ _ _
   | exact LeO.none _
   | refine LeO.ite ?_ ?_
   | refine LeO.bind ?_ (fun _ => ?_)
  ·intro y0 y1 y2 y3
   unfold beaconref14_diff.l1
   repeat' first
   | (with_reducible exact ih0 _ _ _ _)
   | (with_reducible exact ih1 _ _ _ _)
   | (with_reducible exact beaconref06_SameNews.mono _ _ _)
   | (with_reducible exact beaconref14_place.mono _ _ _ _ _ _ _)
   | (with_reducible exact beaconref14_put.mono _ _ _ _ _ _ _)
   | (with_reducible exact LeO.refl _)
   | (with_reducible exact LeO.none _)
   | (with_reducible refine LeO.ite ?_ ?_)
   | (with_reducible refine LeO.bind ?_ (fun _ => ?_))
   | exact ih0 _ _ _ _
   | exact ih1 _ _ _ _
   | exact beaconref06_SameNews.mono _ _ _
   | exact beaconref14_place.mono _ _ _ _ _ _ _
   | exact beaconref14_put.mono _ _ _ _ _ _ _
   | exact LeO.none _
   | refine LeO.ite ?_ ?_
   | refine LeO.bind ?_ (fun _ => ?_)
theorem beaconref14_diff.mono : ∀ a0 a1 k, LeO (beaconref14_diff.f k a0 a1) (beaconref14_diff.f (k + 1) a0 a1) := by
 intro a0 a1 k
 obtain ⟨ih0,ih1⟩:=beaconref14_diff.mono_l k
 unfold beaconref14_diff.f
 repeat' first
   | (with_reducible exact ih0 _ _ _ _)
   | (with_reducible exact ih1 _ _ _ _)
   | (with_reducible exact beaconref06_SameNews.mono _ _ _)
   | (with_reducible exact beaconref14_place.mono _ _ _ _ _ _ _)
   | (with_reducible exact beaconref14_put.mono _ _ _ _ _ _ _)
   | (with_reducible exact LeO.refl _)
   | (with_reducible exact LeO.none _)
   | (with_reducible refine LeO.ite ?_ ?_)
   | (with_reducible refine LeO.bind ?_ (fun _ => ?_))
   | exact ih0 _ _ _ _
   | exact ih1 _ _ _ _
   | exact beaconref06_SameNews.mono _ _ _
   | exact beaconref14_place.mono _ _ _ _ _ _ _
   | exact beaconref14_put.mono _ _ _ _ _ _ _
   | exact LeO.none _
   | refine LeO.ite ?_ ?_
   | refine LeO.bind ?_ (fun _ => ?_)
def beaconref14_diff.T6 : Bool × List (List Nat × List Nat) := (true, [([], []), ([0], [0]), ([1], [1]), ([2], [2]), ([2], [2]), ([3, 4, 2], [2, 3, 4]), ([5, 2], [2, 5]), ([6, 2], [2, 6]), ([2], [2]), ([2], [2]), ([8, 9, 2], [2, 8, 9]), ([10, 2], [2, 10]), ([11, 2], [2, 11]), ([7, 12, 2, 2], [2, 7, 12]), ([13, 2], [2, 13]), ([2, 14], [2, 14])])
def beaconref14_diff.B6 : List Nat := [0, 1, 3, 7, 7, 31, 63, 127, 7, 7, 775, 1799, 3847, 8191, 16383, 32767]
theorem beaconref14_diff.tab6 : rtab .any (opsOf Try.f32 6) = beaconref14_diff.T6 := by kernel_rfl
theorem beaconref14_diff.bits6 : waitsOk beaconref14_diff.T6.2 beaconref14_diff.B6 = true := by kernel_rfl
def beaconref14_diff.T12 : Bool × List (List Nat × List Nat) := (true, [([], []), ([], []), ([], []), ([1, 2], [1, 2]), ([3], [3]), ([4], [4]), ([], []), ([], []), ([6, 7], [6, 7]), ([8], [8]), ([9], [9]), ([], []), ([5, 10, 11], [5, 10, 11]), ([0, 12, 11], [0, 12]), ([13, 13, 0, 1, 2, 3, 4, 5, 6, 7, 8, 9, 10, 11, 12, 13], [0, 13])])
def beaconref14_diff.B12 : List Nat := [0, 0, 0, 6, 14, 30, 0, 0, 192, 448, 960, 0, 4094, 8191, 16383]
theorem beaconref14_diff.tab12 : rtab .any (opsOf Try.f32 12) = beaconref14_diff.T12 := by kernel_rfl
theorem beaconref14_diff.bits12 : waitsOk beaconref14_diff.T12.2 beaconref14_diff.B12 = true := by kernel_rfl
set_option maxHeartbeats 8000000 in
set_option maxRecDepth 100000 in
theorem beaconref14_diff.calls (k : Nat) (A0 : Option Addr) (c0 : Nat) (l0 : List (S61)) (A1 : Option Addr) (c1 : Nat) (l1 : List (S61)) (r : List (S61)) (w : World) (hr0 : Kd.C k61 w A0 l0.length l0) (hc0 : l0.length ≤ c0) (hr1 : Kd.C k61 w A1 l1.length l1) (hc1 : l1.length ≤ c1) (h : beaconref14_diff.f k l0 l1 = some r) :
  Calls Try.prog 32 #[.slice A0 l0.length c0,.slice A1 l1.length c1] w fun e w' => ∃ v0_ : Value,e = .returned (v0_) ∧ Kd.R k61 61 w' w.heap.size (fun _ => True) v0_ r ∧ Below w.heap.size w w':=by
 have hu61:=Try.underlying61
 have HR0:=zA hr0
 have HC0:=zA hc0
 clear hr0 hc0
 have HR1:=zA hr1
 have HC1:=zA hc1
 clear hr1 hc1
 have HB:=zA (Below.refl w.heap.size w)
 have H : (beaconref14_diff.l0 k l0 l1 ([] : List (S61)) 0) = some r:=h
 clear h
 have H':=zA H
 clear H
 go_enter Try.func32,Try.ntmps32
 go_wp2
 go_loopg [5,6] k (fun kq v5 v6 w' => ∃ (x5_1 : List (S61)) (x6_1 : Int),v6 = .int .i64 x6_1 ∧ Aside0 (beaconref14_diff.l0 kq l0 l1 x5_1 x6_1 = some r) ∧ Aside0 (kq ≤ k) ∧ Aside0 (Kd.R k61 61 w' w.heap.size (fun _ => True) v5 x5_1) ∧ Aside0 (Below w.heap.size w w'))
 case atStart => exact ⟨(([] : List (S61))),(0),ze,H',⟨Nat.le_refl _⟩,⟨by first|exact Kd.R_nil _ _ _ _ _|exact Kd.N_nil _ _ _ _ _|exact Kd.V_nil _ _ _ _ _|exact Kd.Q_nil _ _ _ _ _|exact Kd.S_nil _ _ _ _ _⟩,⟨zH HB⟩⟩
 case round =>
  clear H'
  try clear c1
  obtain ⟨x5_1,x6_1,rfl,HA,HK1,HO_5,HB⟩:=hrel
  cases gk with
  | zero => exact absurd HA.out (by simp [beaconref14_diff.l0])
  | succ k1 =>
   have H:=HA.out
   clear HA
   simp only [beaconref14_diff.l0] at H
   by_cases c3 : x6_1 < (l1.length : Int)
   ·rw [if_pos c3] at H
    have c3b0 : decide (x6_1 < (l1.length : Int)) = true:=decide_eq_true c3
    clear c3
    by_cases c4 : 0 ≤ x6_1
    ·rw [if_pos c4] at H
     have c4b0 : decide (0 ≤ x6_1) = true:=decide_eq_true c4
     clear c4
     replace H:=Option.bind_eq_some_iff.mp H
     obtain ⟨t243,A50,H⟩:=H
     (try dsimp only at H)
     have A5:=zA A50
     clear A50
     by_cases c6 : t243 < 0
     ·rw [if_pos c6] at H
      have c6b0 : decide (t243 < 0) = true:=decide_eq_true c6
      clear c6
      by_cases c7 : x5_1.length < 3518437208883
      ·rw [if_pos c7] at H
       have LMc7:=zA c7
       clear c7
       obtain ⟨y245,hy245⟩ : ∃ y_ : List (S61),y_ = (x5_1 ++ [(⟨(rd_T61 l1 x6_1).f0,(rd_T61 l1 x6_1).f1,(rd_T61 l1 x6_1).f2,(rd_T61 l1 x6_1).f3,(rd_T61 l1 x6_1).f4⟩ : S61)]):=⟨_,rfl⟩
       replace H : (beaconref14_diff.l0 k1 l0 l1 y245 (wrap64 (x6_1 + 1))) = some r:=by first|(rw [hy245];with_reducible exact H)|(have H2_:=(Option.bind_some _ _).symm.trans H;rw [hy245];with_reducible exact H2_)|(have H2_:=(Option.bind_some _ _).symm.trans H;with_reducible exact H2_)|with_reducible exact H|(rw [hy245];exact H)|exact H
       have Ny245:=zA hy245
       clear hy245
       have H':=zA H
       clear H
       have p242 : 0 ≤ (x6_1 : Int):=zd
       have q242 : x6_1 < (l1.length : Int):=zd
       obtain ⟨ad242,e242,hx242_0,hx242_1,hx242_2,hx242_3,hx242_4⟩:=at_T61 HR1.out x6_1 p242 q242
       cases e242
       replace hx242_0:=zh HB hx242_0
       replace hx242_1:=zh HB hx242_1
       replace hx242_2:=zh HB hx242_2
       replace hx242_3:=zh HB hx242_3
       replace hx242_4:=zh HB hx242_4
       replace p242:=eq_true p242
       replace q242:=eq_true q242
       try go_wp2_with (first|((with_reducible refine gate_callee (f:=45) rfl ?_);refine zg (some 20) Try.func45 #[.slice A0 l0.length c0,.agg #[.int .i64 ((rd_T61 l1 x6_1).f0),.int .i64 ((rd_T61 l1 x6_1).f1),.float .f64 ((rd_T61 l1 x6_1).f2),.float .f64 ((rd_T61 l1 x6_1).f3),.int .i64 ((rd_T61 l1 x6_1).f4)]] ?_;(with_reducible refine (beaconref14_place.calls k1 _ _ l0 ((rd_T61 l1 x6_1).f0) ((rd_T61 l1 x6_1).f1) ((rd_T61 l1 x6_1).f2) ((rd_T61 l1 x6_1).f3) ((rd_T61 l1 x6_1).f4) t243 _ ?side1 ?side2 A5.out).mono ?_);(case side1 => exact zC (Kd.C_below HR0.out HB.1));(case side2 => exact HC0.out);rintro e w8 ⟨rfl,hb⟩;refine ⟨_,rfl,?_⟩;replace HO_5:=zRb HO_5 hb;replace HB:=zS HB hb;(try clear hb)))
       replace HO_5:=zA (Kd.R_drew HO_5.out)
       replace HB:=zA (bw1 HB.1)
       refine start_ (n:=16) (S:=fun w' => True) (ds:=[]) #[F,F,F,F,F,F,F,F,F,F,F,F,F,F,F,F] (by kernel_rfl) rfl rfl trivial (fun hHeld => ?_);refine with_tabW beaconref14_diff.tab6 beaconref14_diff.bits6 (fun HT_ HW_ => ?_)
       generalize w8.drew = w9 at HO_5 HB hHeld ⊢
       refine pz 0 21 #[T,F,F,F,F,F,F,F,F,F,F,F,F,F,F,F] HT_.1 ?_
       refine pz 1 22 #[T,T,F,F,F,F,F,F,F,F,F,F,F,F,F,F] HT_.1 ?_
       refine pz 2 23 #[T,T,T,F,F,F,F,F,F,F,F,F,F,F,F,F] HT_.1 ?_
       refine pu 3 24 #[T,T,T,T,F,F,F,F,F,F,F,F,F,F,F,F] HT_.1 ?_
       refine pu 4 25 #[T,T,T,T,T,F,F,F,F,F,F,F,F,F,F,F] HT_.1 ?_
       refine pu 5 26 #[T,T,T,T,T,T,F,F,F,F,F,F,F,F,F,F] HT_.1 ?_
       refine pu 6 27 #[T,T,T,T,T,T,T,F,F,F,F,F,F,F,F,F] HT_.1 ?_
       refine pu 7 28 #[T,T,T,T,T,T,T,T,F,F,F,F,F,F,F,F] HT_.1 ?_
       refine pu 8 29 #[T,T,T,T,T,T,T,T,T,F,F,F,F,F,F,F] HT_.1 ?_
       refine pu 9 30 #[T,T,T,T,T,T,T,T,T,T,F,F,F,F,F,F] HT_.1 ?_
       refine pu 10 31 #[T,T,T,T,T,T,T,T,T,T,T,F,F,F,F,F] HT_.1 ?_
       refine pu 11 32 #[T,T,T,T,T,T,T,T,T,T,T,T,F,F,F,F] HT_.1 ?_
       refine pu 12 33 #[T,T,T,T,T,T,T,T,T,T,T,T,T,F,F,F] HT_.1 ?_
       refine pu 13 34 #[T,T,T,T,T,T,T,T,T,T,T,T,T,T,F,F] HT_.1 ?_
       refine pu 14 35 #[T,T,T,T,T,T,T,T,T,T,T,T,T,T,T,F] HT_.1 ?_
       refine pz 15 36 #[T,T,T,T,T,T,T,T,T,T,T,T,T,T,T,T] HT_.1 ?_
       refine done_ (done_of HT_.out (by kernel_rfl)) ?_
       have p244 : 0 ≤ (x6_1 : Int):=zd
       have q244 : x6_1 < (l1.length : Int):=zd
       obtain ⟨ad244,e244,hx244_0,hx244_1,hx244_2,hx244_3,hx244_4⟩:=at_T61 HR1.out x6_1 p244 q244
       obtain rfl : ad242 = ad244:=(by injection e244)
       replace hx244_0:=zh HB hx244_0
       replace hx244_1:=zh HB hx244_1
       replace hx244_2:=zh HB hx244_2
       replace hx244_3:=zh HB hx244_3
       replace hx244_4:=zh HB hx244_4
       replace p244:=eq_true p244
       replace q244:=eq_true q244
       try go_wp2_with (first|((with_reducible refine gate_builtin (b:=.append) (xs:=#[.tmp 37,.tmp 42]) rfl ?_);(try (refine gate_guard (by rfl) ?_;dsimp only));at_builtin;refine Kd.R_append k61 (w0:=w) w.heap.size rfl (.tmp 37) (.tmp 42) 30 61 (.agg #[(.int .i64 0),(.int .i64 0),(.float .f64 0),(.float .f64 0),(.int .i64 0)]) 40 rfl Try.underlying30 info61 rfl (by decide) (by omega) u5 x5_1 (⟨(rd_T61 l1 x6_1).f0,(rd_T61 l1 x6_1).f1,(rd_T61 l1 x6_1).f2,(rd_T61 l1 x6_1).f3,(rd_T61 l1 x6_1).f4⟩ : S61) [.int .i64 ((rd_T61 l1 x6_1).f0),.int .i64 ((rd_T61 l1 x6_1).f1),.float .f64 ((rd_T61 l1 x6_1).f2),.float .f64 ((rd_T61 l1 x6_1).f3),.int .i64 ((rd_T61 l1 x6_1).f4)] (fun _ => True) (fun _ => False) rfl rfl ?aP (fun _ hk => hk.elim) ?aF ?aO ?aB ?aS ?aL ?_;(case aP => exact k61_mkM _ _ _ (⟨(rd_T61 l1 x6_1).f0,(rd_T61 l1 x6_1).f1,(rd_T61 l1 x6_1).f2,(rd_T61 l1 x6_1).f3,(rd_T61 l1 x6_1).f4⟩ : S61));(case aB => exact (zH HB));(case aF => exact (fun _ _ => trivial));(case aO => exact (zR HO_5));(case aS => exact (zW HB));(case aL => have:=LMc7.out;omega);intro v246 w10 ho hb hg hat;rw [← Ny245.out] at ho;replace HB:=zA (hb);have HO247:=zA (ho);clear HO_5;clear ho hb hg hat))
       go_roundg k1
       case measure => have:=HK1.out;omega
       case rel => exact ⟨(y245),(wrap64 (x6_1 + 1)),ze,H',⟨by have:=HK1.out;omega⟩,⟨zR HO247⟩,⟨zH HB⟩⟩
      ·rw [if_neg c7] at H
       exact absurd H (by simp)
     ·rw [if_neg c6] at H
      have c6b0 : decide (t243 < 0) = false:=decide_eq_false c6
      clear c6
      by_cases c11 : 0 ≤ t243
      ·rw [if_pos c11] at H
       have c11b0 : decide (0 ≤ t243) = true:=decide_eq_true c11
       clear c11
       by_cases c12 : t243 < (l0.length : Int)
       ·rw [if_pos c12] at H
        have c12b0 : decide (t243 < (l0.length : Int)) = true:=decide_eq_true c12
        clear c12
        obtain ⟨y249,hy249⟩ : ∃ y_ : List (S61),y_ = (([(⟨(rd_T61 l0 t243).f0,(rd_T61 l0 t243).f1,(rd_T61 l0 t243).f2,(rd_T61 l0 t243).f3,(rd_T61 l0 t243).f4⟩ : S61)] : List (S61))):=⟨_,rfl⟩
        replace H : ((beaconref06_SameNews.f k1 y249 (([(⟨(rd_T61 l1 x6_1).f0,(rd_T61 l1 x6_1).f1,(rd_T61 l1 x6_1).f2,(rd_T61 l1 x6_1).f3,(rd_T61 l1 x6_1).f4⟩ : S61)] : List (S61)))).bind fun t256 => (if t256 = true then (beaconref14_diff.l0 k1 l0 l1 x5_1 (wrap64 (x6_1 + 1))) else (if x5_1.length < 3518437208883 then (beaconref14_diff.l0 k1 l0 l1 (x5_1 ++ [(⟨(rd_T61 l1 x6_1).f0,(rd_T61 l1 x6_1).f1,(rd_T61 l1 x6_1).f2,(rd_T61 l1 x6_1).f3,(rd_T61 l1 x6_1).f4⟩ : S61)]) (wrap64 (x6_1 + 1))) else (none)))) = some r:=by first|(rw [hy249];with_reducible exact H)|(have H2_:=(Option.bind_some _ _).symm.trans H;rw [hy249];with_reducible exact H2_)|(have H2_:=(Option.bind_some _ _).symm.trans H;with_reducible exact H2_)|with_reducible exact H|(rw [hy249];exact H)|exact H
        have Ny249:=zA hy249
        clear hy249
        obtain ⟨y253,hy253⟩ : ∃ y_ : List (S61),y_ = (([(⟨(rd_T61 l1 x6_1).f0,(rd_T61 l1 x6_1).f1,(rd_T61 l1 x6_1).f2,(rd_T61 l1 x6_1).f3,(rd_T61 l1 x6_1).f4⟩ : S61)] : List (S61))):=⟨_,rfl⟩
        replace H : ((beaconref06_SameNews.f k1 y249 y253).bind fun t256 => (if t256 = true then (beaconref14_diff.l0 k1 l0 l1 x5_1 (wrap64 (x6_1 + 1))) else (if x5_1.length < 3518437208883 then (beaconref14_diff.l0 k1 l0 l1 (x5_1 ++ [(⟨(rd_T61 l1 x6_1).f0,(rd_T61 l1 x6_1).f1,(rd_T61 l1 x6_1).f2,(rd_T61 l1 x6_1).f3,(rd_T61 l1 x6_1).f4⟩ : S61)]) (wrap64 (x6_1 + 1))) else (none)))) = some r:=by first|(rw [hy253];with_reducible exact H)|(have H2_:=(Option.bind_some _ _).symm.trans H;rw [hy253];with_reducible exact H2_)|(have H2_:=(Option.bind_some _ _).symm.trans H;with_reducible exact H2_)|with_reducible exact H|(rw [hy253];exact H)|exact H
        have Ny253:=zA hy253
        clear hy253
        replace H:=Option.bind_eq_some_iff.mp H
        obtain ⟨t256,A130,H⟩:=H
        (try dsimp only at H)
        have A13:=zA A130
        clear A130
        by_cases c14 : t256 = true
        ·subst c14
         rw [if_pos rfl] at H
         have H':=zA H
         clear H
         have p242 : 0 ≤ (x6_1 : Int):=zd
         have q242 : x6_1 < (l1.length : Int):=zd
         obtain ⟨ad242,e242,hx242_0,hx242_1,hx242_2,hx242_3,hx242_4⟩:=at_T61 HR1.out x6_1 p242 q242
         cases e242
         replace hx242_0:=zh HB hx242_0
         replace hx242_1:=zh HB hx242_1
         replace hx242_2:=zh HB hx242_2
         replace hx242_3:=zh HB hx242_3
         replace hx242_4:=zh HB hx242_4
         replace p242:=eq_true p242
         replace q242:=eq_true q242
         try go_wp2_with (first|((with_reducible refine gate_callee (f:=45) rfl ?_);refine zg (some 20) Try.func45 #[.slice A0 l0.length c0,.agg #[.int .i64 ((rd_T61 l1 x6_1).f0),.int .i64 ((rd_T61 l1 x6_1).f1),.float .f64 ((rd_T61 l1 x6_1).f2),.float .f64 ((rd_T61 l1 x6_1).f3),.int .i64 ((rd_T61 l1 x6_1).f4)]] ?_;(with_reducible refine (beaconref14_place.calls k1 _ _ l0 ((rd_T61 l1 x6_1).f0) ((rd_T61 l1 x6_1).f1) ((rd_T61 l1 x6_1).f2) ((rd_T61 l1 x6_1).f3) ((rd_T61 l1 x6_1).f4) t243 _ ?side1 ?side2 A5.out).mono ?_);(case side1 => exact zC (Kd.C_below HR0.out HB.1));(case side2 => exact HC0.out);rintro e w15 ⟨rfl,hb⟩;refine ⟨_,rfl,?_⟩;replace HO_5:=zRb HO_5 hb;replace HB:=zS HB hb;(try clear hb)))
         replace HO_5:=zA (Kd.R_drew HO_5.out)
         replace HB:=zA (bw1 HB.1)
         have p248 : 0 ≤ (t243 : Int):=zd
         have q248 : t243 < (l0.length : Int):=zd
         obtain ⟨ad248,e248,hx248_0,hx248_1,hx248_2,hx248_3,hx248_4⟩:=at_T61 HR0.out t243 p248 q248
         have hw248_4:=hx248_4
         have hw248_3:=hx248_3
         have hw248_2:=hx248_2
         have hw248_1:=hx248_1
         have hw248_0:=hx248_0
         cases e248
         replace hx248_0:=zh HB hx248_0
         replace hx248_1:=zh HB hx248_1
         replace hx248_2:=zh HB hx248_2
         replace hx248_3:=zh HB hx248_3
         replace hx248_4:=zh HB hx248_4
         replace p248:=eq_true p248
         replace q248:=eq_true q248
         have p252 : 0 ≤ (x6_1 : Int):=zd
         have q252 : x6_1 < (l1.length : Int):=zd
         obtain ⟨ad252,e252,hx252_0,hx252_1,hx252_2,hx252_3,hx252_4⟩:=at_T61 HR1.out x6_1 p252 q252
         have hw252_4:=hx252_4
         have hw252_3:=hx252_3
         have hw252_2:=hx252_2
         have hw252_1:=hx252_1
         have hw252_0:=hx252_0
         obtain rfl : ad242 = ad252:=(by injection e252)
         replace hx252_0:=zh HB hx252_0
         replace hx252_1:=zh HB hx252_1
         replace hx252_2:=zh HB hx252_2
         replace hx252_3:=zh HB hx252_3
         replace hx252_4:=zh HB hx252_4
         replace p252:=eq_true p252
         replace q252:=eq_true q252
         refine start_ (n:=16) (S:=fun w' => True) (ds:=[]) #[F,F,F,F,F,F,F,F,F,F,F,F,F,F,F,F] (by kernel_rfl) rfl rfl trivial (fun hHeld => ?_);refine with_tabW beaconref14_diff.tab6 beaconref14_diff.bits6 (fun HT_ HW_ => ?_)
         generalize w15.drew = w16 at HO_5 HB hx248_0 hx248_1 hx248_2 hx248_3 hx248_4 hx252_0 hx252_1 hx252_2 hx252_3 hx252_4 hHeld ⊢
         refine pz 0 21 #[T,F,F,F,F,F,F,F,F,F,F,F,F,F,F,F] HT_.1 ?_
         refine inv_at [1,2,3,4,5,6,7,8,9,10,11,12,13,14,15] (fun a0_ b a w' => ∃ (v250 : Value) (v254 : Value),a = putSel a0_ b [(1,22,.bool (decide (t243 < 0))),(2,23,.bool (decide (t243 < 0))),(3,24,.slice (some ad248) l0.length c0),(4,25,.int .i64 t243),(5,26,.pointer (some (ad248.add ((t243).toNat * 5)))),(6,27,.agg #[.int .i64 ((rd_T61 l0 t243).f0),.int .i64 ((rd_T61 l0 t243).f1),.float .f64 ((rd_T61 l0 t243).f2),.float .f64 ((rd_T61 l0 t243).f3),.int .i64 ((rd_T61 l0 t243).f4)]),(7,28,v250),(8,29,.slice (some ad242) l1.length c1),(9,30,.int .i64 x6_1),(10,31,.pointer (some (ad242.add ((x6_1).toNat * 5)))),(11,32,.agg #[.int .i64 ((rd_T61 l1 x6_1).f0),.int .i64 ((rd_T61 l1 x6_1).f1),.float .f64 ((rd_T61 l1 x6_1).f2),.float .f64 ((rd_T61 l1 x6_1).f3),.int .i64 ((rd_T61 l1 x6_1).f4)]),(12,33,v254),(13,34,.bool true),(14,35,.bool (!true)),(15,36,.bool (!true))] ∧ (Kd.R k61 61 w' w.heap.size (fun _ => True) u5 x5_1) ∧ (Below w.heap.size w w') ∧ (b 7 = true → Kd.R k61 61 w' w.heap.size (fun k_ => some k_ ≠ (u5 : Value).ownBlock) v250 y249) ∧ (b 12 = true → Kd.R k61 61 w' w.heap.size (fun k_ => some k_ ≠ (u5 : Value).ownBlock) v254 y253)) HT_.out HW_.out (by kernel_rfl) (by kernel_rfl) ?_ ?_ ?_
         ·exact ⟨.bool false,.bool false,by simp only [putSel,Bool.false_eq_true,if_false],HO_5.out,HB.1,fun h_ => absurd h_ (by decide),fun h_ => absurd h_ (by decide)⟩
         ·skip
          clear HB HO_5
          refine steps_cons ?_ ?_
          ·rintro b a w' ⟨v250,v254,ha,Q_HO_5,Q_HB,Q_HO251,Q_HO255⟩ hb_ hon hoff
           refine ⟨_,rfl,fun K hK => ?_⟩
           have e21 : a.tmps[21]? = some (.int .i64 t243):=by rw [ha];exact (putSel_off rfl).trans rfl
           replace ha:=zA ha
           have HO_5:=zA Q_HO_5
           have HB:=zA Q_HB
           refine value_ (w1:=w') (v:=.bool (decide (t243 < 0))) (by rfl) rfl ?_ ?_
           ·go_simp
            (try simp only [i64_w])
            try rfl
           refine hK.out _ _ ⟨v250,v254,(by rw [ha.out];exact putSel_upk 0 hb_ rfl rfl rfl),Q_HO_5,Q_HB,fun h0_ => absurd ((hoff 7 (by kernel_rfl)).symm.trans h0_) (by decide),fun h0_ => absurd ((hoff 12 (by kernel_rfl)).symm.trans h0_) (by decide)⟩
          refine steps_cons ?_ ?_
          ·rintro b a w' ⟨v250,v254,ha,Q_HO_5,Q_HB,Q_HO251,Q_HO255⟩ hb_ hon hoff
           refine ⟨_,rfl,fun K hK => ?_⟩
           have e22 : a.tmps[22]? = some (.bool (decide (t243 < 0))):=by rw [ha];exact putSel_on (e:=(1,22,.bool (decide (t243 < 0)))) 0 rfl rfl (hon 1 (by kernel_rfl)) rfl
           replace ha:=zA ha
           have HO_5:=zA Q_HO_5
           have HB:=zA Q_HB
           refine value_ (w1:=w') (v:=.bool (decide (t243 < 0))) (by rfl) rfl ?_ ?_
           ·go_simp
            (try simp only [i64_w])
            try rfl
           refine hK.out _ _ ⟨v250,v254,(by rw [ha.out];exact putSel_upk 1 hb_ rfl rfl rfl),Q_HO_5,Q_HB,fun h0_ => absurd ((hoff 7 (by kernel_rfl)).symm.trans h0_) (by decide),fun h0_ => absurd ((hoff 12 (by kernel_rfl)).symm.trans h0_) (by decide)⟩
          refine steps_cons ?_ ?_
          ·rintro b a w' ⟨v250,v254,ha,Q_HO_5,Q_HB,Q_HO251,Q_HO255⟩ hb_ hon hoff
           refine ⟨_,rfl,fun K hK => ?_⟩
           have e0 : a.tmps[0]? = some (.slice (some ad248) l0.length c0):=by rw [ha];exact (putSel_off rfl).trans rfl
           have e23 : a.tmps[23]? = some (.bool (decide (t243 < 0))):=by rw [ha];exact putSel_on (e:=(2,23,.bool (decide (t243 < 0)))) 1 rfl rfl (hon 2 (by kernel_rfl)) rfl
           replace ha:=zA ha
           have HO_5:=zA Q_HO_5
           have HB:=zA Q_HB
           refine value_ (w1:=w') (v:=.slice (some ad248) l0.length c0) (wanted_on rfl rfl rfl (e23.trans (by first|rfl|(simp [*];done)))) rfl ?_ ?_
           ·go_simp
            (try simp only [i64_w])
            try rfl
           refine hK.out _ _ ⟨v250,v254,(by rw [ha.out];exact putSel_upk 2 hb_ rfl rfl rfl),Q_HO_5,Q_HB,fun h0_ => absurd ((hoff 7 (by kernel_rfl)).symm.trans h0_) (by decide),Q_HO255⟩
          refine steps_cons ?_ ?_
          ·rintro b a w' ⟨v250,v254,ha,Q_HO_5,Q_HB,Q_HO251,Q_HO255⟩ hb_ hon hoff
           refine ⟨_,rfl,fun K hK => ?_⟩
           have e7 : a.tmps[7]? = some (.int .i64 t243):=by rw [ha];exact (putSel_off rfl).trans rfl
           have e23 : a.tmps[23]? = some (.bool (decide (t243 < 0))):=by rw [ha];exact putSel_on (e:=(2,23,.bool (decide (t243 < 0)))) 1 rfl rfl (hon 2 (by kernel_rfl)) rfl
           replace ha:=zA ha
           have HO_5:=zA Q_HO_5
           have HB:=zA Q_HB
           refine value_ (w1:=w') (v:=.int .i64 t243) (wanted_on rfl rfl rfl (e23.trans (by first|rfl|(simp [*];done)))) rfl ?_ ?_
           ·go_simp
            (try simp only [i64_w])
            try rfl
           refine hK.out _ _ ⟨v250,v254,(by rw [ha.out];exact putSel_upk 3 hb_ rfl rfl rfl),Q_HO_5,Q_HB,fun h0_ => absurd ((hoff 7 (by kernel_rfl)).symm.trans h0_) (by decide),Q_HO255⟩
          refine steps_cons ?_ ?_
          ·rintro b a w' ⟨v250,v254,ha,Q_HO_5,Q_HB,Q_HO251,Q_HO255⟩ hb_ hon hoff
           refine ⟨_,rfl,fun K hK => ?_⟩
           have e24 : a.tmps[24]? = some (.slice (some ad248) l0.length c0):=by rw [ha];exact putSel_on (e:=(3,24,.slice (some ad248) l0.length c0)) 2 rfl rfl (hon 3 (by kernel_rfl)) rfl
           have e25 : a.tmps[25]? = some (.int .i64 t243):=by rw [ha];exact putSel_on (e:=(4,25,.int .i64 t243)) 3 rfl rfl (hon 4 (by kernel_rfl)) rfl
           have e23 : a.tmps[23]? = some (.bool (decide (t243 < 0))):=by rw [ha];exact putSel_on (e:=(2,23,.bool (decide (t243 < 0)))) 1 rfl rfl (hon 2 (by kernel_rfl)) rfl
           replace ha:=zA ha
           have HO_5:=zA Q_HO_5
           have HB:=zA Q_HB
           have hs0_ : w'.cell? (ad248.add ((t243).toNat * 5)) = some (.int .i64 ((rd_T61 l0 t243).f0)):=(zh HB hw248_0)
           have hs1_ : w'.cell? ⟨(ad248.add ((t243).toNat * 5)).block,(ad248.add ((t243).toNat * 5)).off + 1,none⟩ = some (.int .i64 ((rd_T61 l0 t243).f1)):=(zh HB hw248_1)
           have hs2_ : w'.cell? ⟨(ad248.add ((t243).toNat * 5)).block,(ad248.add ((t243).toNat * 5)).off + 2,none⟩ = some (.float .f64 ((rd_T61 l0 t243).f2)):=(zh HB hw248_2)
           have hs3_ : w'.cell? ⟨(ad248.add ((t243).toNat * 5)).block,(ad248.add ((t243).toNat * 5)).off + 3,none⟩ = some (.float .f64 ((rd_T61 l0 t243).f3)):=(zh HB hw248_3)
           have hs4_ : w'.cell? ⟨(ad248.add ((t243).toNat * 5)).block,(ad248.add ((t243).toNat * 5)).off + 4,none⟩ = some (.int .i64 ((rd_T61 l0 t243).f4)):=(zh HB hw248_4)
           refine value_ (w1:=w') (v:=.pointer (some (ad248.add ((t243).toNat * 5)))) (wanted_on rfl rfl rfl (e23.trans (by first|rfl|(simp [*];done)))) rfl ?_ ?_
           ·go_simp
            (try simp only [i64_w])
            try rfl
           refine hK.out _ _ ⟨v250,v254,(by rw [ha.out];exact putSel_upk 4 hb_ rfl rfl rfl),Q_HO_5,Q_HB,fun h0_ => absurd ((hoff 7 (by kernel_rfl)).symm.trans h0_) (by decide),Q_HO255⟩
          refine steps_cons ?_ ?_
          ·rintro b a w' ⟨v250,v254,ha,Q_HO_5,Q_HB,Q_HO251,Q_HO255⟩ hb_ hon hoff
           refine ⟨_,rfl,fun K hK => ?_⟩
           have e26 : a.tmps[26]? = some (.pointer (some (ad248.add ((t243).toNat * 5)))):=by rw [ha];exact putSel_on (e:=(5,26,.pointer (some (ad248.add ((t243).toNat * 5))))) 4 rfl rfl (hon 5 (by kernel_rfl)) rfl
           have e23 : a.tmps[23]? = some (.bool (decide (t243 < 0))):=by rw [ha];exact putSel_on (e:=(2,23,.bool (decide (t243 < 0)))) 1 rfl rfl (hon 2 (by kernel_rfl)) rfl
           replace ha:=zA ha
           have HO_5:=zA Q_HO_5
           have HB:=zA Q_HB
           have hs0_ : w'.cell? (ad248.add ((t243).toNat * 5)) = some (.int .i64 ((rd_T61 l0 t243).f0)):=(zh HB hw248_0)
           have hs1_ : w'.cell? ⟨(ad248.add ((t243).toNat * 5)).block,(ad248.add ((t243).toNat * 5)).off + 1,none⟩ = some (.int .i64 ((rd_T61 l0 t243).f1)):=(zh HB hw248_1)
           have hs2_ : w'.cell? ⟨(ad248.add ((t243).toNat * 5)).block,(ad248.add ((t243).toNat * 5)).off + 2,none⟩ = some (.float .f64 ((rd_T61 l0 t243).f2)):=(zh HB hw248_2)
           have hs3_ : w'.cell? ⟨(ad248.add ((t243).toNat * 5)).block,(ad248.add ((t243).toNat * 5)).off + 3,none⟩ = some (.float .f64 ((rd_T61 l0 t243).f3)):=(zh HB hw248_3)
           have hs4_ : w'.cell? ⟨(ad248.add ((t243).toNat * 5)).block,(ad248.add ((t243).toNat * 5)).off + 4,none⟩ = some (.int .i64 ((rd_T61 l0 t243).f4)):=(zh HB hw248_4)
           refine value_ (w1:=w') (v:=.agg #[.int .i64 ((rd_T61 l0 t243).f0),.int .i64 ((rd_T61 l0 t243).f1),.float .f64 ((rd_T61 l0 t243).f2),.float .f64 ((rd_T61 l0 t243).f3),.int .i64 ((rd_T61 l0 t243).f4)]) (wanted_on rfl rfl rfl (e23.trans (by first|rfl|(simp [*];done)))) rfl ?_ ?_
           ·go_simp
            (try simp only [i64_w])
            try rfl
           refine hK.out _ _ ⟨v250,v254,(by rw [ha.out];exact putSel_upk 5 hb_ rfl rfl rfl),Q_HO_5,Q_HB,fun h0_ => absurd ((hoff 7 (by kernel_rfl)).symm.trans h0_) (by decide),Q_HO255⟩
          refine steps_cons ?_ ?_
          ·rintro b a w' ⟨v250,v254,ha,Q_HO_5,Q_HB,Q_HO251,Q_HO255⟩ hb_ hon hoff
           refine ⟨_,rfl,fun K hK => ?_⟩
           have e27 : a.tmps[27]? = some (.agg #[.int .i64 ((rd_T61 l0 t243).f0),.int .i64 ((rd_T61 l0 t243).f1),.float .f64 ((rd_T61 l0 t243).f2),.float .f64 ((rd_T61 l0 t243).f3),.int .i64 ((rd_T61 l0 t243).f4)]):=by rw [ha];exact putSel_on (e:=(6,27,.agg #[.int .i64 ((rd_T61 l0 t243).f0),.int .i64 ((rd_T61 l0 t243).f1),.float .f64 ((rd_T61 l0 t243).f2),.float .f64 ((rd_T61 l0 t243).f3),.int .i64 ((rd_T61 l0 t243).f4)])) 5 rfl rfl (hon 6 (by kernel_rfl)) rfl
           have e23 : a.tmps[23]? = some (.bool (decide (t243 < 0))):=by rw [ha];exact putSel_on (e:=(2,23,.bool (decide (t243 < 0)))) 1 rfl rfl (hon 2 (by kernel_rfl)) rfl
           replace ha:=zA ha
           have HO_5:=zA Q_HO_5
           have HB:=zA Q_HB
           refine Kd.R_lit_step k61 _ 61 ?hg (N:=28) ?hd (xs:=([(⟨(rd_T61 l0 t243).f0,(rd_T61 l0 t243).f1,(rd_T61 l0 t243).f2,(rd_T61 l0 t243).f3,(rd_T61 l0 t243).f4⟩ : S61)] : List (S61))) (inner:=[.int .i64 ((rd_T61 l0 t243).f0),.int .i64 ((rd_T61 l0 t243).f1),.float .f64 ((rd_T61 l0 t243).f2),.float .f64 ((rd_T61 l0 t243).f3),.int .i64 ((rd_T61 l0 t243).f4)]) (ok:=fun _ => True) (okp:=fun _ => True) ?hr ?hp (fun _ hk => hk) trivial (Below.refl _ _) (Nat.le_refl _) (by simp) ?_;(case hd => rfl);(case hg => exact zw);(case hr => first|(go_simp;done)|(go_simp;rfl));(case hp => exact (Reps.c5 (show Kd.M k61 _ _ _ (⟨(rd_T61 l0 t243).f0,(rd_T61 l0 t243).f1,(rd_T61 l0 t243).f2,(rd_T61 l0 t243).f3,(rd_T61 l0 t243).f4⟩ : S61) [.int .i64 ((rd_T61 l0 t243).f0),.int .i64 ((rd_T61 l0 t243).f1),.float .f64 ((rd_T61 l0 t243).f2),.float .f64 ((rd_T61 l0 t243).f3),.int .i64 ((rd_T61 l0 t243).f4)] from (k61_mkM _ _ _ (⟨(rd_T61 l0 t243).f0,(rd_T61 l0 t243).f1,(rd_T61 l0 t243).f2,(rd_T61 l0 t243).f3,(rd_T61 l0 t243).f4⟩ : S61) )) (Reps.none _ _)))
           intro v250 w17 ho18 hb hg_ hnew_
           clear hg_ hnew_
           (first|rw [← Ny249.out] at ho18|(simp only [Int.reduceToNat] at ho18;rw [← Ny249.out] at ho18))
           have n0_:=zA (Kd.R_elder' (zR HO_5) (Kd.R_base ho18) hb)
           have n1_:=zA (Kd.R_lower (Kd.R_new' ho18 (Kd.R_lt (zR HO_5))) (zW HB))
           have n2_:=zS HB hb
           have z_HO255:=fun (h0_ : b 12 = true) => (show Kd.R k61 61 w17 w.heap.size (fun k_ => some k_ ≠ (u5 : Value).ownBlock) v254 y253 from by first|exact (Kd.R_elder' (by (with_reducible repeat (first|apply Kd.R_alloc|apply Kd.R_drewN|apply Kd.R_drew));exact (Q_HO255 h0_)) (Kd.R_base ho18) hb)|exact Kd.R_mono (Kd.R_elder' (by (with_reducible repeat (first|apply Kd.R_alloc|apply Kd.R_drewN|apply Kd.R_drew));exact (Q_HO255 h0_)) (Kd.R_base ho18) hb) (fun _ h_ => by first|trivial|exact h_|exact h_.1))
           clear HO_5
           clear HB
           have HO_5:=n0_
           have HO251:=n1_
           have HB:=n2_
           clear n0_ n1_ n2_
           clear hb ho18
           refine hK.out _ _ ⟨v250,v254,(by rw [ha.out];exact putSel_upk 6 hb_ rfl rfl rfl),(by (with_reducible repeat (first|apply Kd.R_alloc|apply Kd.R_drewN|apply Kd.R_drew));exact Kd.R_mono HO_5.out (fun _ hk => Z19.zm hk)),(zH HB),fun _ => (by (with_reducible repeat (first|apply Kd.R_alloc|apply Kd.R_drewN|apply Kd.R_drew));exact Kd.R_mono HO251.out (fun _ hk => Z19.zm hk)),z_HO255⟩
          refine steps_cons ?_ ?_
          ·rintro b a w' ⟨v250,v254,ha,Q_HO_5,Q_HB,Q_HO251,Q_HO255⟩ hb_ hon hoff
           refine ⟨_,rfl,fun K hK => ?_⟩
           have e1 : a.tmps[1]? = some (.slice (some ad242) l1.length c1):=by rw [ha];exact (putSel_off rfl).trans rfl
           have e23 : a.tmps[23]? = some (.bool (decide (t243 < 0))):=by rw [ha];exact putSel_on (e:=(2,23,.bool (decide (t243 < 0)))) 1 rfl rfl (hon 2 (by kernel_rfl)) rfl
           replace ha:=zA ha
           have HO_5:=zA Q_HO_5
           have HB:=zA Q_HB
           refine value_ (w1:=w') (v:=.slice (some ad242) l1.length c1) (wanted_on rfl rfl rfl (e23.trans (by first|rfl|(simp [*];done)))) rfl ?_ ?_
           ·go_simp
            (try simp only [i64_w])
            try rfl
           refine hK.out _ _ ⟨v250,v254,(by rw [ha.out];exact putSel_upk 7 hb_ rfl rfl rfl),Q_HO_5,Q_HB,Q_HO251,fun h0_ => absurd ((hoff 12 (by kernel_rfl)).symm.trans h0_) (by decide)⟩
          refine steps_cons ?_ ?_
          ·rintro b a w' ⟨v250,v254,ha,Q_HO_5,Q_HB,Q_HO251,Q_HO255⟩ hb_ hon hoff
           refine ⟨_,rfl,fun K hK => ?_⟩
           have e6 : a.tmps[6]? = some (.int .i64 x6_1):=by rw [ha];exact (putSel_off rfl).trans rfl
           have e23 : a.tmps[23]? = some (.bool (decide (t243 < 0))):=by rw [ha];exact putSel_on (e:=(2,23,.bool (decide (t243 < 0)))) 1 rfl rfl (hon 2 (by kernel_rfl)) rfl
           replace ha:=zA ha
           have HO_5:=zA Q_HO_5
           have HB:=zA Q_HB
           refine value_ (w1:=w') (v:=.int .i64 x6_1) (wanted_on rfl rfl rfl (e23.trans (by first|rfl|(simp [*];done)))) rfl ?_ ?_
           ·go_simp
            (try simp only [i64_w])
            try rfl
           refine hK.out _ _ ⟨v250,v254,(by rw [ha.out];exact putSel_upk 8 hb_ rfl rfl rfl),Q_HO_5,Q_HB,Q_HO251,fun h0_ => absurd ((hoff 12 (by kernel_rfl)).symm.trans h0_) (by decide)⟩
          refine steps_cons ?_ ?_
          ·rintro b a w' ⟨v250,v254,ha,Q_HO_5,Q_HB,Q_HO251,Q_HO255⟩ hb_ hon hoff
           refine ⟨_,rfl,fun K hK => ?_⟩
           have e29 : a.tmps[29]? = some (.slice (some ad242) l1.length c1):=by rw [ha];exact putSel_on (e:=(8,29,.slice (some ad242) l1.length c1)) 7 rfl rfl (hon 8 (by kernel_rfl)) rfl
           have e30 : a.tmps[30]? = some (.int .i64 x6_1):=by rw [ha];exact putSel_on (e:=(9,30,.int .i64 x6_1)) 8 rfl rfl (hon 9 (by kernel_rfl)) rfl
           have e23 : a.tmps[23]? = some (.bool (decide (t243 < 0))):=by rw [ha];exact putSel_on (e:=(2,23,.bool (decide (t243 < 0)))) 1 rfl rfl (hon 2 (by kernel_rfl)) rfl
           replace ha:=zA ha
           have HO_5:=zA Q_HO_5
           have HB:=zA Q_HB
           have hs5_ : w'.cell? (ad242.add ((x6_1).toNat * 5)) = some (.int .i64 ((rd_T61 l1 x6_1).f0)):=(zh HB hw252_0)
           have hs6_ : w'.cell? ⟨(ad242.add ((x6_1).toNat * 5)).block,(ad242.add ((x6_1).toNat * 5)).off + 1,none⟩ = some (.int .i64 ((rd_T61 l1 x6_1).f1)):=(zh HB hw252_1)
           have hs7_ : w'.cell? ⟨(ad242.add ((x6_1).toNat * 5)).block,(ad242.add ((x6_1).toNat * 5)).off + 2,none⟩ = some (.float .f64 ((rd_T61 l1 x6_1).f2)):=(zh HB hw252_2)
           have hs8_ : w'.cell? ⟨(ad242.add ((x6_1).toNat * 5)).block,(ad242.add ((x6_1).toNat * 5)).off + 3,none⟩ = some (.float .f64 ((rd_T61 l1 x6_1).f3)):=(zh HB hw252_3)
           have hs9_ : w'.cell? ⟨(ad242.add ((x6_1).toNat * 5)).block,(ad242.add ((x6_1).toNat * 5)).off + 4,none⟩ = some (.int .i64 ((rd_T61 l1 x6_1).f4)):=(zh HB hw252_4)
           refine value_ (w1:=w') (v:=.pointer (some (ad242.add ((x6_1).toNat * 5)))) (wanted_on rfl rfl rfl (e23.trans (by first|rfl|(simp [*];done)))) rfl ?_ ?_
           ·go_simp
            (try simp only [i64_w])
            try rfl
           refine hK.out _ _ ⟨v250,v254,(by rw [ha.out];exact putSel_upk 9 hb_ rfl rfl rfl),Q_HO_5,Q_HB,Q_HO251,fun h0_ => absurd ((hoff 12 (by kernel_rfl)).symm.trans h0_) (by decide)⟩
          refine steps_cons ?_ ?_
          ·rintro b a w' ⟨v250,v254,ha,Q_HO_5,Q_HB,Q_HO251,Q_HO255⟩ hb_ hon hoff
           refine ⟨_,rfl,fun K hK => ?_⟩
           have e31 : a.tmps[31]? = some (.pointer (some (ad242.add ((x6_1).toNat * 5)))):=by rw [ha];exact putSel_on (e:=(10,31,.pointer (some (ad242.add ((x6_1).toNat * 5))))) 9 rfl rfl (hon 10 (by kernel_rfl)) rfl
           have e23 : a.tmps[23]? = some (.bool (decide (t243 < 0))):=by rw [ha];exact putSel_on (e:=(2,23,.bool (decide (t243 < 0)))) 1 rfl rfl (hon 2 (by kernel_rfl)) rfl
           replace ha:=zA ha
           have HO_5:=zA Q_HO_5
           have HB:=zA Q_HB
           have hs5_ : w'.cell? (ad242.add ((x6_1).toNat * 5)) = some (.int .i64 ((rd_T61 l1 x6_1).f0)):=(zh HB hw252_0)
           have hs6_ : w'.cell? ⟨(ad242.add ((x6_1).toNat * 5)).block,(ad242.add ((x6_1).toNat * 5)).off + 1,none⟩ = some (.int .i64 ((rd_T61 l1 x6_1).f1)):=(zh HB hw252_1)
           have hs7_ : w'.cell? ⟨(ad242.add ((x6_1).toNat * 5)).block,(ad242.add ((x6_1).toNat * 5)).off + 2,none⟩ = some (.float .f64 ((rd_T61 l1 x6_1).f2)):=(zh HB hw252_2)
           have hs8_ : w'.cell? ⟨(ad242.add ((x6_1).toNat * 5)).block,(ad242.add ((x6_1).toNat * 5)).off + 3,none⟩ = some (.float .f64 ((rd_T61 l1 x6_1).f3)):=(zh HB hw252_3)
           have hs9_ : w'.cell? ⟨(ad242.add ((x6_1).toNat * 5)).block,(ad242.add ((x6_1).toNat * 5)).off + 4,none⟩ = some (.int .i64 ((rd_T61 l1 x6_1).f4)):=(zh HB hw252_4)
           refine value_ (w1:=w') (v:=.agg #[.int .i64 ((rd_T61 l1 x6_1).f0),.int .i64 ((rd_T61 l1 x6_1).f1),.float .f64 ((rd_T61 l1 x6_1).f2),.float .f64 ((rd_T61 l1 x6_1).f3),.int .i64 ((rd_T61 l1 x6_1).f4)]) (wanted_on rfl rfl rfl (e23.trans (by first|rfl|(simp [*];done)))) rfl ?_ ?_
           ·go_simp
            (try simp only [i64_w])
            try rfl
           refine hK.out _ _ ⟨v250,v254,(by rw [ha.out];exact putSel_upk 10 hb_ rfl rfl rfl),Q_HO_5,Q_HB,Q_HO251,fun h0_ => absurd ((hoff 12 (by kernel_rfl)).symm.trans h0_) (by decide)⟩
          refine steps_cons ?_ ?_
          ·rintro b a w' ⟨v250,v254,ha,Q_HO_5,Q_HB,Q_HO251,Q_HO255⟩ hb_ hon hoff
           refine ⟨_,rfl,fun K hK => ?_⟩
           have e32 : a.tmps[32]? = some (.agg #[.int .i64 ((rd_T61 l1 x6_1).f0),.int .i64 ((rd_T61 l1 x6_1).f1),.float .f64 ((rd_T61 l1 x6_1).f2),.float .f64 ((rd_T61 l1 x6_1).f3),.int .i64 ((rd_T61 l1 x6_1).f4)]):=by rw [ha];exact putSel_on (e:=(11,32,.agg #[.int .i64 ((rd_T61 l1 x6_1).f0),.int .i64 ((rd_T61 l1 x6_1).f1),.float .f64 ((rd_T61 l1 x6_1).f2),.float .f64 ((rd_T61 l1 x6_1).f3),.int .i64 ((rd_T61 l1 x6_1).f4)])) 10 rfl rfl (hon 11 (by kernel_rfl)) rfl
           have e23 : a.tmps[23]? = some (.bool (decide (t243 < 0))):=by rw [ha];exact putSel_on (e:=(2,23,.bool (decide (t243 < 0)))) 1 rfl rfl (hon 2 (by kernel_rfl)) rfl
           replace ha:=zA ha
           have HO_5:=zA Q_HO_5
           have HB:=zA Q_HB
           refine Kd.R_lit_step k61 _ 61 ?hg (N:=33) ?hd (xs:=([(⟨(rd_T61 l1 x6_1).f0,(rd_T61 l1 x6_1).f1,(rd_T61 l1 x6_1).f2,(rd_T61 l1 x6_1).f3,(rd_T61 l1 x6_1).f4⟩ : S61)] : List (S61))) (inner:=[.int .i64 ((rd_T61 l1 x6_1).f0),.int .i64 ((rd_T61 l1 x6_1).f1),.float .f64 ((rd_T61 l1 x6_1).f2),.float .f64 ((rd_T61 l1 x6_1).f3),.int .i64 ((rd_T61 l1 x6_1).f4)]) (ok:=fun _ => True) (okp:=fun _ => True) ?hr ?hp (fun _ hk => hk) trivial (Below.refl _ _) (Nat.le_refl _) (by simp) ?_;(case hd => rfl);(case hg => exact zw);(case hr => first|(go_simp;done)|(go_simp;rfl));(case hp => exact (Reps.c5 (show Kd.M k61 _ _ _ (⟨(rd_T61 l1 x6_1).f0,(rd_T61 l1 x6_1).f1,(rd_T61 l1 x6_1).f2,(rd_T61 l1 x6_1).f3,(rd_T61 l1 x6_1).f4⟩ : S61) [.int .i64 ((rd_T61 l1 x6_1).f0),.int .i64 ((rd_T61 l1 x6_1).f1),.float .f64 ((rd_T61 l1 x6_1).f2),.float .f64 ((rd_T61 l1 x6_1).f3),.int .i64 ((rd_T61 l1 x6_1).f4)] from (k61_mkM _ _ _ (⟨(rd_T61 l1 x6_1).f0,(rd_T61 l1 x6_1).f1,(rd_T61 l1 x6_1).f2,(rd_T61 l1 x6_1).f3,(rd_T61 l1 x6_1).f4⟩ : S61) )) (Reps.none _ _)))
           intro v254 w17 ho18 hb hg_ hnew_
           clear hg_ hnew_
           (first|rw [← Ny253.out] at ho18|(simp only [Int.reduceToNat] at ho18;rw [← Ny253.out] at ho18))
           have n0_:=zA (Kd.R_elder' (zR HO_5) (Kd.R_base ho18) hb)
           have n1_:=zA (Kd.R_lower (Kd.R_new' ho18 (Kd.R_lt (zR HO_5))) (zW HB))
           have n2_:=zS HB hb
           have z_HO251:=fun (h0_ : b 7 = true) => (show Kd.R k61 61 w17 w.heap.size (fun k_ => some k_ ≠ (u5 : Value).ownBlock) v250 y249 from by first|exact (Kd.R_elder' (by (with_reducible repeat (first|apply Kd.R_alloc|apply Kd.R_drewN|apply Kd.R_drew));exact (Q_HO251 h0_)) (Kd.R_base ho18) hb)|exact Kd.R_mono (Kd.R_elder' (by (with_reducible repeat (first|apply Kd.R_alloc|apply Kd.R_drewN|apply Kd.R_drew));exact (Q_HO251 h0_)) (Kd.R_base ho18) hb) (fun _ h_ => by first|trivial|exact h_|exact h_.1))
           clear HO_5
           clear HB
           have HO_5:=n0_
           have HO255:=n1_
           have HB:=n2_
           clear n0_ n1_ n2_
           clear hb ho18
           refine hK.out _ _ ⟨v250,v254,(by rw [ha.out];exact putSel_upk 11 hb_ rfl rfl rfl),(by (with_reducible repeat (first|apply Kd.R_alloc|apply Kd.R_drewN|apply Kd.R_drew));exact Kd.R_mono HO_5.out (fun _ hk => Z19.zm hk)),(zH HB),z_HO251,fun _ => (by (with_reducible repeat (first|apply Kd.R_alloc|apply Kd.R_drewN|apply Kd.R_drew));exact Kd.R_mono HO255.out (fun _ hk => Z19.zm hk))⟩
          refine steps_cons ?_ ?_
          ·rintro b a w' ⟨v250,v254,ha,Q_HO_5,Q_HB,Q_HO251,Q_HO255⟩ hb_ hon hoff
           refine ⟨_,rfl,fun K hK => ?_⟩
           have e28 : a.tmps[28]? = some (v250):=by rw [ha];exact putSel_on (e:=(7,28,v250)) 6 rfl rfl (hon 7 (by kernel_rfl)) rfl
           have e33 : a.tmps[33]? = some (v254):=by rw [ha];exact putSel_on (e:=(12,33,v254)) 11 rfl rfl (hon 12 (by kernel_rfl)) rfl
           have e23 : a.tmps[23]? = some (.bool (decide (t243 < 0))):=by rw [ha];exact putSel_on (e:=(2,23,.bool (decide (t243 < 0)))) 1 rfl rfl (hon 2 (by kernel_rfl)) rfl
           replace ha:=zA ha
           have HO_5:=zA Q_HO_5
           have HB:=zA Q_HB
           have HO251:=zA (Q_HO251 (hon 7 (by kernel_rfl)))
           have HO255:=zA (Q_HO255 (hon 12 (by kernel_rfl)))
           obtain ⟨Ao22,co22,eo22⟩:=Kd.R_slice HO251.out
           (first|subst eo22|(injection eo22 with f1_ f2_ f3_;have f4_:=f1_.symm;have f5_:=f3_.symm;clear f1_ f2_ f3_;subst f4_;subst f5_))
           obtain ⟨Ao23,co23,eo23⟩:=Kd.R_slice HO255.out
           (first|subst eo23|(injection eo23 with f1_ f2_ f3_;have f4_:=f1_.symm;have f5_:=f3_.symm;clear f1_ f2_ f3_;subst f4_;subst f5_))
           refine goes_ Try.func17 (by kernel_rfl) rfl #[.slice Ao22 y249.length co22,.slice Ao23 y253.length co23] zw rfl rfl (by first|(simp only [List.map_toArray,List.map_cons,List.map_nil,Act.eval,Array.getD_eq_getD_getElem?,Option.getD_some,e28,e33,e23];done)|(simp only [List.map_toArray,List.map_cons,List.map_nil,Act.eval,Array.getD_eq_getD_getElem?,Option.getD_some,e28,e33,e23];rfl)) ?_
           with_reducible refine (beaconref06_SameNews.calls k1 _ _ y249 _ _ y253 true _ ?side1 ?side2 ?side3 ?side4 A13.out).mono ?_
           (case side1 => exact zC ((Kd.R_reads' HO251.out).2.2))
           (case side2 => exact (Kd.R_reads' HO251.out).2.1)
           (case side3 => exact zC ((Kd.R_reads' HO255.out).2.2))
           (case side4 => exact (Kd.R_reads' HO255.out).2.1)
           rintro e w24 ⟨rfl,hb⟩
           refine ⟨_,rfl,?_⟩
           replace HO_5:=zRb HO_5 hb
           replace HO251:=zRb HO251 hb
           replace HO255:=zRb HO255 hb
           replace HB:=zS HB hb
           (try clear hb)
           (try clear hb2)
           (try clear hk)
           (try clear hi)
           refine hK.out _ _ ⟨.slice Ao22 y249.length co22,.slice Ao23 y253.length co23,(by rw [ha.out];exact putSel_upk 12 hb_ rfl rfl rfl),(zR HO_5),(zH HB),fun _ => (zR HO251),fun _ => (zR HO255)⟩
          refine steps_cons ?_ ?_
          ·rintro b a w' ⟨v250,v254,ha,Q_HO_5,Q_HB,Q_HO251,Q_HO255⟩ hb_ hon hoff
           refine ⟨_,rfl,fun K hK => ?_⟩
           have e34 : a.tmps[34]? = some (.bool true):=by rw [ha];exact putSel_on (e:=(13,34,.bool true)) 12 rfl rfl (hon 13 (by kernel_rfl)) rfl
           have e23 : a.tmps[23]? = some (.bool (decide (t243 < 0))):=by rw [ha];exact putSel_on (e:=(2,23,.bool (decide (t243 < 0)))) 1 rfl rfl (hon 2 (by kernel_rfl)) rfl
           replace ha:=zA ha
           have HO_5:=zA Q_HO_5
           have HB:=zA Q_HB
           have HO251:=zA (Q_HO251 (hon 7 (by kernel_rfl)))
           have HO255:=zA (Q_HO255 (hon 12 (by kernel_rfl)))
           refine value_ (w1:=w') (v:=.bool (!true)) (wanted_on rfl rfl rfl (e23.trans (by first|rfl|(simp [*];done)))) rfl ?_ ?_
           ·go_simp
            (try simp only [i64_w])
            try rfl
           refine hK.out _ _ ⟨v250,v254,(by rw [ha.out];exact putSel_upk 13 hb_ rfl rfl rfl),Q_HO_5,Q_HB,Q_HO251,Q_HO255⟩
          refine steps_cons ?_ ?_
          ·rintro b a w' ⟨v250,v254,ha,Q_HO_5,Q_HB,Q_HO251,Q_HO255⟩ hb_ hon hoff
           refine ⟨_,rfl,fun K hK => ?_⟩
           have e23 : a.tmps[23]? = some (.bool (decide (t243 < 0))):=by rw [ha];exact putSel_on (e:=(2,23,.bool (decide (t243 < 0)))) 1 rfl rfl (hon 2 (by kernel_rfl)) rfl
           have e35 : a.tmps[35]? = some (.bool (!true)):=by rw [ha];exact putSel_on (e:=(14,35,.bool (!true))) 13 rfl rfl (hon 14 (by kernel_rfl)) rfl
           replace ha:=zA ha
           have HO_5:=zA Q_HO_5
           have HB:=zA Q_HB
           have HO251:=zA (Q_HO251 (hon 7 (by kernel_rfl)))
           have HO255:=zA (Q_HO255 (hon 12 (by kernel_rfl)))
           refine value_ (w1:=w') (v:=.bool (!true)) (by rfl) rfl ?_ ?_
           ·go_simp
            (try simp only [i64_w])
            try rfl
           refine hK.out _ _ ⟨v250,v254,(by rw [ha.out];exact putSel_upk 14 hb_ rfl rfl rfl),Q_HO_5,Q_HB,Q_HO251,Q_HO255⟩
          exact steps_nil
         rintro b a w24 hall ⟨v250,v254,ha,Q_HO_5,Q_HB,Q_HO251,Q_HO255⟩
         clear HB HO_5
         have hb1_:=hall 1 (by kernel_rfl)
         have hb2_:=hall 2 (by kernel_rfl)
         have hb3_:=hall 3 (by kernel_rfl)
         have hb4_:=hall 4 (by kernel_rfl)
         have hb5_:=hall 5 (by kernel_rfl)
         have hb6_:=hall 6 (by kernel_rfl)
         have hb7_:=hall 7 (by kernel_rfl)
         have hb8_:=hall 8 (by kernel_rfl)
         have hb9_:=hall 9 (by kernel_rfl)
         have hb10_:=hall 10 (by kernel_rfl)
         have hb11_:=hall 11 (by kernel_rfl)
         have hb12_:=hall 12 (by kernel_rfl)
         have hb13_:=hall 13 (by kernel_rfl)
         have hb14_:=hall 14 (by kernel_rfl)
         have hb15_:=hall 15 (by kernel_rfl)
         subst ha
         simp only [putSel,hb1_,hb2_,hb3_,hb4_,hb5_,hb6_,hb7_,hb8_,hb9_,hb10_,hb11_,hb12_,hb13_,hb14_,hb15_,if_true,Act.put,xA,xB,xC]
         have HO_5:=zA Q_HO_5
         clear Q_HO_5
         have HB:=zA Q_HB
         clear Q_HB
         have HO251:=zA (Q_HO251 hb7_)
         clear Q_HO251
         have HO255:=zA (Q_HO255 hb12_)
         clear Q_HO255
         clear hall hb1_ hb2_ hb3_ hb4_ hb5_ hb6_ hb7_ hb8_ hb9_ hb10_ hb11_ hb12_ hb13_ hb14_ hb15_
         try go_wp2
         go_roundg k1
         case measure => have:=HK1.out;omega
         case rel => exact ⟨(x5_1),(wrap64 (x6_1 + 1)),ze,H',⟨by have:=HK1.out;omega⟩,⟨by (with_reducible repeat (first|apply Kd.R_alloc|apply Kd.R_drewN|apply Kd.R_drew));exact Kd.R_mono HO_5.out (fun _ hk => trivial)⟩,⟨zH HB⟩⟩
        ·replace c14:=Bool.eq_false_iff.mpr c14
         subst c14
         rw [if_neg (show ¬ (false = true) by decide)] at H
         by_cases c25 : x5_1.length < 3518437208883
         ·rw [if_pos c25] at H
          have LMc25:=zA c25
          clear c25
          obtain ⟨y258,hy258⟩ : ∃ y_ : List (S61),y_ = (x5_1 ++ [(⟨(rd_T61 l1 x6_1).f0,(rd_T61 l1 x6_1).f1,(rd_T61 l1 x6_1).f2,(rd_T61 l1 x6_1).f3,(rd_T61 l1 x6_1).f4⟩ : S61)]):=⟨_,rfl⟩
          replace H : (beaconref14_diff.l0 k1 l0 l1 y258 (wrap64 (x6_1 + 1))) = some r:=by first|(rw [hy258];with_reducible exact H)|(have H2_:=(Option.bind_some _ _).symm.trans H;rw [hy258];with_reducible exact H2_)|(have H2_:=(Option.bind_some _ _).symm.trans H;with_reducible exact H2_)|with_reducible exact H|(rw [hy258];exact H)|exact H
          have Ny258:=zA hy258
          clear hy258
          have H':=zA H
          clear H
          have p242 : 0 ≤ (x6_1 : Int):=zd
          have q242 : x6_1 < (l1.length : Int):=zd
          obtain ⟨ad242,e242,hx242_0,hx242_1,hx242_2,hx242_3,hx242_4⟩:=at_T61 HR1.out x6_1 p242 q242
          cases e242
          replace hx242_0:=zh HB hx242_0
          replace hx242_1:=zh HB hx242_1
          replace hx242_2:=zh HB hx242_2
          replace hx242_3:=zh HB hx242_3
          replace hx242_4:=zh HB hx242_4
          replace p242:=eq_true p242
          replace q242:=eq_true q242
          try go_wp2_with (first|((with_reducible refine gate_callee (f:=45) rfl ?_);refine zg (some 20) Try.func45 #[.slice A0 l0.length c0,.agg #[.int .i64 ((rd_T61 l1 x6_1).f0),.int .i64 ((rd_T61 l1 x6_1).f1),.float .f64 ((rd_T61 l1 x6_1).f2),.float .f64 ((rd_T61 l1 x6_1).f3),.int .i64 ((rd_T61 l1 x6_1).f4)]] ?_;(with_reducible refine (beaconref14_place.calls k1 _ _ l0 ((rd_T61 l1 x6_1).f0) ((rd_T61 l1 x6_1).f1) ((rd_T61 l1 x6_1).f2) ((rd_T61 l1 x6_1).f3) ((rd_T61 l1 x6_1).f4) t243 _ ?side1 ?side2 A5.out).mono ?_);(case side1 => exact zC (Kd.C_below HR0.out HB.1));(case side2 => exact HC0.out);rintro e w26 ⟨rfl,hb⟩;refine ⟨_,rfl,?_⟩;replace HO_5:=zRb HO_5 hb;replace HB:=zS HB hb;(try clear hb)))
          replace HO_5:=zA (Kd.R_drew HO_5.out)
          replace HB:=zA (bw1 HB.1)
          have p248 : 0 ≤ (t243 : Int):=zd
          have q248 : t243 < (l0.length : Int):=zd
          obtain ⟨ad248,e248,hx248_0,hx248_1,hx248_2,hx248_3,hx248_4⟩:=at_T61 HR0.out t243 p248 q248
          have hw248_4:=hx248_4
          have hw248_3:=hx248_3
          have hw248_2:=hx248_2
          have hw248_1:=hx248_1
          have hw248_0:=hx248_0
          cases e248
          replace hx248_0:=zh HB hx248_0
          replace hx248_1:=zh HB hx248_1
          replace hx248_2:=zh HB hx248_2
          replace hx248_3:=zh HB hx248_3
          replace hx248_4:=zh HB hx248_4
          replace p248:=eq_true p248
          replace q248:=eq_true q248
          have p252 : 0 ≤ (x6_1 : Int):=zd
          have q252 : x6_1 < (l1.length : Int):=zd
          obtain ⟨ad252,e252,hx252_0,hx252_1,hx252_2,hx252_3,hx252_4⟩:=at_T61 HR1.out x6_1 p252 q252
          have hw252_4:=hx252_4
          have hw252_3:=hx252_3
          have hw252_2:=hx252_2
          have hw252_1:=hx252_1
          have hw252_0:=hx252_0
          obtain rfl : ad242 = ad252:=(by injection e252)
          replace hx252_0:=zh HB hx252_0
          replace hx252_1:=zh HB hx252_1
          replace hx252_2:=zh HB hx252_2
          replace hx252_3:=zh HB hx252_3
          replace hx252_4:=zh HB hx252_4
          replace p252:=eq_true p252
          replace q252:=eq_true q252
          refine start_ (n:=16) (S:=fun w' => True) (ds:=[]) #[F,F,F,F,F,F,F,F,F,F,F,F,F,F,F,F] (by kernel_rfl) rfl rfl trivial (fun hHeld => ?_);refine with_tabW beaconref14_diff.tab6 beaconref14_diff.bits6 (fun HT_ HW_ => ?_)
          generalize w26.drew = w27 at HO_5 HB hx248_0 hx248_1 hx248_2 hx248_3 hx248_4 hx252_0 hx252_1 hx252_2 hx252_3 hx252_4 hHeld ⊢
          refine pz 0 21 #[T,F,F,F,F,F,F,F,F,F,F,F,F,F,F,F] HT_.1 ?_
          refine inv_at [1,2,3,4,5,6,7,8,9,10,11,12,13,14,15] (fun a0_ b a w' => ∃ (v250 : Value) (v254 : Value),a = putSel a0_ b [(1,22,.bool (decide (t243 < 0))),(2,23,.bool (decide (t243 < 0))),(3,24,.slice (some ad248) l0.length c0),(4,25,.int .i64 t243),(5,26,.pointer (some (ad248.add ((t243).toNat * 5)))),(6,27,.agg #[.int .i64 ((rd_T61 l0 t243).f0),.int .i64 ((rd_T61 l0 t243).f1),.float .f64 ((rd_T61 l0 t243).f2),.float .f64 ((rd_T61 l0 t243).f3),.int .i64 ((rd_T61 l0 t243).f4)]),(7,28,v250),(8,29,.slice (some ad242) l1.length c1),(9,30,.int .i64 x6_1),(10,31,.pointer (some (ad242.add ((x6_1).toNat * 5)))),(11,32,.agg #[.int .i64 ((rd_T61 l1 x6_1).f0),.int .i64 ((rd_T61 l1 x6_1).f1),.float .f64 ((rd_T61 l1 x6_1).f2),.float .f64 ((rd_T61 l1 x6_1).f3),.int .i64 ((rd_T61 l1 x6_1).f4)]),(12,33,v254),(13,34,.bool false),(14,35,.bool (!false)),(15,36,.bool (!false))] ∧ (Kd.R k61 61 w' w.heap.size (fun _ => True) u5 x5_1) ∧ (Below w.heap.size w w') ∧ (b 7 = true → Kd.R k61 61 w' w.heap.size (fun k_ => some k_ ≠ (u5 : Value).ownBlock) v250 y249) ∧ (b 12 = true → Kd.R k61 61 w' w.heap.size (fun k_ => some k_ ≠ (u5 : Value).ownBlock) v254 y253)) HT_.out HW_.out (by kernel_rfl) (by kernel_rfl) ?_ ?_ ?_
          ·exact ⟨.bool false,.bool false,by simp only [putSel,Bool.false_eq_true,if_false],HO_5.out,HB.1,fun h_ => absurd h_ (by decide),fun h_ => absurd h_ (by decide)⟩
          ·skip
           clear HB HO_5
           refine steps_cons ?_ ?_
           ·rintro b a w' ⟨v250,v254,ha,Q_HO_5,Q_HB,Q_HO251,Q_HO255⟩ hb_ hon hoff
            refine ⟨_,rfl,fun K hK => ?_⟩
            have e21 : a.tmps[21]? = some (.int .i64 t243):=by rw [ha];exact (putSel_off rfl).trans rfl
            replace ha:=zA ha
            have HO_5:=zA Q_HO_5
            have HB:=zA Q_HB
            refine value_ (w1:=w') (v:=.bool (decide (t243 < 0))) (by rfl) rfl ?_ ?_
            ·go_simp
             (try simp only [i64_w])
             try rfl
            refine hK.out _ _ ⟨v250,v254,(by rw [ha.out];exact putSel_upk 0 hb_ rfl rfl rfl),Q_HO_5,Q_HB,fun h0_ => absurd ((hoff 7 (by kernel_rfl)).symm.trans h0_) (by decide),fun h0_ => absurd ((hoff 12 (by kernel_rfl)).symm.trans h0_) (by decide)⟩
           refine steps_cons ?_ ?_
           ·rintro b a w' ⟨v250,v254,ha,Q_HO_5,Q_HB,Q_HO251,Q_HO255⟩ hb_ hon hoff
            refine ⟨_,rfl,fun K hK => ?_⟩
            have e22 : a.tmps[22]? = some (.bool (decide (t243 < 0))):=by rw [ha];exact putSel_on (e:=(1,22,.bool (decide (t243 < 0)))) 0 rfl rfl (hon 1 (by kernel_rfl)) rfl
            replace ha:=zA ha
            have HO_5:=zA Q_HO_5
            have HB:=zA Q_HB
            refine value_ (w1:=w') (v:=.bool (decide (t243 < 0))) (by rfl) rfl ?_ ?_
            ·go_simp
             (try simp only [i64_w])
             try rfl
            refine hK.out _ _ ⟨v250,v254,(by rw [ha.out];exact putSel_upk 1 hb_ rfl rfl rfl),Q_HO_5,Q_HB,fun h0_ => absurd ((hoff 7 (by kernel_rfl)).symm.trans h0_) (by decide),fun h0_ => absurd ((hoff 12 (by kernel_rfl)).symm.trans h0_) (by decide)⟩
           refine steps_cons ?_ ?_
           ·rintro b a w' ⟨v250,v254,ha,Q_HO_5,Q_HB,Q_HO251,Q_HO255⟩ hb_ hon hoff
            refine ⟨_,rfl,fun K hK => ?_⟩
            have e0 : a.tmps[0]? = some (.slice (some ad248) l0.length c0):=by rw [ha];exact (putSel_off rfl).trans rfl
            have e23 : a.tmps[23]? = some (.bool (decide (t243 < 0))):=by rw [ha];exact putSel_on (e:=(2,23,.bool (decide (t243 < 0)))) 1 rfl rfl (hon 2 (by kernel_rfl)) rfl
            replace ha:=zA ha
            have HO_5:=zA Q_HO_5
            have HB:=zA Q_HB
            refine value_ (w1:=w') (v:=.slice (some ad248) l0.length c0) (wanted_on rfl rfl rfl (e23.trans (by first|rfl|(simp [*];done)))) rfl ?_ ?_
            ·go_simp
             (try simp only [i64_w])
             try rfl
            refine hK.out _ _ ⟨v250,v254,(by rw [ha.out];exact putSel_upk 2 hb_ rfl rfl rfl),Q_HO_5,Q_HB,fun h0_ => absurd ((hoff 7 (by kernel_rfl)).symm.trans h0_) (by decide),Q_HO255⟩
           refine steps_cons ?_ ?_
           ·rintro b a w' ⟨v250,v254,ha,Q_HO_5,Q_HB,Q_HO251,Q_HO255⟩ hb_ hon hoff
            refine ⟨_,rfl,fun K hK => ?_⟩
            have e7 : a.tmps[7]? = some (.int .i64 t243):=by rw [ha];exact (putSel_off rfl).trans rfl
            have e23 : a.tmps[23]? = some (.bool (decide (t243 < 0))):=by rw [ha];exact putSel_on (e:=(2,23,.bool (decide (t243 < 0)))) 1 rfl rfl (hon 2 (by kernel_rfl)) rfl
            replace ha:=zA ha
            have HO_5:=zA Q_HO_5
            have HB:=zA Q_HB
            refine value_ (w1:=w') (v:=.int .i64 t243) (wanted_on rfl rfl rfl (e23.trans (by first|rfl|(simp [*];done)))) rfl ?_ ?_
            ·go_simp
             (try simp only [i64_w])
             try rfl
            refine hK.out _ _ ⟨v250,v254,(by rw [ha.out];exact putSel_upk 3 hb_ rfl rfl rfl),Q_HO_5,Q_HB,fun h0_ => absurd ((hoff 7 (by kernel_rfl)).symm.trans h0_) (by decide),Q_HO255⟩
           refine steps_cons ?_ ?_
           ·rintro b a w' ⟨v250,v254,ha,Q_HO_5,Q_HB,Q_HO251,Q_HO255⟩ hb_ hon hoff
            refine ⟨_,rfl,fun K hK => ?_⟩
            have e24 : a.tmps[24]? = some (.slice (some ad248) l0.length c0):=by rw [ha];exact putSel_on (e:=(3,24,.slice (some ad248) l0.length c0)) 2 rfl rfl (hon 3 (by kernel_rfl)) rfl
            have e25 : a.tmps[25]? = some (.int .i64 t243):=by rw [ha];exact putSel_on (e:=(4,25,.int .i64 t243)) 3 rfl rfl (hon 4 (by kernel_rfl)) rfl
            have e23 : a.tmps[23]? = some (.bool (decide (t243 < 0))):=by rw [ha];exact putSel_on (e:=(2,23,.bool (decide (t243 < 0)))) 1 rfl rfl (hon 2 (by kernel_rfl)) rfl
            replace ha:=zA ha
            have HO_5:=zA Q_HO_5
            have HB:=zA Q_HB
            have hs0_ : w'.cell? (ad248.add ((t243).toNat * 5)) = some (.int .i64 ((rd_T61 l0 t243).f0)):=(zh HB hw248_0)
            have hs1_ : w'.cell? ⟨(ad248.add ((t243).toNat * 5)).block,(ad248.add ((t243).toNat * 5)).off + 1,none⟩ = some (.int .i64 ((rd_T61 l0 t243).f1)):=(zh HB hw248_1)
            have hs2_ : w'.cell? ⟨(ad248.add ((t243).toNat * 5)).block,(ad248.add ((t243).toNat * 5)).off + 2,none⟩ = some (.float .f64 ((rd_T61 l0 t243).f2)):=(zh HB hw248_2)
            have hs3_ : w'.cell? ⟨(ad248.add ((t243).toNat * 5)).block,(ad248.add ((t243).toNat * 5)).off + 3,none⟩ = some (.float .f64 ((rd_T61 l0 t243).f3)):=(zh HB hw248_3)
            have hs4_ : w'.cell? ⟨(ad248.add ((t243).toNat * 5)).block,(ad248.add ((t243).toNat * 5)).off + 4,none⟩ = some (.int .i64 ((rd_T61 l0 t243).f4)):=(zh HB hw248_4)
            refine value_ (w1:=w') (v:=.pointer (some (ad248.add ((t243).toNat * 5)))) (wanted_on rfl rfl rfl (e23.trans (by first|rfl|(simp [*];done)))) rfl ?_ ?_
            ·go_simp
             (try simp only [i64_w])
             try rfl
            refine hK.out _ _ ⟨v250,v254,(by rw [ha.out];exact putSel_upk 4 hb_ rfl rfl rfl),Q_HO_5,Q_HB,fun h0_ => absurd ((hoff 7 (by kernel_rfl)).symm.trans h0_) (by decide),Q_HO255⟩
           refine steps_cons ?_ ?_
           ·rintro b a w' ⟨v250,v254,ha,Q_HO_5,Q_HB,Q_HO251,Q_HO255⟩ hb_ hon hoff
            refine ⟨_,rfl,fun K hK => ?_⟩
            have e26 : a.tmps[26]? = some (.pointer (some (ad248.add ((t243).toNat * 5)))):=by rw [ha];exact putSel_on (e:=(5,26,.pointer (some (ad248.add ((t243).toNat * 5))))) 4 rfl rfl (hon 5 (by kernel_rfl)) rfl
            have e23 : a.tmps[23]? = some (.bool (decide (t243 < 0))):=by rw [ha];exact putSel_on (e:=(2,23,.bool (decide (t243 < 0)))) 1 rfl rfl (hon 2 (by kernel_rfl)) rfl
            replace ha:=zA ha
            have HO_5:=zA Q_HO_5
            have HB:=zA Q_HB
            have hs0_ : w'.cell? (ad248.add ((t243).toNat * 5)) = some (.int .i64 ((rd_T61 l0 t243).f0)):=(zh HB hw248_0)
            have hs1_ : w'.cell? ⟨(ad248.add ((t243).toNat * 5)).block,(ad248.add ((t243).toNat * 5)).off + 1,none⟩ = some (.int .i64 ((rd_T61 l0 t243).f1)):=(zh HB hw248_1)
            have hs2_ : w'.cell? ⟨(ad248.add ((t243).toNat * 5)).block,(ad248.add ((t243).toNat * 5)).off + 2,none⟩ = some (.float .f64 ((rd_T61 l0 t243).f2)):=(zh HB hw248_2)
            have hs3_ : w'.cell? ⟨(ad248.add ((t243).toNat * 5)).block,(ad248.add ((t243).toNat * 5)).off + 3,none⟩ = some (.float .f64 ((rd_T61 l0 t243).f3)):=(zh HB hw248_3)
            have hs4_ : w'.cell? ⟨(ad248.add ((t243).toNat * 5)).block,(ad248.add ((t243).toNat * 5)).off + 4,none⟩ = some (.int .i64 ((rd_T61 l0 t243).f4)):=(zh HB hw248_4)
            refine value_ (w1:=w') (v:=.agg #[.int .i64 ((rd_T61 l0 t243).f0),.int .i64 ((rd_T61 l0 t243).f1),.float .f64 ((rd_T61 l0 t243).f2),.float .f64 ((rd_T61 l0 t243).f3),.int .i64 ((rd_T61 l0 t243).f4)]) (wanted_on rfl rfl rfl (e23.trans (by first|rfl|(simp [*];done)))) rfl ?_ ?_
            ·go_simp
             (try simp only [i64_w])
             try rfl
            refine hK.out _ _ ⟨v250,v254,(by rw [ha.out];exact putSel_upk 5 hb_ rfl rfl rfl),Q_HO_5,Q_HB,fun h0_ => absurd ((hoff 7 (by kernel_rfl)).symm.trans h0_) (by decide),Q_HO255⟩
           refine steps_cons ?_ ?_
           ·rintro b a w' ⟨v250,v254,ha,Q_HO_5,Q_HB,Q_HO251,Q_HO255⟩ hb_ hon hoff
            refine ⟨_,rfl,fun K hK => ?_⟩
            have e27 : a.tmps[27]? = some (.agg #[.int .i64 ((rd_T61 l0 t243).f0),.int .i64 ((rd_T61 l0 t243).f1),.float .f64 ((rd_T61 l0 t243).f2),.float .f64 ((rd_T61 l0 t243).f3),.int .i64 ((rd_T61 l0 t243).f4)]):=by rw [ha];exact putSel_on (e:=(6,27,.agg #[.int .i64 ((rd_T61 l0 t243).f0),.int .i64 ((rd_T61 l0 t243).f1),.float .f64 ((rd_T61 l0 t243).f2),.float .f64 ((rd_T61 l0 t243).f3),.int .i64 ((rd_T61 l0 t243).f4)])) 5 rfl rfl (hon 6 (by kernel_rfl)) rfl
            have e23 : a.tmps[23]? = some (.bool (decide (t243 < 0))):=by rw [ha];exact putSel_on (e:=(2,23,.bool (decide (t243 < 0)))) 1 rfl rfl (hon 2 (by kernel_rfl)) rfl
            replace ha:=zA ha
            have HO_5:=zA Q_HO_5
            have HB:=zA Q_HB
            refine Kd.R_lit_step k61 _ 61 ?hg (N:=28) ?hd (xs:=([(⟨(rd_T61 l0 t243).f0,(rd_T61 l0 t243).f1,(rd_T61 l0 t243).f2,(rd_T61 l0 t243).f3,(rd_T61 l0 t243).f4⟩ : S61)] : List (S61))) (inner:=[.int .i64 ((rd_T61 l0 t243).f0),.int .i64 ((rd_T61 l0 t243).f1),.float .f64 ((rd_T61 l0 t243).f2),.float .f64 ((rd_T61 l0 t243).f3),.int .i64 ((rd_T61 l0 t243).f4)]) (ok:=fun _ => True) (okp:=fun _ => True) ?hr ?hp (fun _ hk => hk) trivial (Below.refl _ _) (Nat.le_refl _) (by simp) ?_;(case hd => rfl);(case hg => exact zw);(case hr => first|(go_simp;done)|(go_simp;rfl));(case hp => exact (Reps.c5 (show Kd.M k61 _ _ _ (⟨(rd_T61 l0 t243).f0,(rd_T61 l0 t243).f1,(rd_T61 l0 t243).f2,(rd_T61 l0 t243).f3,(rd_T61 l0 t243).f4⟩ : S61) [.int .i64 ((rd_T61 l0 t243).f0),.int .i64 ((rd_T61 l0 t243).f1),.float .f64 ((rd_T61 l0 t243).f2),.float .f64 ((rd_T61 l0 t243).f3),.int .i64 ((rd_T61 l0 t243).f4)] from (k61_mkM _ _ _ (⟨(rd_T61 l0 t243).f0,(rd_T61 l0 t243).f1,(rd_T61 l0 t243).f2,(rd_T61 l0 t243).f3,(rd_T61 l0 t243).f4⟩ : S61) )) (Reps.none _ _)))
            intro v250 w28 ho29 hb hg_ hnew_
            clear hg_ hnew_
            (first|rw [← Ny249.out] at ho29|(simp only [Int.reduceToNat] at ho29;rw [← Ny249.out] at ho29))
            have n0_:=zA (Kd.R_elder' (zR HO_5) (Kd.R_base ho29) hb)
            have n1_:=zA (Kd.R_lower (Kd.R_new' ho29 (Kd.R_lt (zR HO_5))) (zW HB))
            have n2_:=zS HB hb
            have z_HO255:=fun (h0_ : b 12 = true) => (show Kd.R k61 61 w28 w.heap.size (fun k_ => some k_ ≠ (u5 : Value).ownBlock) v254 y253 from by first|exact (Kd.R_elder' (by (with_reducible repeat (first|apply Kd.R_alloc|apply Kd.R_drewN|apply Kd.R_drew));exact (Q_HO255 h0_)) (Kd.R_base ho29) hb)|exact Kd.R_mono (Kd.R_elder' (by (with_reducible repeat (first|apply Kd.R_alloc|apply Kd.R_drewN|apply Kd.R_drew));exact (Q_HO255 h0_)) (Kd.R_base ho29) hb) (fun _ h_ => by first|trivial|exact h_|exact h_.1))
            clear HO_5
            clear HB
            have HO_5:=n0_
            have HO251:=n1_
            have HB:=n2_
            clear n0_ n1_ n2_
            clear hb ho29
            refine hK.out _ _ ⟨v250,v254,(by rw [ha.out];exact putSel_upk 6 hb_ rfl rfl rfl),(by (with_reducible repeat (first|apply Kd.R_alloc|apply Kd.R_drewN|apply Kd.R_drew));exact Kd.R_mono HO_5.out (fun _ hk => Z19.zm hk)),(zH HB),fun _ => (by (with_reducible repeat (first|apply Kd.R_alloc|apply Kd.R_drewN|apply Kd.R_drew));exact Kd.R_mono HO251.out (fun _ hk => Z19.zm hk)),z_HO255⟩
           refine steps_cons ?_ ?_
           ·rintro b a w' ⟨v250,v254,ha,Q_HO_5,Q_HB,Q_HO251,Q_HO255⟩ hb_ hon hoff
            refine ⟨_,rfl,fun K hK => ?_⟩
            have e1 : a.tmps[1]? = some (.slice (some ad242) l1.length c1):=by rw [ha];exact (putSel_off rfl).trans rfl
            have e23 : a.tmps[23]? = some (.bool (decide (t243 < 0))):=by rw [ha];exact putSel_on (e:=(2,23,.bool (decide (t243 < 0)))) 1 rfl rfl (hon 2 (by kernel_rfl)) rfl
            replace ha:=zA ha
            have HO_5:=zA Q_HO_5
            have HB:=zA Q_HB
            refine value_ (w1:=w') (v:=.slice (some ad242) l1.length c1) (wanted_on rfl rfl rfl (e23.trans (by first|rfl|(simp [*];done)))) rfl ?_ ?_
            ·go_simp
             (try simp only [i64_w])
             try rfl
            refine hK.out _ _ ⟨v250,v254,(by rw [ha.out];exact putSel_upk 7 hb_ rfl rfl rfl),Q_HO_5,Q_HB,Q_HO251,fun h0_ => absurd ((hoff 12 (by kernel_rfl)).symm.trans h0_) (by decide)⟩
           refine steps_cons ?_ ?_
           ·rintro b a w' ⟨v250,v254,ha,Q_HO_5,Q_HB,Q_HO251,Q_HO255⟩ hb_ hon hoff
            refine ⟨_,rfl,fun K hK => ?_⟩
            have e6 : a.tmps[6]? = some (.int .i64 x6_1):=by rw [ha];exact (putSel_off rfl).trans rfl
            have e23 : a.tmps[23]? = some (.bool (decide (t243 < 0))):=by rw [ha];exact putSel_on (e:=(2,23,.bool (decide (t243 < 0)))) 1 rfl rfl (hon 2 (by kernel_rfl)) rfl
            replace ha:=zA ha
            have HO_5:=zA Q_HO_5
            have HB:=zA Q_HB
            refine value_ (w1:=w') (v:=.int .i64 x6_1) (wanted_on rfl rfl rfl (e23.trans (by first|rfl|(simp [*];done)))) rfl ?_ ?_
            ·go_simp
             (try simp only [i64_w])
             try rfl
            refine hK.out _ _ ⟨v250,v254,(by rw [ha.out];exact putSel_upk 8 hb_ rfl rfl rfl),Q_HO_5,Q_HB,Q_HO251,fun h0_ => absurd ((hoff 12 (by kernel_rfl)).symm.trans h0_) (by decide)⟩
           refine steps_cons ?_ ?_
           ·rintro b a w' ⟨v250,v254,ha,Q_HO_5,Q_HB,Q_HO251,Q_HO255⟩ hb_ hon hoff
            refine ⟨_,rfl,fun K hK => ?_⟩
            have e29 : a.tmps[29]? = some (.slice (some ad242) l1.length c1):=by rw [ha];exact putSel_on (e:=(8,29,.slice (some ad242) l1.length c1)) 7 rfl rfl (hon 8 (by kernel_rfl)) rfl
            have e30 : a.tmps[30]? = some (.int .i64 x6_1):=by rw [ha];exact putSel_on (e:=(9,30,.int .i64 x6_1)) 8 rfl rfl (hon 9 (by kernel_rfl)) rfl
            have e23 : a.tmps[23]? = some (.bool (decide (t243 < 0))):=by rw [ha];exact putSel_on (e:=(2,23,.bool (decide (t243 < 0)))) 1 rfl rfl (hon 2 (by kernel_rfl)) rfl
            replace ha:=zA ha
            have HO_5:=zA Q_HO_5
            have HB:=zA Q_HB
            have hs5_ : w'.cell? (ad242.add ((x6_1).toNat * 5)) = some (.int .i64 ((rd_T61 l1 x6_1).f0)):=(zh HB hw252_0)
            have hs6_ : w'.cell? ⟨(ad242.add ((x6_1).toNat * 5)).block,(ad242.add ((x6_1).toNat * 5)).off + 1,none⟩ = some (.int .i64 ((rd_T61 l1 x6_1).f1)):=(zh HB hw252_1)
            have hs7_ : w'.cell? ⟨(ad242.add ((x6_1).toNat * 5)).block,(ad242.add ((x6_1).toNat * 5)).off + 2,none⟩ = some (.float .f64 ((rd_T61 l1 x6_1).f2)):=(zh HB hw252_2)
            have hs8_ : w'.cell? ⟨(ad242.add ((x6_1).toNat * 5)).block,(ad242.add ((x6_1).toNat * 5)).off + 3,none⟩ = some (.float .f64 ((rd_T61 l1 x6_1).f3)):=(zh HB hw252_3)
            have hs9_ : w'.cell? ⟨(ad242.add ((x6_1).toNat * 5)).block,(ad242.add ((x6_1).toNat * 5)).off + 4,none⟩ = some (.int .i64 ((rd_T61 l1 x6_1).f4)):=(zh HB hw252_4)
            refine value_ (w1:=w') (v:=.pointer (some (ad242.add ((x6_1).toNat * 5)))) (wanted_on rfl rfl rfl (e23.trans (by first|rfl|(simp [*];done)))) rfl ?_ ?_
            ·go_simp
             (try simp only [i64_w])
             try rfl
            refine hK.out _ _ ⟨v250,v254,(by rw [ha.out];exact putSel_upk 9 hb_ rfl rfl rfl),Q_HO_5,Q_HB,Q_HO251,fun h0_ => absurd ((hoff 12 (by kernel_rfl)).symm.trans h0_) (by decide)⟩
           refine steps_cons ?_ ?_
           ·rintro b a w' ⟨v250,v254,ha,Q_HO_5,Q_HB,Q_HO251,Q_HO255⟩ hb_ hon hoff
            refine ⟨_,rfl,fun K hK => ?_⟩
            have e31 : a.tmps[31]? = some (.pointer (some (ad242.add ((x6_1).toNat * 5)))):=by rw [ha];exact putSel_on (e:=(10,31,.pointer (some (ad242.add ((x6_1).toNat * 5))))) 9 rfl rfl (hon 10 (by kernel_rfl)) rfl
            have e23 : a.tmps[23]? = some (.bool (decide (t243 < 0))):=by rw [ha];exact putSel_on (e:=(2,23,.bool (decide (t243 < 0)))) 1 rfl rfl (hon 2 (by kernel_rfl)) rfl
            replace ha:=zA ha
            have HO_5:=zA Q_HO_5
            have HB:=zA Q_HB
            have hs5_ : w'.cell? (ad242.add ((x6_1).toNat * 5)) = some (.int .i64 ((rd_T61 l1 x6_1).f0)):=(zh HB hw252_0)
            have hs6_ : w'.cell? ⟨(ad242.add ((x6_1).toNat * 5)).block,(ad242.add ((x6_1).toNat * 5)).off + 1,none⟩ = some (.int .i64 ((rd_T61 l1 x6_1).f1)):=(zh HB hw252_1)
            have hs7_ : w'.cell? ⟨(ad242.add ((x6_1).toNat * 5)).block,(ad242.add ((x6_1).toNat * 5)).off + 2,none⟩ = some (.float .f64 ((rd_T61 l1 x6_1).f2)):=(zh HB hw252_2)
            have hs8_ : w'.cell? ⟨(ad242.add ((x6_1).toNat * 5)).block,(ad242.add ((x6_1).toNat * 5)).off + 3,none⟩ = some (.float .f64 ((rd_T61 l1 x6_1).f3)):=(zh HB hw252_3)
            have hs9_ : w'.cell? ⟨(ad242.add ((x6_1).toNat * 5)).block,(ad242.add ((x6_1).toNat * 5)).off + 4,none⟩ = some (.int .i64 ((rd_T61 l1 x6_1).f4)):=(zh HB hw252_4)
            refine value_ (w1:=w') (v:=.agg #[.int .i64 ((rd_T61 l1 x6_1).f0),.int .i64 ((rd_T61 l1 x6_1).f1),.float .f64 ((rd_T61 l1 x6_1).f2),.float .f64 ((rd_T61 l1 x6_1).f3),.int .i64 ((rd_T61 l1 x6_1).f4)]) (wanted_on rfl rfl rfl (e23.trans (by first|rfl|(simp [*];done)))) rfl ?_ ?_
            ·go_simp
             (try simp only [i64_w])
             try rfl
            refine hK.out _ _ ⟨v250,v254,(by rw [ha.out];exact putSel_upk 10 hb_ rfl rfl rfl),Q_HO_5,Q_HB,Q_HO251,fun h0_ => absurd ((hoff 12 (by kernel_rfl)).symm.trans h0_) (by decide)⟩
           refine steps_cons ?_ ?_
           ·rintro b a w' ⟨v250,v254,ha,Q_HO_5,Q_HB,Q_HO251,Q_HO255⟩ hb_ hon hoff
            refine ⟨_,rfl,fun K hK => ?_⟩
            have e32 : a.tmps[32]? = some (.agg #[.int .i64 ((rd_T61 l1 x6_1).f0),.int .i64 ((rd_T61 l1 x6_1).f1),.float .f64 ((rd_T61 l1 x6_1).f2),.float .f64 ((rd_T61 l1 x6_1).f3),.int .i64 ((rd_T61 l1 x6_1).f4)]):=by rw [ha];exact putSel_on (e:=(11,32,.agg #[.int .i64 ((rd_T61 l1 x6_1).f0),.int .i64 ((rd_T61 l1 x6_1).f1),.float .f64 ((rd_T61 l1 x6_1).f2),.float .f64 ((rd_T61 l1 x6_1).f3),.int .i64 ((rd_T61 l1 x6_1).f4)])) 10 rfl rfl (hon 11 (by kernel_rfl)) rfl
            have e23 : a.tmps[23]? = some (.bool (decide (t243 < 0))):=by rw [ha];exact putSel_on (e:=(2,23,.bool (decide (t243 < 0)))) 1 rfl rfl (hon 2 (by kernel_rfl)) rfl
            replace ha:=zA ha
            have HO_5:=zA Q_HO_5
            have HB:=zA Q_HB
            refine Kd.R_lit_step k61 _ 61 ?hg (N:=33) ?hd (xs:=([(⟨(rd_T61 l1 x6_1).f0,(rd_T61 l1 x6_1).f1,(rd_T61 l1 x6_1).f2,(rd_T61 l1 x6_1).f3,(rd_T61 l1 x6_1).f4⟩ : S61)] : List (S61))) (inner:=[.int .i64 ((rd_T61 l1 x6_1).f0),.int .i64 ((rd_T61 l1 x6_1).f1),.float .f64 ((rd_T61 l1 x6_1).f2),.float .f64 ((rd_T61 l1 x6_1).f3),.int .i64 ((rd_T61 l1 x6_1).f4)]) (ok:=fun _ => True) (okp:=fun _ => True) ?hr ?hp (fun _ hk => hk) trivial (Below.refl _ _) (Nat.le_refl _) (by simp) ?_;(case hd => rfl);(case hg => exact zw);(case hr => first|(go_simp;done)|(go_simp;rfl));(case hp => exact (Reps.c5 (show Kd.M k61 _ _ _ (⟨(rd_T61 l1 x6_1).f0,(rd_T61 l1 x6_1).f1,(rd_T61 l1 x6_1).f2,(rd_T61 l1 x6_1).f3,(rd_T61 l1 x6_1).f4⟩ : S61) [.int .i64 ((rd_T61 l1 x6_1).f0),.int .i64 ((rd_T61 l1 x6_1).f1),.float .f64 ((rd_T61 l1 x6_1).f2),.float .f64 ((rd_T61 l1 x6_1).f3),.int .i64 ((rd_T61 l1 x6_1).f4)] from (k61_mkM _ _ _ (⟨(rd_T61 l1 x6_1).f0,(rd_T61 l1 x6_1).f1,(rd_T61 l1 x6_1).f2,(rd_T61 l1 x6_1).f3,(rd_T61 l1 x6_1).f4⟩ : S61) )) (Reps.none _ _)))
            intro v254 w28 ho29 hb hg_ hnew_
            clear hg_ hnew_
            (first|rw [← Ny253.out] at ho29|(simp only [Int.reduceToNat] at ho29;rw [← Ny253.out] at ho29))
            have n0_:=zA (Kd.R_elder' (zR HO_5) (Kd.R_base ho29) hb)
            have n1_:=zA (Kd.R_lower (Kd.R_new' ho29 (Kd.R_lt (zR HO_5))) (zW HB))
            have n2_:=zS HB hb
            have z_HO251:=fun (h0_ : b 7 = true) => (show Kd.R k61 61 w28 w.heap.size (fun k_ => some k_ ≠ (u5 : Value).ownBlock) v250 y249 from by first|exact (Kd.R_elder' (by (with_reducible repeat (first|apply Kd.R_alloc|apply Kd.R_drewN|apply Kd.R_drew));exact (Q_HO251 h0_)) (Kd.R_base ho29) hb)|exact Kd.R_mono (Kd.R_elder' (by (with_reducible repeat (first|apply Kd.R_alloc|apply Kd.R_drewN|apply Kd.R_drew));exact (Q_HO251 h0_)) (Kd.R_base ho29) hb) (fun _ h_ => by first|trivial|exact h_|exact h_.1))
            clear HO_5
            clear HB
            have HO_5:=n0_
            have HO255:=n1_
            have HB:=n2_
            clear n0_ n1_ n2_
            clear hb ho29
            refine hK.out _ _ ⟨v250,v254,(by rw [ha.out];exact putSel_upk 11 hb_ rfl rfl rfl),(by (with_reducible repeat (first|apply Kd.R_alloc|apply Kd.R_drewN|apply Kd.R_drew));exact Kd.R_mono HO_5.out (fun _ hk => Z19.zm hk)),(zH HB),z_HO251,fun _ => (by (with_reducible repeat (first|apply Kd.R_alloc|apply Kd.R_drewN|apply Kd.R_drew));exact Kd.R_mono HO255.out (fun _ hk => Z19.zm hk))⟩
           refine steps_cons ?_ ?_
           ·rintro b a w' ⟨v250,v254,ha,Q_HO_5,Q_HB,Q_HO251,Q_HO255⟩ hb_ hon hoff
            refine ⟨_,rfl,fun K hK => ?_⟩
            have e28 : a.tmps[28]? = some (v250):=by rw [ha];exact putSel_on (e:=(7,28,v250)) 6 rfl rfl (hon 7 (by kernel_rfl)) rfl
            have e33 : a.tmps[33]? = some (v254):=by rw [ha];exact putSel_on (e:=(12,33,v254)) 11 rfl rfl (hon 12 (by kernel_rfl)) rfl
            have e23 : a.tmps[23]? = some (.bool (decide (t243 < 0))):=by rw [ha];exact putSel_on (e:=(2,23,.bool (decide (t243 < 0)))) 1 rfl rfl (hon 2 (by kernel_rfl)) rfl
            replace ha:=zA ha
            have HO_5:=zA Q_HO_5
            have HB:=zA Q_HB
            have HO251:=zA (Q_HO251 (hon 7 (by kernel_rfl)))
            have HO255:=zA (Q_HO255 (hon 12 (by kernel_rfl)))
            obtain ⟨Ao33,co33,eo33⟩:=Kd.R_slice HO251.out
            (first|subst eo33|(injection eo33 with f1_ f2_ f3_;have f4_:=f1_.symm;have f5_:=f3_.symm;clear f1_ f2_ f3_;subst f4_;subst f5_))
            obtain ⟨Ao34,co34,eo34⟩:=Kd.R_slice HO255.out
            (first|subst eo34|(injection eo34 with f1_ f2_ f3_;have f4_:=f1_.symm;have f5_:=f3_.symm;clear f1_ f2_ f3_;subst f4_;subst f5_))
            refine goes_ Try.func17 (by kernel_rfl) rfl #[.slice Ao33 y249.length co33,.slice Ao34 y253.length co34] zw rfl rfl (by first|(simp only [List.map_toArray,List.map_cons,List.map_nil,Act.eval,Array.getD_eq_getD_getElem?,Option.getD_some,e28,e33,e23];done)|(simp only [List.map_toArray,List.map_cons,List.map_nil,Act.eval,Array.getD_eq_getD_getElem?,Option.getD_some,e28,e33,e23];rfl)) ?_
            with_reducible refine (beaconref06_SameNews.calls k1 _ _ y249 _ _ y253 false _ ?side1 ?side2 ?side3 ?side4 A13.out).mono ?_
            (case side1 => exact zC ((Kd.R_reads' HO251.out).2.2))
            (case side2 => exact (Kd.R_reads' HO251.out).2.1)
            (case side3 => exact zC ((Kd.R_reads' HO255.out).2.2))
            (case side4 => exact (Kd.R_reads' HO255.out).2.1)
            rintro e w35 ⟨rfl,hb⟩
            refine ⟨_,rfl,?_⟩
            replace HO_5:=zRb HO_5 hb
            replace HO251:=zRb HO251 hb
            replace HO255:=zRb HO255 hb
            replace HB:=zS HB hb
            (try clear hb)
            (try clear hb2)
            (try clear hk)
            (try clear hi)
            refine hK.out _ _ ⟨.slice Ao33 y249.length co33,.slice Ao34 y253.length co34,(by rw [ha.out];exact putSel_upk 12 hb_ rfl rfl rfl),(zR HO_5),(zH HB),fun _ => (zR HO251),fun _ => (zR HO255)⟩
           refine steps_cons ?_ ?_
           ·rintro b a w' ⟨v250,v254,ha,Q_HO_5,Q_HB,Q_HO251,Q_HO255⟩ hb_ hon hoff
            refine ⟨_,rfl,fun K hK => ?_⟩
            have e34 : a.tmps[34]? = some (.bool false):=by rw [ha];exact putSel_on (e:=(13,34,.bool false)) 12 rfl rfl (hon 13 (by kernel_rfl)) rfl
            have e23 : a.tmps[23]? = some (.bool (decide (t243 < 0))):=by rw [ha];exact putSel_on (e:=(2,23,.bool (decide (t243 < 0)))) 1 rfl rfl (hon 2 (by kernel_rfl)) rfl
            replace ha:=zA ha
            have HO_5:=zA Q_HO_5
            have HB:=zA Q_HB
            have HO251:=zA (Q_HO251 (hon 7 (by kernel_rfl)))
            have HO255:=zA (Q_HO255 (hon 12 (by kernel_rfl)))
            refine value_ (w1:=w') (v:=.bool (!false)) (wanted_on rfl rfl rfl (e23.trans (by first|rfl|(simp [*];done)))) rfl ?_ ?_
            ·go_simp
             (try simp only [i64_w])
             try rfl
            refine hK.out _ _ ⟨v250,v254,(by rw [ha.out];exact putSel_upk 13 hb_ rfl rfl rfl),Q_HO_5,Q_HB,Q_HO251,Q_HO255⟩
           refine steps_cons ?_ ?_
           ·rintro b a w' ⟨v250,v254,ha,Q_HO_5,Q_HB,Q_HO251,Q_HO255⟩ hb_ hon hoff
            refine ⟨_,rfl,fun K hK => ?_⟩
            have e23 : a.tmps[23]? = some (.bool (decide (t243 < 0))):=by rw [ha];exact putSel_on (e:=(2,23,.bool (decide (t243 < 0)))) 1 rfl rfl (hon 2 (by kernel_rfl)) rfl
            have e35 : a.tmps[35]? = some (.bool (!false)):=by rw [ha];exact putSel_on (e:=(14,35,.bool (!false))) 13 rfl rfl (hon 14 (by kernel_rfl)) rfl
            replace ha:=zA ha
            have HO_5:=zA Q_HO_5
            have HB:=zA Q_HB
            have HO251:=zA (Q_HO251 (hon 7 (by kernel_rfl)))
            have HO255:=zA (Q_HO255 (hon 12 (by kernel_rfl)))
            refine value_ (w1:=w') (v:=.bool (!false)) (by rfl) rfl ?_ ?_
            ·go_simp
             (try simp only [i64_w])
             try rfl
            refine hK.out _ _ ⟨v250,v254,(by rw [ha.out];exact putSel_upk 14 hb_ rfl rfl rfl),Q_HO_5,Q_HB,Q_HO251,Q_HO255⟩
           exact steps_nil
          rintro b a w35 hall ⟨v250,v254,ha,Q_HO_5,Q_HB,Q_HO251,Q_HO255⟩
          clear HB HO_5
          have hb1_:=hall 1 (by kernel_rfl)
          have hb2_:=hall 2 (by kernel_rfl)
          have hb3_:=hall 3 (by kernel_rfl)
          have hb4_:=hall 4 (by kernel_rfl)
          have hb5_:=hall 5 (by kernel_rfl)
          have hb6_:=hall 6 (by kernel_rfl)
          have hb7_:=hall 7 (by kernel_rfl)
          have hb8_:=hall 8 (by kernel_rfl)
          have hb9_:=hall 9 (by kernel_rfl)
          have hb10_:=hall 10 (by kernel_rfl)
          have hb11_:=hall 11 (by kernel_rfl)
          have hb12_:=hall 12 (by kernel_rfl)
          have hb13_:=hall 13 (by kernel_rfl)
          have hb14_:=hall 14 (by kernel_rfl)
          have hb15_:=hall 15 (by kernel_rfl)
          subst ha
          simp only [putSel,hb1_,hb2_,hb3_,hb4_,hb5_,hb6_,hb7_,hb8_,hb9_,hb10_,hb11_,hb12_,hb13_,hb14_,hb15_,if_true,Act.put,xA,xB,xC]
          have HO_5:=zA Q_HO_5
          clear Q_HO_5
          have HB:=zA Q_HB
          clear Q_HB
          have HO251:=zA (Q_HO251 hb7_)
          clear Q_HO251
          have HO255:=zA (Q_HO255 hb12_)
          clear Q_HO255
          clear hall hb1_ hb2_ hb3_ hb4_ hb5_ hb6_ hb7_ hb8_ hb9_ hb10_ hb11_ hb12_ hb13_ hb14_ hb15_
          have p257 : 0 ≤ (x6_1 : Int):=zd
          have q257 : x6_1 < (l1.length : Int):=zd
          obtain ⟨ad257,e257,hx257_0,hx257_1,hx257_2,hx257_3,hx257_4⟩:=at_T61 HR1.out x6_1 p257 q257
          obtain rfl : ad242 = ad257:=(by injection e257)
          replace hx257_0:=zh HB hx257_0
          replace hx257_1:=zh HB hx257_1
          replace hx257_2:=zh HB hx257_2
          replace hx257_3:=zh HB hx257_3
          replace hx257_4:=zh HB hx257_4
          replace p257:=eq_true p257
          replace q257:=eq_true q257
          try go_wp2_with (first|((with_reducible refine gate_builtin (b:=.append) (xs:=#[.tmp 37,.tmp 42]) rfl ?_);(try (refine gate_guard (by rfl) ?_;dsimp only));at_builtin;refine Kd.R_append k61 (w0:=w) w.heap.size rfl (.tmp 37) (.tmp 42) 30 61 (.agg #[(.int .i64 0),(.int .i64 0),(.float .f64 0),(.float .f64 0),(.int .i64 0)]) 40 rfl Try.underlying30 info61 rfl (by decide) (by omega) u5 x5_1 (⟨(rd_T61 l1 x6_1).f0,(rd_T61 l1 x6_1).f1,(rd_T61 l1 x6_1).f2,(rd_T61 l1 x6_1).f3,(rd_T61 l1 x6_1).f4⟩ : S61) [.int .i64 ((rd_T61 l1 x6_1).f0),.int .i64 ((rd_T61 l1 x6_1).f1),.float .f64 ((rd_T61 l1 x6_1).f2),.float .f64 ((rd_T61 l1 x6_1).f3),.int .i64 ((rd_T61 l1 x6_1).f4)] (fun _ => True) (fun _ => False) rfl rfl ?aP (fun _ hk => hk.elim) ?aF ?aO ?aB ?aS ?aL ?_;(case aP => exact k61_mkM _ _ _ (⟨(rd_T61 l1 x6_1).f0,(rd_T61 l1 x6_1).f1,(rd_T61 l1 x6_1).f2,(rd_T61 l1 x6_1).f3,(rd_T61 l1 x6_1).f4⟩ : S61));(case aB => exact (zH HB));(case aF => exact (fun _ _ => trivial));(case aO => exact (zR HO_5));(case aS => exact (zW HB));(case aL => have:=LMc25.out;omega);intro v259 w36 ho hb hg hat;rw [← Ny258.out] at ho;replace HB:=zA (hb);have HO260:=zA (ho);clear HO_5;clear ho hb hg hat))
          go_roundg k1
          case measure => have:=HK1.out;omega
          case rel => exact ⟨(y258),(wrap64 (x6_1 + 1)),ze,H',⟨by have:=HK1.out;omega⟩,⟨by (with_reducible repeat (first|apply Kd.R_alloc|apply Kd.R_drewN|apply Kd.R_drew));exact Kd.R_mono HO260.out (fun _ hk => trivial)⟩,⟨zH HB⟩⟩
         ·rw [if_neg c25] at H
          exact absurd H (by simp)
       ·rw [if_neg c12] at H
        exact absurd H (by simp)
      ·rw [if_neg c11] at H
       exact absurd H (by simp)
    ·rw [if_neg c4] at H
     exact absurd H (by simp)
   ·rw [if_neg c3] at H
    have c3b0 : decide (x6_1 < (l1.length : Int)) = false:=decide_eq_false c3
    clear c3
    have H':=zA H
    clear H
    go_wp2
    go_loopg [5,8] k1 (fun kq v5 v8 w' => ∃ (x5_2 : List (S61)) (x8_2 : Int),v8 = .int .i64 x8_2 ∧ Aside0 (beaconref14_diff.l1 kq l0 l1 x5_2 x8_2 = some r) ∧ Aside0 (kq ≤ k1) ∧ Aside0 (Kd.R k61 61 w' w.heap.size (fun _ => True) v5 x5_2) ∧ Aside0 (Below w.heap.size w w'))
    case atStart => exact ⟨(x5_1),(0),ze,H',⟨Nat.le_refl _⟩,⟨zR HO_5⟩,⟨zH HB⟩⟩
    case round =>
     clear H'
     try clear c1;try clear c3;try clear c3b0
     obtain ⟨x5_2,x8_2,rfl,HA,HK2,HO_5,HB⟩:=hrel
     cases gk with
     | zero => exact absurd HA.out (by simp [beaconref14_diff.l1])
     | succ k2 =>
      have H:=HA.out
      clear HA
      simp only [beaconref14_diff.l1] at H
      by_cases c37 : x8_2 < (l0.length : Int)
      ·rw [if_pos c37] at H
       have c37b0 : decide (x8_2 < (l0.length : Int)) = true:=decide_eq_true c37
       clear c37
       by_cases c38 : 0 ≤ x8_2
       ·rw [if_pos c38] at H
        have c38b0 : decide (0 ≤ x8_2) = true:=decide_eq_true c38
        clear c38
        replace H:=Option.bind_eq_some_iff.mp H
        obtain ⟨t262,A390,H⟩:=H
        (try dsimp only at H)
        have A39:=zA A390
        clear A390
        by_cases c40 : t262 < 0
        ·rw [if_pos c40] at H
         have c40b0 : decide (t262 < 0) = true:=decide_eq_true c40
         clear c40
         replace H:=Option.bind_eq_some_iff.mp H
         obtain ⟨t265,A410,H⟩:=H
         (try dsimp only at H)
         have A41:=zA A410
         clear A410
         replace H:=Option.bind_eq_some_iff.mp H
         obtain ⟨t266,A420,H⟩:=H
         (try dsimp only at H)
         have A42:=zA A420
         clear A420
         have H':=zA H
         clear H
         have p261 : 0 ≤ (x8_2 : Int):=zd
         have q261 : x8_2 < (l0.length : Int):=zd
         obtain ⟨ad261,e261,hx261_0,hx261_1,hx261_2,hx261_3,hx261_4⟩:=at_T61 HR0.out x8_2 p261 q261
         cases e261
         replace hx261_0:=zh HB hx261_0
         replace hx261_1:=zh HB hx261_1
         replace hx261_2:=zh HB hx261_2
         replace hx261_3:=zh HB hx261_3
         replace hx261_4:=zh HB hx261_4
         replace p261:=eq_true p261
         replace q261:=eq_true q261
         try go_wp2_with (first|((with_reducible refine gate_callee (f:=45) rfl ?_);refine zg (some 55) Try.func45 #[.slice A1 l1.length c1,.agg #[.int .i64 ((rd_T61 l0 x8_2).f0),.int .i64 ((rd_T61 l0 x8_2).f1),.float .f64 ((rd_T61 l0 x8_2).f2),.float .f64 ((rd_T61 l0 x8_2).f3),.int .i64 ((rd_T61 l0 x8_2).f4)]] ?_;(with_reducible refine (beaconref14_place.calls k2 _ _ l1 ((rd_T61 l0 x8_2).f0) ((rd_T61 l0 x8_2).f1) ((rd_T61 l0 x8_2).f2) ((rd_T61 l0 x8_2).f3) ((rd_T61 l0 x8_2).f4) t262 _ ?side1 ?side2 A39.out).mono ?_);(case side1 => exact zC (Kd.C_below HR1.out HB.1));(case side2 => exact HC1.out);rintro e w43 ⟨rfl,hb⟩;refine ⟨_,rfl,?_⟩;replace HO_5:=zRb HO_5 hb;replace HB:=zS HB hb;(try clear hb)))
         replace HO_5:=zA (Kd.R_drew HO_5.out)
         replace HB:=zA (bw1 HB.1)
         have p263 : 0 ≤ (x8_2 : Int):=zd
         have q263 : x8_2 < (l0.length : Int):=zd
         obtain ⟨ad263,e263,hx263_0,hx263_1,hx263_2,hx263_3,hx263_4⟩:=at_T61 HR0.out x8_2 p263 q263
         have hw263_4:=hx263_4
         have hw263_3:=hx263_3
         have hw263_2:=hx263_2
         have hw263_1:=hx263_1
         have hw263_0:=hx263_0
         obtain rfl : ad261 = ad263:=(by injection e263)
         replace hx263_0:=zh HB hx263_0
         replace hx263_1:=zh HB hx263_1
         replace hx263_2:=zh HB hx263_2
         replace hx263_3:=zh HB hx263_3
         replace hx263_4:=zh HB hx263_4
         replace p263:=eq_true p263
         replace q263:=eq_true q263
         have p264 : 0 ≤ (x8_2 : Int):=zd
         have q264 : x8_2 < (l0.length : Int):=zd
         obtain ⟨ad264,e264,hx264_0,hx264_1,hx264_2,hx264_3,hx264_4⟩:=at_T61 HR0.out x8_2 p264 q264
         have hw264_4:=hx264_4
         have hw264_3:=hx264_3
         have hw264_2:=hx264_2
         have hw264_1:=hx264_1
         have hw264_0:=hx264_0
         obtain rfl : ad261 = ad264:=(by injection e264)
         replace hx264_0:=zh HB hx264_0
         replace hx264_1:=zh HB hx264_1
         replace hx264_2:=zh HB hx264_2
         replace hx264_3:=zh HB hx264_3
         replace hx264_4:=zh HB hx264_4
         replace p264:=eq_true p264
         replace q264:=eq_true q264
         refine start_ (n:=15) (S:=fun w' => w'.cell? (ad261.add ((x8_2).toNat * 5)) = some (.int .i64 ((rd_T61 l0 x8_2).f0)) ∧ w'.cell? ⟨(ad261.add ((x8_2).toNat * 5)).block,(ad261.add ((x8_2).toNat * 5)).off + 1,none⟩ = some (.int .i64 ((rd_T61 l0 x8_2).f1)) ∧ w'.cell? ⟨(ad261.add ((x8_2).toNat * 5)).block,(ad261.add ((x8_2).toNat * 5)).off + 2,none⟩ = some (.float .f64 ((rd_T61 l0 x8_2).f2)) ∧ w'.cell? ⟨(ad261.add ((x8_2).toNat * 5)).block,(ad261.add ((x8_2).toNat * 5)).off + 3,none⟩ = some (.float .f64 ((rd_T61 l0 x8_2).f3)) ∧ w'.cell? ⟨(ad261.add ((x8_2).toNat * 5)).block,(ad261.add ((x8_2).toNat * 5)).off + 4,none⟩ = some (.int .i64 ((rd_T61 l0 x8_2).f4)) ∧ w'.cell? (ad261.add ((x8_2).toNat * 5)) = some (.int .i64 ((rd_T61 l0 x8_2).f0)) ∧ w'.cell? ⟨(ad261.add ((x8_2).toNat * 5)).block,(ad261.add ((x8_2).toNat * 5)).off + 1,none⟩ = some (.int .i64 ((rd_T61 l0 x8_2).f1)) ∧ w'.cell? ⟨(ad261.add ((x8_2).toNat * 5)).block,(ad261.add ((x8_2).toNat * 5)).off + 2,none⟩ = some (.float .f64 ((rd_T61 l0 x8_2).f2)) ∧ w'.cell? ⟨(ad261.add ((x8_2).toNat * 5)).block,(ad261.add ((x8_2).toNat * 5)).off + 3,none⟩ = some (.float .f64 ((rd_T61 l0 x8_2).f3)) ∧ w'.cell? ⟨(ad261.add ((x8_2).toNat * 5)).block,(ad261.add ((x8_2).toNat * 5)).off + 4,none⟩ = some (.int .i64 ((rd_T61 l0 x8_2).f4))) (ds:=[]) #[F,F,F,F,F,F,F,F,F,F,F,F,F,F,F] (by kernel_rfl) rfl rfl ⟨(zh HB hw263_0),(zh HB hw263_1),(zh HB hw263_2),(zh HB hw263_3),(zh HB hw263_4),(zh HB hw264_0),(zh HB hw264_1),(zh HB hw264_2),(zh HB hw264_3),(zh HB hw264_4)⟩ (fun hHeld => ?_);refine with_tabW beaconref14_diff.tab12 beaconref14_diff.bits12 (fun HT_ HW_ => ?_)
         generalize w43.drew = w44 at HO_5 HB hx263_0 hx263_1 hx263_2 hx263_3 hx263_4 hx264_0 hx264_1 hx264_2 hx264_3 hx264_4 hHeld ⊢
         refine pz 0 57 #[T,F,F,F,F,F,F,F,F,F,F,F,F,F,F] HT_.1 ?_
         refine pz 1 58 #[T,T,F,F,F,F,F,F,F,F,F,F,F,F,F] HT_.1 ?_
         refine pz 2 59 #[T,T,T,F,F,F,F,F,F,F,F,F,F,F,F] HT_.1 ?_
         refine pz 3 60 #[T,T,T,T,F,F,F,F,F,F,F,F,F,F,F] HT_.1 ?_
         refine pz 4 61 #[T,T,T,T,T,F,F,F,F,F,F,F,F,F,F] HT_.1 ?_
         refine pz 6 63 #[T,T,T,T,T,F,T,F,F,F,F,F,F,F,F] HT_.1 ?_
         refine pz 7 64 #[T,T,T,T,T,F,T,T,F,F,F,F,F,F,F] HT_.1 ?_
         refine pz 8 65 #[T,T,T,T,T,F,T,T,T,F,F,F,F,F,F] HT_.1 ?_
         refine pz 9 66 #[T,T,T,T,T,F,T,T,T,T,F,F,F,F,F] HT_.1 ?_
         refine tz 5 62 #[T,T,T,T,T,T,T,T,T,T,F,F,F,F,F] HT_.1 HW_.1 hHeld ?_
         refine tz 10 67 #[T,T,T,T,T,T,T,T,T,T,T,F,F,F,F] HT_.1 HW_.1 hHeld ?_
         refine one_ (i:=11) (N:=some 68) #[T,T,T,T,T,T,T,T,T,T,T,T,F,F,F] rfl rfl (one_of HT_.out (by kernel_rfl)) (by decide) (fun K hK => ?_)
         refine zo_ Try.func44 #[.int .i64 1] ?_
         with_reducible refine (math_Inf.calls 1 t265 _ A41.out).mono ?_
         rintro e w' ⟨rfl,⟨nd,rfl⟩⟩
         refine ⟨_,rfl,?_⟩
         obtain ⟨Ao45,co45,eo45⟩:=Kd.R_slice HO_5.out
         (first|subst eo45|(injection eo45 with f1_ f2_ f3_;have f4_:=f1_.symm;have f5_:=f3_.symm;clear f1_ f2_ f3_;subst f4_;subst f5_))
         refine hK.out _ _ ⟨(zh HB hw263_0),(zh HB hw263_1),(zh HB hw263_2),(zh HB hw263_3),(zh HB hw263_4),(zh HB hw264_0),(zh HB hw264_1),(zh HB hw264_2),(zh HB hw264_3),(zh HB hw264_4)⟩ (fun hHeld => ?_)
         clear hK K
         refine nz 68 ?_
         refine pz 12 69 #[T,T,T,T,T,T,T,T,T,T,T,T,T,F,F] HT_.1 ?_
         refine one_ (i:=13) (N:=some 70) #[T,T,T,T,T,T,T,T,T,T,T,T,T,T,F] rfl rfl (one_of HT_.out (by kernel_rfl)) (by decide) (fun K hK => ?_)
         refine zo_ Try.func46 #[.slice Ao45 x5_2.length co45,.agg #[.int .i64 ((rd_T61 l0 x8_2).f0),.int .i64 ((rd_T61 l0 x8_2).f1),.float .f64 t265,.float .f64 0,.int .i64 0]] ?_
         with_reducible refine (beaconref14_put.calls k2 _ _ x5_2 ((rd_T61 l0 x8_2).f0) ((rd_T61 l0 x8_2).f1) t265 0 0 t266 _ ?side1 ?side2 A42.out).mono ?_
         (case side1 => exact zC ((Kd.R_reads' HO_5.out).2.2))
         (case side2 => exact (Kd.R_reads' HO_5.out).2.1)
         rintro e w46 ⟨v267,rfl,ho0,hb⟩
         refine ⟨_,rfl,?_⟩
         have HO268:=zA (Kd.R_lower (Kd.R_new' ho0 (Kd.R_lt (zR HO_5))) (zW HB))
         replace HO_5:=zA (Kd.R_elder' (zR HO_5) (Kd.R_base ho0) hb)
         replace HB:=zS HB hb
         (try clear hb)
         (try clear hb2)
         (try clear hk)
         (try clear hi)
         (try clear ho0)
         refine hK.out _ _ ⟨(zh HB hw263_0),(zh HB hw263_1),(zh HB hw263_2),(zh HB hw263_3),(zh HB hw263_4),(zh HB hw264_0),(zh HB hw264_1),(zh HB hw264_2),(zh HB hw264_3),(zh HB hw264_4)⟩ (fun hHeld => ?_)
         clear hK K
         refine nz 70 ?_
         refine pz 14 5 #[T,T,T,T,T,T,T,T,T,T,T,T,T,T,T] HT_.1 ?_
         refine done_ (done_of HT_.out (by kernel_rfl)) ?_
         try go_wp2
         go_roundg k2
         case measure => have:=HK1.out;have:=HK2.out;omega
         case rel => exact ⟨(t266),(wrap64 (x8_2 + 1)),ze,H',⟨by have:=HK1.out;have:=HK2.out;omega⟩,⟨by (with_reducible repeat (first|apply Kd.R_alloc|apply Kd.R_drewN|apply Kd.R_drew));exact Kd.R_mono HO268.out (fun _ hk => trivial)⟩,⟨zH HB⟩⟩
        ·rw [if_neg c40] at H
         have c40b0 : decide (t262 < 0) = false:=decide_eq_false c40
         clear c40
         have H':=zA H
         clear H
         have p261 : 0 ≤ (x8_2 : Int):=zd
         have q261 : x8_2 < (l0.length : Int):=zd
         obtain ⟨ad261,e261,hx261_0,hx261_1,hx261_2,hx261_3,hx261_4⟩:=at_T61 HR0.out x8_2 p261 q261
         cases e261
         replace hx261_0:=zh HB hx261_0
         replace hx261_1:=zh HB hx261_1
         replace hx261_2:=zh HB hx261_2
         replace hx261_3:=zh HB hx261_3
         replace hx261_4:=zh HB hx261_4
         replace p261:=eq_true p261
         replace q261:=eq_true q261
         go_wp2_with (first|((with_reducible refine gate_callee (f:=45) rfl ?_);refine zg (some 55) Try.func45 #[.slice A1 l1.length c1,.agg #[.int .i64 ((rd_T61 l0 x8_2).f0),.int .i64 ((rd_T61 l0 x8_2).f1),.float .f64 ((rd_T61 l0 x8_2).f2),.float .f64 ((rd_T61 l0 x8_2).f3),.int .i64 ((rd_T61 l0 x8_2).f4)]] ?_;(with_reducible refine (beaconref14_place.calls k2 _ _ l1 ((rd_T61 l0 x8_2).f0) ((rd_T61 l0 x8_2).f1) ((rd_T61 l0 x8_2).f2) ((rd_T61 l0 x8_2).f3) ((rd_T61 l0 x8_2).f4) t262 _ ?side1 ?side2 A39.out).mono ?_);(case side1 => exact zC (Kd.C_below HR1.out HB.1));(case side2 => exact HC1.out);rintro e w47 ⟨rfl,hb⟩;refine ⟨_,rfl,?_⟩;replace HO_5:=zRb HO_5 hb;replace HB:=zS HB hb;(try clear hb)))
         go_roundg k2
         case measure => have:=HK1.out;have:=HK2.out;omega
         case rel => exact ⟨(x5_2),(wrap64 (x8_2 + 1)),ze,H',⟨by have:=HK1.out;have:=HK2.out;omega⟩,⟨zR HO_5⟩,⟨zH HB⟩⟩
       ·rw [if_neg c38] at H
        exact absurd H (by simp)
      ·rw [if_neg c37] at H
       have c37b0 : decide (x8_2 < (l0.length : Int)) = false:=decide_eq_false c37
       clear c37
       obtain rfl:=Option.some.inj H
       go_wp2
       go_ret
       exact ⟨_,by first|rfl|(simp [errW_none,errW_some] <;> rfl)|(simp [*,errW_none,errW_some] <;> rfl),by (with_reducible repeat (first|apply Kd.R_alloc|apply Kd.R_drewN|apply Kd.R_drew));exact HO_5.out,zH HB⟩

end Go.Proofs.Ytpcgjdllgdkobaa.XD
