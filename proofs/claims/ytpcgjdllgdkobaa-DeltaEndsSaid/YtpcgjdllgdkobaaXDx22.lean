/- Go functions of this seat as Lean functions, with proofs that the calls come to them. (Written by xprint.py, a program of this session, over the kit's print.) -/
import Derived.Test.YtpcgjdllgdkobaaXDx0
import Derived.Test.YtpcgjdllgdkobaaXDx3
import Derived.Test.YtpcgjdllgdkobaaXDx8
import Derived.Test.YtpcgjdllgdkobaaXDx12
import Derived.Test.YtpcgjdllgdkobaaXDx14
import Derived.Test.YtpcgjdllgdkobaaXDx15
import Derived.Test.YtpcgjdllgdkobaaXDx16
import Derived.Test.YtpcgjdllgdkobaaXDx17
import Derived.Test.YtpcgjdllgdkobaaXDx18
import Derived.Test.YtpcgjdllgdkobaaXDx21
namespace Go.Proofs.Ytpcgjdllgdkobaa.XD
open Go.RowKit Go.Proofs.YtpcgjdllgdkobaaW.PrintWords Go.Proofs.YtpcgjdllgdkobaaW.PrintLast Go.Proofs.YtpcgjdllgdkobaaW.PrintMore
attribute [local go_sem] max2_int min2_int max_two min_two max_three min_three max_four min_four   -- for this text's walks alone
set_option linter.unusedVariables false
set_option linter.unusedSimpArgs false
open List renaming setIfInBounds_toArray → xA, set_cons_zero → xB, set_cons_succ → xC
open Go.Proofs.YtpcgjdllgdkobaaW.PrintWords renaming blk_drewN → bN, blk_drew → bD, blk_alloc → bA, below_set → bS, blk_frozen → bF, blk_cell → bC, cell_far → cF, blk_far → bZ, blk_below → bB, pw_below_drewN → bwN, below_drew1 → bw1, below_alloc → bwA
open Go.Proofs.YtpcgjdllgdkobaaW.PrintZ
open Bool renaming true → T,false → F

/-! ### delta_Merge: function 15 -/
def delta_Merge.f (k : Nat) (l0 : List (S61)) (l1 : List (S61)) : Option ((List (S61)) × Int) := (delta_list.f k l0).bind fun t274 => (if t274 = true then ((delta_told.f k l1).bind fun t275 => (if t275 = true then ((delta_merge.f l0 l1).bind fun t276 => (some (t276, 0))) else (some (([] : List (S61)), 1)))) else (some (([] : List (S61)), 1)))
theorem delta_Merge.mono : ∀ a0 a1 k, LeO (delta_Merge.f k a0 a1) (delta_Merge.f (k + 1) a0 a1) := by
 intro a0 a1 k
 unfold delta_Merge.f
 repeat' first
   | (with_reducible exact delta_list.mono _ _)
   | (with_reducible exact delta_told.mono _ _)
   | (with_reducible exact LeO.refl _)
   | (with_reducible exact LeO.none _)
   | (with_reducible refine LeO.ite ?_ ?_)
   | (with_reducible refine LeO.bind ?_ (fun _ => ?_))
   | exact delta_list.mono _ _
   | exact delta_told.mono _ _
   | exact LeO.none _
   | refine LeO.ite ?_ ?_
   | refine LeO.bind ?_ (fun _ => ?_)
set_option maxHeartbeats 8000000 in
set_option maxRecDepth 100000 in
theorem delta_Merge.calls (k : Nat) (A0 : Option Addr) (c0 : Nat) (l0 : List (S61)) (A1 : Option Addr) (c1 : Nat) (l1 : List (S61)) (r1 : List (S61)) (r2 : Int) (w : World) (hr0 : Kd.C k61 w A0 l0.length l0) (hc0 : l0.length ≤ c0) (hr1 : Kd.C k61 w A1 l1.length l1) (hc1 : l1.length ≤ c1) (h : delta_Merge.f k l0 l1 = some (r1, r2)) :
  Calls Try.prog 15 #[.slice A0 l0.length c0,.slice A1 l1.length c1] w fun e w' => ∃ v0_ : Value,e = .returned (.tuple #[v0_,.int .i64 r2]) ∧ Kd.R k61 61 w' w.heap.size (fun _ => True) v0_ r1 ∧ Below w.heap.size w w':=by
 have HR0:=zA hr0
 have HC0:=zA hc0
 clear hr0 hc0
 have HR1:=zA hr1
 have HC1:=zA hc1
 clear hr1 hc1
 have HB:=zA (Below.refl w.heap.size w)
 have H : ((delta_list.f k l0).bind fun t274 => (if t274 = true then ((delta_told.f k l1).bind fun t275 => (if t275 = true then ((delta_merge.f l0 l1).bind fun t276 => (some (t276,0))) else (some (([] : List (S61)),1)))) else (some (([] : List (S61)),1)))) = some (r1,r2):=h
 clear h
 replace H:=Option.bind_eq_some_iff.mp H
 obtain ⟨t274,A30,H⟩:=H
 (try dsimp only at H)
 have A3:=zA A30
 clear A30
 by_cases c4 : t274 = true
 ·subst c4
  rw [if_pos rfl] at H
  replace H:=Option.bind_eq_some_iff.mp H
  obtain ⟨t275,A50,H⟩:=H
  (try dsimp only at H)
  have A5:=zA A50
  clear A50
  by_cases c6 : t275 = true
  ·subst c6
   rw [if_pos rfl] at H
   replace H:=Option.bind_eq_some_iff.mp H
   obtain ⟨t276,A70,H⟩:=H
   (try dsimp only at H)
   have A7:=zA A70
   clear A70
   simp only [Option.some.injEq,Prod.mk.injEq] at H
   obtain ⟨rfl,rfl⟩:=H
   go_enter Try.func15,Try.ntmps15
   go_wp2_with (first|((with_reducible refine gate_callee (f:=30) rfl ?_);refine zg (some 7) Try.func30 #[.slice A0 l0.length c0] ?_;(with_reducible refine (delta_list.calls k _ _ l0 true _ ?side1 ?side2 A3.out).mono ?_);(case side1 => exact zC HR0.out);(case side2 => exact HC0.out);rintro e w8 ⟨rfl,hb⟩;refine ⟨_,rfl,?_⟩;replace HB:=zS HB hb;(try clear hb))|(go_at_call 33;(with_reducible refine (delta_told.calls k _ _ l1 true _ ?side1 ?side2 A5.out).mono ?_);(case side1 => exact zC (Kd.C_below HR1.out HB.1));(case side2 => exact HC1.out);rintro e w9 ⟨rfl,hb⟩;replace HB:=zS HB hb;(try clear hb))|((with_reducible refine gate_callee (f:=34) rfl ?_);refine zg (some 16) Try.func34 #[.slice A0 l0.length c0,.slice A1 l1.length c1] ?_;(with_reducible refine (delta_merge.calls _ _ l0 _ _ l1 t276 _ ?side1 ?side2 ?side3 ?side4 A7.out).mono ?_);(case side1 => exact zC (Kd.C_below HR0.out HB.1));(case side2 => exact HC0.out);(case side3 => exact zC (Kd.C_below HR1.out HB.1));(case side4 => exact HC1.out);rintro e w10 ⟨v277,rfl,ho0,hb⟩;refine ⟨_,rfl,?_⟩;have HO278:=zA (Kd.R_lower ho0 (zW HB));replace HB:=zS HB hb;(try clear hb);(try clear ho0)))
   go_ret2
   exact ⟨_,by first|rfl|(simp [errW_none,errW_some] <;> rfl)|(simp [*,errW_none,errW_some] <;> rfl),by (with_reducible repeat (first|apply Kd.R_alloc|apply Kd.R_drewN|apply Kd.R_drew));exact HO278.out,zH HB⟩
  ·replace c6:=Bool.eq_false_iff.mpr c6
   subst c6
   rw [if_neg (show ¬ (false = true) by decide)] at H
   simp only [Option.some.injEq,Prod.mk.injEq] at H
   obtain ⟨rfl,rfl⟩:=H
   go_enter Try.func15,Try.ntmps15
   go_wp2_with (first|((with_reducible refine gate_callee (f:=30) rfl ?_);refine zg (some 7) Try.func30 #[.slice A0 l0.length c0] ?_;(with_reducible refine (delta_list.calls k _ _ l0 true _ ?side1 ?side2 A3.out).mono ?_);(case side1 => exact zC HR0.out);(case side2 => exact HC0.out);rintro e w11 ⟨rfl,hb⟩;refine ⟨_,rfl,?_⟩;replace HB:=zS HB hb;(try clear hb))|(go_at_call 33;(with_reducible refine (delta_told.calls k _ _ l1 false _ ?side1 ?side2 A5.out).mono ?_);(case side1 => exact zC (Kd.C_below HR1.out HB.1));(case side2 => exact HC1.out);rintro e w12 ⟨rfl,hb⟩;replace HB:=zS HB hb;(try clear hb)))
   go_ret2
   exact ⟨_,by first|rfl|(simp [errW_none,errW_some] <;> rfl)|(simp [*,errW_none,errW_some] <;> rfl),by first|exact Kd.R_nil _ _ _ _ _|exact Kd.N_nil _ _ _ _ _|exact Kd.V_nil _ _ _ _ _|exact Kd.Q_nil _ _ _ _ _|exact Kd.S_nil _ _ _ _ _,zH HB⟩
 ·replace c4:=Bool.eq_false_iff.mpr c4
  subst c4
  rw [if_neg (show ¬ (false = true) by decide)] at H
  simp only [Option.some.injEq,Prod.mk.injEq] at H
  obtain ⟨rfl,rfl⟩:=H
  go_enter Try.func15,Try.ntmps15
  go_wp2_with (first|((with_reducible refine gate_callee (f:=30) rfl ?_);refine zg (some 7) Try.func30 #[.slice A0 l0.length c0] ?_;(with_reducible refine (delta_list.calls k _ _ l0 false _ ?side1 ?side2 A3.out).mono ?_);(case side1 => exact zC HR0.out);(case side2 => exact HC0.out);rintro e w13 ⟨rfl,hb⟩;refine ⟨_,rfl,?_⟩;replace HB:=zS HB hb;(try clear hb)))
  go_ret2
  exact ⟨_,by first|rfl|(simp [errW_none,errW_some] <;> rfl)|(simp [*,errW_none,errW_some] <;> rfl),by first|exact Kd.R_nil _ _ _ _ _|exact Kd.N_nil _ _ _ _ _|exact Kd.V_nil _ _ _ _ _|exact Kd.Q_nil _ _ _ _ _|exact Kd.S_nil _ _ _ _ _,zH HB⟩

/-! ### beaconref14_merge: function 36 -/
mutual
def beaconref14_merge.l0 : Nat → List (S61) → List (S61) → List (S61) → Int → Option ((List (S61)))
 | 0, _, _, _, _ => none
 | k + 1, x0, x1, x5, x6 => if x6 < (x0.length : Int) then (if 0 ≤ x6 then ((beaconref14_place.f k x1 ((rd_T61 x0 x6).f0) ((rd_T61 x0 x6).f1) ((rd_T61 x0 x6).f2) ((rd_T61 x0 x6).f3) ((rd_T61 x0 x6).f4)).bind fun t280 => (if t280 < 0 then (if x5.length < 3518437208883 then (beaconref14_merge.l0 k x0 x1 (x5 ++ [(⟨(rd_T61 x0 x6).f0, (rd_T61 x0 x6).f1, (rd_T61 x0 x6).f2, (rd_T61 x0 x6).f3, (rd_T61 x0 x6).f4⟩ : S61)]) (wrap64 (x6 + 1))) else (none)) else (beaconref14_merge.l0 k x0 x1 x5 (wrap64 (x6 + 1))))) else (none)) else (beaconref14_merge.l1 k x1 x5 0)
def beaconref14_merge.l1 : Nat → List (S61) → List (S61) → Int → Option ((List (S61)))
 | 0, _, _, _ => none
 | k + 1, x1, x5, x7 => if x7 < (x1.length : Int) then (if 0 ≤ x7 then ((math_IsInf.f ((rd_T61 x1 x7).f2) 1).bind fun t286 => (if t286 = true then (beaconref14_merge.l1 k x1 x5 (wrap64 (x7 + 1))) else ((beaconref14_put.f k x5 ((rd_T61 x1 x7).f0) ((rd_T61 x1 x7).f1) ((rd_T61 x1 x7).f2) ((rd_T61 x1 x7).f3) ((rd_T61 x1 x7).f4)).bind fun t288 => (beaconref14_merge.l1 k x1 t288 (wrap64 (x7 + 1)))))) else (none)) else (some x5)
end
def beaconref14_merge.f (k : Nat) (l0 : List (S61)) (l1 : List (S61)) : Option ((List (S61))) := beaconref14_merge.l0 k l0 l1 ([] : List (S61)) 0
theorem beaconref14_merge.mono_l : ∀ k, (∀ y0 y1 y2 y3, LeO (beaconref14_merge.l0 k y0 y1 y2 y3) (beaconref14_merge.l0 (k + 1) y0 y1 y2 y3)) ∧ (∀ y0 y1 y2, LeO (beaconref14_merge.l1 k y0 y1 y2) (beaconref14_merge.l1 (k + 1) y0 y1 y2))
 | 0 => ⟨fun _ _ _ _ r h => by simp [beaconref14_merge.l0] at h, fun _ _ _ r h => by simp [beaconref14_merge.l1] at h⟩
 | k + 1 => by
  obtain ⟨ih0,ih1⟩:=beaconref14_merge.mono_l k
  refine ⟨?_,?_⟩
  ·intro y0 y1 y2 y3
   unfold beaconref14_merge.l0
   repeat' first
   | (with_reducible exact ih0 _ _ _ _)
   | (with_reducible exact ih1 _ _ _)
   | (with_reducible exact beaconref14_place.mono _ _ _ _ _ _ _)
   | (with_reducible exact beaconref14_put.mono _ _ _ _ _ _ _)
   | (with_reducible exact LeO.refl _)
   | (with_reducible exact LeO.none _)
   | (with_reducible refine LeO.ite ?_ ?_)
   | (with_reducible refine LeO.bind ?_ (fun _ => ?_))
   | exact ih0 _ _ _ _
   | exact ih1 _ _ _
   | exact beaconref14_place.mono _ _ _ _ _ _ _
   | exact beaconref14_put.mono _ _ _ _ _ _ _
   | exact LeO.none _
   | refine LeO.ite ?_ ?_
   | refine LeO.bind ?_ (fun _ => ?_)
  ·intro y0 y1 y2
   unfold beaconref14_merge.l1
   repeat' first
   | (with_reducible exact ih0 _ _ _ _)
   | (with_reducible exact ih1 _ _ _)
   | (with_reducible exact beaconref14_place.mono _ _ _ _ _ _ _)
   | (with_reducible exact beaconref14_put.mono _ _ _ _ _ _ _)
   | (with_reducible exact LeO.refl _)
   | (with_reducible exact LeO.none _)
   | (with_reducible refine LeO.ite ?_ ?_)
   | (with_reducible refine LeO.bind ?_ (fun _ => ?_))
   | exact ih0 _ _ _ _
   | exact ih1 _ _ _
   | exact beaconref14_place.mono _ _ _ _ _ _ _
   | exact beaconref14_put.mono _ _ _ _ _ _ _
   | exact LeO.none _
   | refine LeO.ite ?_ ?_
   | refine LeO.bind ?_ (fun _ => ?_)
theorem beaconref14_merge.mono : ∀ a0 a1 k, LeO (beaconref14_merge.f k a0 a1) (beaconref14_merge.f (k + 1) a0 a1) := by
 intro a0 a1 k
 obtain ⟨ih0,ih1⟩:=beaconref14_merge.mono_l k
 unfold beaconref14_merge.f
 repeat' first
   | (with_reducible exact ih0 _ _ _ _)
   | (with_reducible exact ih1 _ _ _)
   | (with_reducible exact beaconref14_place.mono _ _ _ _ _ _ _)
   | (with_reducible exact beaconref14_put.mono _ _ _ _ _ _ _)
   | (with_reducible exact LeO.refl _)
   | (with_reducible exact LeO.none _)
   | (with_reducible refine LeO.ite ?_ ?_)
   | (with_reducible refine LeO.bind ?_ (fun _ => ?_))
   | exact ih0 _ _ _ _
   | exact ih1 _ _ _
   | exact beaconref14_place.mono _ _ _ _ _ _ _
   | exact beaconref14_put.mono _ _ _ _ _ _ _
   | exact LeO.none _
   | refine LeO.ite ?_ ?_
   | refine LeO.bind ?_ (fun _ => ?_)
set_option maxHeartbeats 8000000 in
set_option maxRecDepth 100000 in
theorem beaconref14_merge.calls (k : Nat) (A0 : Option Addr) (c0 : Nat) (l0 : List (S61)) (A1 : Option Addr) (c1 : Nat) (l1 : List (S61)) (r : List (S61)) (w : World) (hr0 : Kd.C k61 w A0 l0.length l0) (hc0 : l0.length ≤ c0) (hr1 : Kd.C k61 w A1 l1.length l1) (hc1 : l1.length ≤ c1) (h : beaconref14_merge.f k l0 l1 = some r) :
  Calls Try.prog 36 #[.slice A0 l0.length c0,.slice A1 l1.length c1] w fun e w' => ∃ v0_ : Value,e = .returned (v0_) ∧ Kd.R k61 61 w' w.heap.size (fun _ => True) v0_ r ∧ Below w.heap.size w w':=by
 have hu61:=Try.underlying61
 have HR0:=zA hr0
 have HC0:=zA hc0
 clear hr0 hc0
 have HR1:=zA hr1
 have HC1:=zA hc1
 clear hr1 hc1
 have HB:=zA (Below.refl w.heap.size w)
 have H : (beaconref14_merge.l0 k l0 l1 ([] : List (S61)) 0) = some r:=h
 clear h
 have H':=zA H
 clear H
 go_enter Try.func36,Try.ntmps36
 go_wp2
 go_loopg [5,6] k (fun kq v5 v6 w' => ∃ (x5_1 : List (S61)) (x6_1 : Int),v6 = .int .i64 x6_1 ∧ Aside0 (beaconref14_merge.l0 kq l0 l1 x5_1 x6_1 = some r) ∧ Aside0 (kq ≤ k) ∧ Aside0 (Kd.R k61 61 w' w.heap.size (fun _ => True) v5 x5_1) ∧ Aside0 (Below w.heap.size w w'))
 case atStart => exact ⟨(([] : List (S61))),(0),ze,H',⟨Nat.le_refl _⟩,⟨by first|exact Kd.R_nil _ _ _ _ _|exact Kd.N_nil _ _ _ _ _|exact Kd.V_nil _ _ _ _ _|exact Kd.Q_nil _ _ _ _ _|exact Kd.S_nil _ _ _ _ _⟩,⟨zH HB⟩⟩
 case round =>
  clear H'
  try clear c1
  obtain ⟨x5_1,x6_1,rfl,HA,HK1,HO_5,HB⟩:=hrel
  cases gk with
  | zero => exact absurd HA.out (by simp [beaconref14_merge.l0])
  | succ k1 =>
   have H:=HA.out
   clear HA
   simp only [beaconref14_merge.l0] at H
   by_cases c3 : x6_1 < (l0.length : Int)
   ·rw [if_pos c3] at H
    have c3b0 : decide (x6_1 < (l0.length : Int)) = true:=decide_eq_true c3
    clear c3
    by_cases c4 : 0 ≤ x6_1
    ·rw [if_pos c4] at H
     have c4b0 : decide (0 ≤ x6_1) = true:=decide_eq_true c4
     clear c4
     replace H:=Option.bind_eq_some_iff.mp H
     obtain ⟨t280,A50,H⟩:=H
     (try dsimp only at H)
     have A5:=zA A50
     clear A50
     by_cases c6 : t280 < 0
     ·rw [if_pos c6] at H
      have c6b0 : decide (t280 < 0) = true:=decide_eq_true c6
      clear c6
      by_cases c7 : x5_1.length < 3518437208883
      ·rw [if_pos c7] at H
       have LMc7:=zA c7
       clear c7
       obtain ⟨y282,hy282⟩ : ∃ y_ : List (S61),y_ = (x5_1 ++ [(⟨(rd_T61 l0 x6_1).f0,(rd_T61 l0 x6_1).f1,(rd_T61 l0 x6_1).f2,(rd_T61 l0 x6_1).f3,(rd_T61 l0 x6_1).f4⟩ : S61)]):=⟨_,rfl⟩
       replace H : (beaconref14_merge.l0 k1 l0 l1 y282 (wrap64 (x6_1 + 1))) = some r:=by first|(rw [hy282];with_reducible exact H)|(have H2_:=(Option.bind_some _ _).symm.trans H;rw [hy282];with_reducible exact H2_)|(have H2_:=(Option.bind_some _ _).symm.trans H;with_reducible exact H2_)|with_reducible exact H|(rw [hy282];exact H)|exact H
       have Ny282:=zA hy282
       clear hy282
       have H':=zA H
       clear H
       have p279 : 0 ≤ (x6_1 : Int):=zd
       have q279 : x6_1 < (l0.length : Int):=zd
       obtain ⟨ad279,e279,hx279_0,hx279_1,hx279_2,hx279_3,hx279_4⟩:=at_T61 HR0.out x6_1 p279 q279
       cases e279
       replace hx279_0:=zh HB hx279_0
       replace hx279_1:=zh HB hx279_1
       replace hx279_2:=zh HB hx279_2
       replace hx279_3:=zh HB hx279_3
       replace hx279_4:=zh HB hx279_4
       replace p279:=eq_true p279
       replace q279:=eq_true q279
       go_wp2_with (first|((with_reducible refine gate_callee (f:=45) rfl ?_);refine zg (some 19) Try.func45 #[.slice A1 l1.length c1,.agg #[.int .i64 ((rd_T61 l0 x6_1).f0),.int .i64 ((rd_T61 l0 x6_1).f1),.float .f64 ((rd_T61 l0 x6_1).f2),.float .f64 ((rd_T61 l0 x6_1).f3),.int .i64 ((rd_T61 l0 x6_1).f4)]] ?_;(with_reducible refine (beaconref14_place.calls k1 _ _ l1 ((rd_T61 l0 x6_1).f0) ((rd_T61 l0 x6_1).f1) ((rd_T61 l0 x6_1).f2) ((rd_T61 l0 x6_1).f3) ((rd_T61 l0 x6_1).f4) t280 _ ?side1 ?side2 A5.out).mono ?_);(case side1 => exact zC (Kd.C_below HR1.out HB.1));(case side2 => exact HC1.out);rintro e w8 ⟨rfl,hb⟩;refine ⟨_,rfl,?_⟩;replace HO_5:=zRb HO_5 hb;replace HB:=zS HB hb;(try clear hb);have p281 : 0 ≤ (x6_1 : Int):=zd;have q281 : x6_1 < (l0.length : Int):=zd;obtain ⟨ad281,e281,hx281_0,hx281_1,hx281_2,hx281_3,hx281_4⟩:=at_T61 HR0.out x6_1 p281 q281;obtain rfl : ad279 = ad281:=(by injection e281);replace hx281_0:=zh HB hx281_0;replace hx281_1:=zh HB hx281_1;replace hx281_2:=zh HB hx281_2;replace hx281_3:=zh HB hx281_3;replace hx281_4:=zh HB hx281_4;replace p281:=eq_true p281;replace q281:=eq_true q281)|((with_reducible refine gate_builtin (b:=.append) (xs:=#[.tmp 21,.tmp 26]) rfl ?_);at_builtin;refine Kd.R_append k61 (w0:=w) w.heap.size rfl (.tmp 21) (.tmp 26) 30 61 (.agg #[(.int .i64 0),(.int .i64 0),(.float .f64 0),(.float .f64 0),(.int .i64 0)]) 40 rfl Try.underlying30 info61 rfl (by decide) (by omega) u5 x5_1 (⟨(rd_T61 l0 x6_1).f0,(rd_T61 l0 x6_1).f1,(rd_T61 l0 x6_1).f2,(rd_T61 l0 x6_1).f3,(rd_T61 l0 x6_1).f4⟩ : S61) [.int .i64 ((rd_T61 l0 x6_1).f0),.int .i64 ((rd_T61 l0 x6_1).f1),.float .f64 ((rd_T61 l0 x6_1).f2),.float .f64 ((rd_T61 l0 x6_1).f3),.int .i64 ((rd_T61 l0 x6_1).f4)] (fun _ => True) (fun _ => False) rfl rfl ?aP (fun _ hk => hk.elim) ?aF ?aO ?aB ?aS ?aL ?_;(case aP => exact k61_mkM _ _ _ (⟨(rd_T61 l0 x6_1).f0,(rd_T61 l0 x6_1).f1,(rd_T61 l0 x6_1).f2,(rd_T61 l0 x6_1).f3,(rd_T61 l0 x6_1).f4⟩ : S61));(case aB => exact (zH HB));(case aF => exact (fun _ _ => trivial));(case aO => exact (zR HO_5));(case aS => exact (zW HB));(case aL => have:=LMc7.out;omega);intro v283 w9 ho hb hg hat;rw [← Ny282.out] at ho;replace HB:=zA (hb);have HO284:=zA (ho);clear HO_5;clear ho hb hg hat))
       go_roundg k1
       case measure => have:=HK1.out;omega
       case rel => exact ⟨(y282),(wrap64 (x6_1 + 1)),ze,H',⟨by have:=HK1.out;omega⟩,⟨zR HO284⟩,⟨zH HB⟩⟩
      ·rw [if_neg c7] at H
       exact absurd H (by simp)
     ·rw [if_neg c6] at H
      have c6b0 : decide (t280 < 0) = false:=decide_eq_false c6
      clear c6
      have H':=zA H
      clear H
      have p279 : 0 ≤ (x6_1 : Int):=zd
      have q279 : x6_1 < (l0.length : Int):=zd
      obtain ⟨ad279,e279,hx279_0,hx279_1,hx279_2,hx279_3,hx279_4⟩:=at_T61 HR0.out x6_1 p279 q279
      cases e279
      replace hx279_0:=zh HB hx279_0
      replace hx279_1:=zh HB hx279_1
      replace hx279_2:=zh HB hx279_2
      replace hx279_3:=zh HB hx279_3
      replace hx279_4:=zh HB hx279_4
      replace p279:=eq_true p279
      replace q279:=eq_true q279
      go_wp2_with (first|((with_reducible refine gate_callee (f:=45) rfl ?_);refine zg (some 19) Try.func45 #[.slice A1 l1.length c1,.agg #[.int .i64 ((rd_T61 l0 x6_1).f0),.int .i64 ((rd_T61 l0 x6_1).f1),.float .f64 ((rd_T61 l0 x6_1).f2),.float .f64 ((rd_T61 l0 x6_1).f3),.int .i64 ((rd_T61 l0 x6_1).f4)]] ?_;(with_reducible refine (beaconref14_place.calls k1 _ _ l1 ((rd_T61 l0 x6_1).f0) ((rd_T61 l0 x6_1).f1) ((rd_T61 l0 x6_1).f2) ((rd_T61 l0 x6_1).f3) ((rd_T61 l0 x6_1).f4) t280 _ ?side1 ?side2 A5.out).mono ?_);(case side1 => exact zC (Kd.C_below HR1.out HB.1));(case side2 => exact HC1.out);rintro e w10 ⟨rfl,hb⟩;refine ⟨_,rfl,?_⟩;replace HO_5:=zRb HO_5 hb;replace HB:=zS HB hb;(try clear hb)))
      go_roundg k1
      case measure => have:=HK1.out;omega
      case rel => exact ⟨(x5_1),(wrap64 (x6_1 + 1)),ze,H',⟨by have:=HK1.out;omega⟩,⟨zR HO_5⟩,⟨zH HB⟩⟩
    ·rw [if_neg c4] at H
     exact absurd H (by simp)
   ·rw [if_neg c3] at H
    have c3b0 : decide (x6_1 < (l0.length : Int)) = false:=decide_eq_false c3
    clear c3
    have H':=zA H
    clear H
    go_wp2
    go_loopg [5,7] k1 (fun kq v5 v7 w' => ∃ (x5_2 : List (S61)) (x7_2 : Int),v7 = .int .i64 x7_2 ∧ Aside0 (beaconref14_merge.l1 kq l1 x5_2 x7_2 = some r) ∧ Aside0 (kq ≤ k1) ∧ Aside0 (Kd.R k61 61 w' w.heap.size (fun _ => True) v5 x5_2) ∧ Aside0 (Below w.heap.size w w'))
    case atStart => exact ⟨(x5_1),(0),ze,H',⟨Nat.le_refl _⟩,⟨zR HO_5⟩,⟨zH HB⟩⟩
    case round =>
     clear H'
     try clear c1;try clear c3;try clear c3b0
     obtain ⟨x5_2,x7_2,rfl,HA,HK2,HO_5,HB⟩:=hrel
     cases gk with
     | zero => exact absurd HA.out (by simp [beaconref14_merge.l1])
     | succ k2 =>
      have H:=HA.out
      clear HA
      simp only [beaconref14_merge.l1] at H
      by_cases c11 : x7_2 < (l1.length : Int)
      ·rw [if_pos c11] at H
       have c11b0 : decide (x7_2 < (l1.length : Int)) = true:=decide_eq_true c11
       clear c11
       by_cases c12 : 0 ≤ x7_2
       ·rw [if_pos c12] at H
        have c12b0 : decide (0 ≤ x7_2) = true:=decide_eq_true c12
        clear c12
        replace H:=Option.bind_eq_some_iff.mp H
        obtain ⟨t286,A130,H⟩:=H
        (try dsimp only at H)
        have A13:=zA A130
        clear A130
        by_cases c14 : t286 = true
        ·subst c14
         rw [if_pos rfl] at H
         have H':=zA H
         clear H
         have p285 : 0 ≤ (x7_2 : Int):=zd
         have q285 : x7_2 < (l1.length : Int):=zd
         obtain ⟨ad285,e285,hx285_0,hx285_1,hx285_2,hx285_3,hx285_4⟩:=at_T61 HR1.out x7_2 p285 q285
         cases e285
         replace hx285_0:=zh HB hx285_0
         replace hx285_1:=zh HB hx285_1
         replace hx285_2:=zh HB hx285_2
         replace hx285_3:=zh HB hx285_3
         replace hx285_4:=zh HB hx285_4
         replace p285:=eq_true p285
         replace q285:=eq_true q285
         go_wp2_with (first|((with_reducible refine gate_callee (f:=38) rfl ?_);refine zg (some 39) Try.func38 #[.float .f64 ((rd_T61 l1 x7_2).f2),.int .i64 1] ?_;(with_reducible refine (math_IsInf.calls ((rd_T61 l1 x7_2).f2) 1 true _ A13.out).mono ?_);rintro e w' ⟨rfl,⟨nd,rfl⟩⟩;refine ⟨_,rfl,?_⟩))
         go_roundg k2
         case measure => have:=HK1.out;have:=HK2.out;omega
         case rel => exact ⟨(x5_2),(wrap64 (x7_2 + 1)),ze,H',⟨by have:=HK1.out;have:=HK2.out;omega⟩,⟨zR HO_5⟩,⟨zH HB⟩⟩
        ·replace c14:=Bool.eq_false_iff.mpr c14
         subst c14
         rw [if_neg (show ¬ (false = true) by decide)] at H
         replace H:=Option.bind_eq_some_iff.mp H
         obtain ⟨t288,A150,H⟩:=H
         (try dsimp only at H)
         have A15:=zA A150
         clear A150
         have H':=zA H
         clear H
         have p285 : 0 ≤ (x7_2 : Int):=zd
         have q285 : x7_2 < (l1.length : Int):=zd
         obtain ⟨ad285,e285,hx285_0,hx285_1,hx285_2,hx285_3,hx285_4⟩:=at_T61 HR1.out x7_2 p285 q285
         cases e285
         replace hx285_0:=zh HB hx285_0
         replace hx285_1:=zh HB hx285_1
         replace hx285_2:=zh HB hx285_2
         replace hx285_3:=zh HB hx285_3
         replace hx285_4:=zh HB hx285_4
         replace p285:=eq_true p285
         replace q285:=eq_true q285
         go_wp2_with (first|((with_reducible refine gate_callee (f:=38) rfl ?_);refine zg (some 39) Try.func38 #[.float .f64 ((rd_T61 l1 x7_2).f2),.int .i64 1] ?_;(with_reducible refine (math_IsInf.calls ((rd_T61 l1 x7_2).f2) 1 false _ A13.out).mono ?_);rintro e w' ⟨rfl,⟨nd,rfl⟩⟩;refine ⟨_,rfl,?_⟩;have p287 : 0 ≤ (x7_2 : Int):=zd;have q287 : x7_2 < (l1.length : Int):=zd;obtain ⟨ad287,e287,hx287_0,hx287_1,hx287_2,hx287_3,hx287_4⟩:=at_T61 HR1.out x7_2 p287 q287;obtain rfl : ad285 = ad287:=(by injection e287);replace hx287_0:=zh HB hx287_0;replace hx287_1:=zh HB hx287_1;replace hx287_2:=zh HB hx287_2;replace hx287_3:=zh HB hx287_3;replace hx287_4:=zh HB hx287_4;replace p287:=eq_true p287;replace q287:=eq_true q287;obtain ⟨Ao16,co16,eo16⟩:=Kd.R_slice HO_5.out;subst eo16)|((with_reducible refine gate_callee (f:=46) rfl ?_);refine zg (some 46) Try.func46 #[.slice Ao16 x5_2.length co16,.agg #[.int .i64 ((rd_T61 l1 x7_2).f0),.int .i64 ((rd_T61 l1 x7_2).f1),.float .f64 ((rd_T61 l1 x7_2).f2),.float .f64 ((rd_T61 l1 x7_2).f3),.int .i64 ((rd_T61 l1 x7_2).f4)]] ?_;(with_reducible refine (beaconref14_put.calls k2 _ _ x5_2 ((rd_T61 l1 x7_2).f0) ((rd_T61 l1 x7_2).f1) ((rd_T61 l1 x7_2).f2) ((rd_T61 l1 x7_2).f3) ((rd_T61 l1 x7_2).f4) t288 _ ?side1 ?side2 A15.out).mono ?_);(case side1 => exact zC ((Kd.R_reads' HO_5.out).2.2));(case side2 => exact (Kd.R_reads' HO_5.out).2.1);rintro e w17 ⟨v289,rfl,ho0,hb⟩;refine ⟨_,rfl,?_⟩;have HO290:=zA (Kd.R_lower (Kd.R_new' ho0 (Kd.R_lt (zR HO_5))) (zW HB));replace HO_5:=zA (Kd.R_elder' (zR HO_5) (Kd.R_base ho0) hb);replace HB:=zS HB hb;(try clear hb);(try clear ho0)))
         go_roundg k2
         case measure => have:=HK1.out;have:=HK2.out;omega
         case rel => exact ⟨(t288),(wrap64 (x7_2 + 1)),ze,H',⟨by have:=HK1.out;have:=HK2.out;omega⟩,⟨by (with_reducible repeat (first|apply Kd.R_alloc|apply Kd.R_drewN|apply Kd.R_drew));exact Kd.R_mono HO290.out (fun _ hk => trivial)⟩,⟨zH HB⟩⟩
       ·rw [if_neg c12] at H
        exact absurd H (by simp)
      ·rw [if_neg c11] at H
       have c11b0 : decide (x7_2 < (l1.length : Int)) = false:=decide_eq_false c11
       clear c11
       obtain rfl:=Option.some.inj H
       go_wp2
       go_ret
       exact ⟨_,by first|rfl|(simp [errW_none,errW_some] <;> rfl)|(simp [*,errW_none,errW_some] <;> rfl),by (with_reducible repeat (first|apply Kd.R_alloc|apply Kd.R_drewN|apply Kd.R_drew));exact HO_5.out,zH HB⟩

/-! ### beaconref14_Merge: function 16 -/
def beaconref14_Merge.f (k : Nat) (l0 : List (S61)) (l1 : List (S61)) : Option ((List (S61)) × Int) := (beaconref14_List.f k l0).bind fun t291 => (if t291 = true then ((beaconref14_rising.f k l1).bind fun t292 => (if t292 = true then ((beaconref14_merge.f k l0 l1).bind fun t293 => (some (t293, 0))) else (some (([] : List (S61)), 1)))) else (some (([] : List (S61)), 1)))
theorem beaconref14_Merge.mono : ∀ a0 a1 k, LeO (beaconref14_Merge.f k a0 a1) (beaconref14_Merge.f (k + 1) a0 a1) := by
 intro a0 a1 k
 unfold beaconref14_Merge.f
 repeat' first
   | (with_reducible exact beaconref14_List.mono _ _)
   | (with_reducible exact beaconref14_merge.mono _ _ _)
   | (with_reducible exact beaconref14_rising.mono _ _)
   | (with_reducible exact LeO.refl _)
   | (with_reducible exact LeO.none _)
   | (with_reducible refine LeO.ite ?_ ?_)
   | (with_reducible refine LeO.bind ?_ (fun _ => ?_))
   | exact beaconref14_List.mono _ _
   | exact beaconref14_merge.mono _ _ _
   | exact beaconref14_rising.mono _ _
   | exact LeO.none _
   | refine LeO.ite ?_ ?_
   | refine LeO.bind ?_ (fun _ => ?_)
set_option maxHeartbeats 8000000 in
set_option maxRecDepth 100000 in
theorem beaconref14_Merge.calls (k : Nat) (A0 : Option Addr) (c0 : Nat) (l0 : List (S61)) (A1 : Option Addr) (c1 : Nat) (l1 : List (S61)) (r1 : List (S61)) (r2 : Int) (w : World) (hr0 : Kd.C k61 w A0 l0.length l0) (hc0 : l0.length ≤ c0) (hr1 : Kd.C k61 w A1 l1.length l1) (hc1 : l1.length ≤ c1) (h : beaconref14_Merge.f k l0 l1 = some (r1, r2)) :
  Calls Try.prog 16 #[.slice A0 l0.length c0,.slice A1 l1.length c1] w fun e w' => ∃ v0_ : Value,e = .returned (.tuple #[v0_,.int .i64 r2]) ∧ Kd.R k61 61 w' w.heap.size (fun _ => True) v0_ r1 ∧ Below w.heap.size w w':=by
 have HR0:=zA hr0
 have HC0:=zA hc0
 clear hr0 hc0
 have HR1:=zA hr1
 have HC1:=zA hc1
 clear hr1 hc1
 have HB:=zA (Below.refl w.heap.size w)
 have H : ((beaconref14_List.f k l0).bind fun t291 => (if t291 = true then ((beaconref14_rising.f k l1).bind fun t292 => (if t292 = true then ((beaconref14_merge.f k l0 l1).bind fun t293 => (some (t293,0))) else (some (([] : List (S61)),1)))) else (some (([] : List (S61)),1)))) = some (r1,r2):=h
 clear h
 replace H:=Option.bind_eq_some_iff.mp H
 obtain ⟨t291,A30,H⟩:=H
 (try dsimp only at H)
 have A3:=zA A30
 clear A30
 by_cases c4 : t291 = true
 ·subst c4
  rw [if_pos rfl] at H
  replace H:=Option.bind_eq_some_iff.mp H
  obtain ⟨t292,A50,H⟩:=H
  (try dsimp only at H)
  have A5:=zA A50
  clear A50
  by_cases c6 : t292 = true
  ·subst c6
   rw [if_pos rfl] at H
   replace H:=Option.bind_eq_some_iff.mp H
   obtain ⟨t293,A70,H⟩:=H
   (try dsimp only at H)
   have A7:=zA A70
   clear A70
   simp only [Option.some.injEq,Prod.mk.injEq] at H
   obtain ⟨rfl,rfl⟩:=H
   go_enter Try.func16,Try.ntmps16
   go_wp2_with (first|((with_reducible refine gate_callee (f:=18) rfl ?_);refine zg (some 7) Try.func18 #[.slice A0 l0.length c0] ?_;(with_reducible refine (beaconref14_List.calls k _ _ l0 true _ ?side1 ?side2 A3.out).mono ?_);(case side1 => exact zC HR0.out);(case side2 => exact HC0.out);rintro e w8 ⟨rfl,hb⟩;refine ⟨_,rfl,?_⟩;replace HB:=zS HB hb;(try clear hb))|(go_at_call 35;(with_reducible refine (beaconref14_rising.calls k _ _ l1 true _ ?side1 ?side2 A5.out).mono ?_);(case side1 => exact zC (Kd.C_below HR1.out HB.1));(case side2 => exact HC1.out);rintro e w9 ⟨rfl,hb⟩;replace HB:=zS HB hb;(try clear hb))|((with_reducible refine gate_callee (f:=36) rfl ?_);refine zg (some 16) Try.func36 #[.slice A0 l0.length c0,.slice A1 l1.length c1] ?_;(with_reducible refine (beaconref14_merge.calls k _ _ l0 _ _ l1 t293 _ ?side1 ?side2 ?side3 ?side4 A7.out).mono ?_);(case side1 => exact zC (Kd.C_below HR0.out HB.1));(case side2 => exact HC0.out);(case side3 => exact zC (Kd.C_below HR1.out HB.1));(case side4 => exact HC1.out);rintro e w10 ⟨v294,rfl,ho0,hb⟩;refine ⟨_,rfl,?_⟩;have HO295:=zA (Kd.R_lower ho0 (zW HB));replace HB:=zS HB hb;(try clear hb);(try clear ho0)))
   go_ret2
   exact ⟨_,by first|rfl|(simp [errW_none,errW_some] <;> rfl)|(simp [*,errW_none,errW_some] <;> rfl),by (with_reducible repeat (first|apply Kd.R_alloc|apply Kd.R_drewN|apply Kd.R_drew));exact HO295.out,zH HB⟩
  ·replace c6:=Bool.eq_false_iff.mpr c6
   subst c6
   rw [if_neg (show ¬ (false = true) by decide)] at H
   simp only [Option.some.injEq,Prod.mk.injEq] at H
   obtain ⟨rfl,rfl⟩:=H
   go_enter Try.func16,Try.ntmps16
   go_wp2_with (first|((with_reducible refine gate_callee (f:=18) rfl ?_);refine zg (some 7) Try.func18 #[.slice A0 l0.length c0] ?_;(with_reducible refine (beaconref14_List.calls k _ _ l0 true _ ?side1 ?side2 A3.out).mono ?_);(case side1 => exact zC HR0.out);(case side2 => exact HC0.out);rintro e w11 ⟨rfl,hb⟩;refine ⟨_,rfl,?_⟩;replace HB:=zS HB hb;(try clear hb))|(go_at_call 35;(with_reducible refine (beaconref14_rising.calls k _ _ l1 false _ ?side1 ?side2 A5.out).mono ?_);(case side1 => exact zC (Kd.C_below HR1.out HB.1));(case side2 => exact HC1.out);rintro e w12 ⟨rfl,hb⟩;replace HB:=zS HB hb;(try clear hb)))
   go_ret2
   exact ⟨_,by first|rfl|(simp [errW_none,errW_some] <;> rfl)|(simp [*,errW_none,errW_some] <;> rfl),by first|exact Kd.R_nil _ _ _ _ _|exact Kd.N_nil _ _ _ _ _|exact Kd.V_nil _ _ _ _ _|exact Kd.Q_nil _ _ _ _ _|exact Kd.S_nil _ _ _ _ _,zH HB⟩
 ·replace c4:=Bool.eq_false_iff.mpr c4
  subst c4
  rw [if_neg (show ¬ (false = true) by decide)] at H
  simp only [Option.some.injEq,Prod.mk.injEq] at H
  obtain ⟨rfl,rfl⟩:=H
  go_enter Try.func16,Try.ntmps16
  go_wp2_with (first|((with_reducible refine gate_callee (f:=18) rfl ?_);refine zg (some 7) Try.func18 #[.slice A0 l0.length c0] ?_;(with_reducible refine (beaconref14_List.calls k _ _ l0 false _ ?side1 ?side2 A3.out).mono ?_);(case side1 => exact zC HR0.out);(case side2 => exact HC0.out);rintro e w13 ⟨rfl,hb⟩;refine ⟨_,rfl,?_⟩;replace HB:=zS HB hb;(try clear hb)))
  go_ret2
  exact ⟨_,by first|rfl|(simp [errW_none,errW_some] <;> rfl)|(simp [*,errW_none,errW_some] <;> rfl),by first|exact Kd.R_nil _ _ _ _ _|exact Kd.N_nil _ _ _ _ _|exact Kd.V_nil _ _ _ _ _|exact Kd.Q_nil _ _ _ _ _|exact Kd.S_nil _ _ _ _ _,zH HB⟩

end Go.Proofs.Ytpcgjdllgdkobaa.XD
