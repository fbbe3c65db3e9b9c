/- Go functions of this seat as Lean functions, with proofs that the calls come to them. (Written by xprint.py, a program of this session, over the kit's print.) -/
import Derived.Test.YtgmjlhpigfaicaaXAx0
namespace Go.Proofs.Ytgmjlhpigfaicaa.XA
open Go.RowKit Go.Proofs.YtgmjlhpigfaicaaW.PrintWords Go.Proofs.YtgmjlhpigfaicaaW.PrintLast Go.Proofs.YtgmjlhpigfaicaaW.PrintMore
attribute [local go_sem] max2_int min2_int max_two min_two max_three min_three max_four min_four   -- for this text's walks alone
set_option linter.unusedVariables false
set_option linter.unusedSimpArgs false
open List renaming setIfInBounds_toArray → xA, set_cons_zero → xB, set_cons_succ → xC
open Go.Proofs.YtgmjlhpigfaicaaW.PrintWords renaming blk_drewN → bN, blk_drew → bD, blk_alloc → bA, below_set → bS, blk_frozen → bF, blk_cell → bC, cell_far → cF, blk_far → bZ, blk_below → bB, pw_below_drewN → bwN, below_drew1 → bw1, below_alloc → bwA
open Go.Proofs.YtgmjlhpigfaicaaW.PrintZ
open Bool renaming true → T,false → F

/-! ### math_Abs: function 76 -/
def math_Abs.f (a0 : Nat) : Option (Nat) := some (ffrom (Go.bits .andNot .u64 (fbits a0) 9223372036854775808))
set_option maxHeartbeats 8000000 in
set_option maxRecDepth 100000 in
theorem math_Abs.calls (a0 : Nat) (r : Nat) (w : World) (h : math_Abs.f a0 = some r) :
  Calls Try.prog 76 #[.float .f64 a0] w fun e w' => e = .returned (.float .f64 r) ∧ Drawn0 w w':=by
 have H : (some (ffrom (Go.bits .andNot .u64 (fbits a0) 9223372036854775808))) = some r:=h
 clear h
 obtain rfl:=Option.some.inj H
 go_enter Try.func76,Try.ntmps76
 go_wp2
 go_ret
 exact ⟨by first|rfl|(simp;done)|(simp [*];done),by repeat (first|exact Drawn0.refl _|apply Drawn0.step)⟩

/-! ### math_IsInf: function 53 -/
def math_IsInf.f (a0 : Nat) (a1 : Int) : Option (Bool) := if a1 = 0 then ((math_Abs.f a0).bind fun t265 => (some (flt 9218868437227405311 t265))) else (if a1 < 0 then (some (flt 9218868437227405311 (fneg a0))) else (some (flt 9218868437227405311 a0)))
set_option maxHeartbeats 8000000 in
set_option maxRecDepth 100000 in
theorem math_IsInf.calls (a0 : Nat) (a1 : Int) (r : Bool) (w : World) (h : math_IsInf.f a0 a1 = some r) :
  Calls Try.prog 53 #[.float .f64 a0,.int .i64 a1] w fun e w' => e = .returned (.bool r) ∧ Drawn0 w w':=by
 have H : (if a1 = 0 then ((math_Abs.f a0).bind fun t265 => (some (flt 9218868437227405311 t265))) else (if a1 < 0 then (some (flt 9218868437227405311 (fneg a0))) else (some (flt 9218868437227405311 a0)))) = some r:=h
 clear h
 by_cases c3 : a1 = 0
 ·rw [if_pos c3] at H
  have c3b0 : (a1 == 0) = true:=beq_iff_eq.mpr c3
  have c3b1 : (a1 != 0) = false:=bne_eq_false_iff_eq.mpr c3
  clear c3
  replace H:=Option.bind_eq_some_iff.mp H
  obtain ⟨t265,A40,H⟩:=H
  replace H : (some (flt 9218868437227405311 t265)) = some r:=H
  have A4:=Aside0.mk A40
  clear A40
  obtain rfl:=Option.some.inj H
  go_enter Try.func53,Try.ntmps53
  go_wp2_with (first|((with_reducible refine gate_callee (f:=76) rfl ?_);refine zg (some 8) Try.func76 #[.float .f64 a0] ?_;(with_reducible refine (math_Abs.calls a0 t265 _ A4.out).mono ?_);rintro e w' ⟨rfl,⟨nd,rfl⟩⟩;refine ⟨_,rfl,?_⟩))
  go_ret
  exact ⟨by first|rfl|(simp;done)|(simp [*];done),by repeat (first|exact Drawn0.refl _|apply Drawn0.step)⟩
 ·rw [if_neg c3] at H
  have c3b0 : (a1 == 0) = false:=beq_eq_false_iff_ne.mpr c3
  have c3b1 : (a1 != 0) = true:=bne_iff_ne.mpr c3
  by_cases c5 : a1 < 0
  ·rw [if_pos c5] at H
   have c5b0 : decide (a1 < 0) = true:=decide_eq_true c5
   clear c5
   obtain rfl:=Option.some.inj H
   go_enter Try.func53,Try.ntmps53
   go_wp2
   go_ret
   exact ⟨by first|rfl|(simp;done)|(simp [*];done),by repeat (first|exact Drawn0.refl _|apply Drawn0.step)⟩
  ·rw [if_neg c5] at H
   have c5b0 : decide (a1 < 0) = false:=decide_eq_false c5
   clear c5
   obtain rfl:=Option.some.inj H
   go_enter Try.func53,Try.ntmps53
   go_wp2
   go_ret
   exact ⟨by first|rfl|(simp;done)|(simp [*];done),by repeat (first|exact Drawn0.refl _|apply Drawn0.step)⟩

/-! ### table_Marks: function 22 -/
def table_Marks.l0 : Nat → List Int → List (S39) → Int → Int → Option (List Int)
 | 0, _, _, _, _ => none
 | k + 1, x3, x7, x8, x9 => if x9 < x8 then (if 0 ≤ x9 then (if x9 < (x7.length : Int) then (if ((rd_T39 x7 x9).f1) = 1 then ((math_IsInf.f ((rd_T39 x7 x9).f2) 1).bind fun t269 => (if t269 = true then (table_Marks.l0 k x3 x7 x8 (wrap64 (x9 + 1))) else (if x3.length < 17592186044416 then (table_Marks.l0 k (x3 ++ [(rd_T39 x7 x9).f0]) x7 x8 (wrap64 (x9 + 1))) else (none)))) else (table_Marks.l0 k x3 x7 x8 (wrap64 (x9 + 1)))) else (none)) else (none)) else (some x3)
def table_Marks.f (k : Nat) (l0_0 : List (S39)) (a0_1 : Bool) : Option (List Int) := table_Marks.l0 k ([] : List Int) l0_0 (l0_0.length : Int) 0
theorem table_Marks.mono_l : ∀ k, (∀ y0 y1 y2 y3, LeO (table_Marks.l0 k y0 y1 y2 y3) (table_Marks.l0 (k + 1) y0 y1 y2 y3))
 | 0 => fun _ _ _ _ r h => by simp [table_Marks.l0] at h
 | k + 1 => by
  have ih0:=table_Marks.mono_l k
  ·intro y0 y1 y2 y3
   unfold table_Marks.l0
   repeat' first
   | (with_reducible exact ih0 _ _ _ _)
   | (with_reducible exact LeO.refl _)
   | (with_reducible exact LeO.none _)
   | (with_reducible refine LeO.ite ?_ ?_)
   | (with_reducible refine LeO.bind ?_ (fun _ => ?_))
   | exact ih0 _ _ _ _
   | exact LeO.none _
   | refine LeO.ite ?_ ?_
   | refine LeO.bind ?_ (fun _ => ?_)
theorem table_Marks.mono : ∀ a0 a1 k, LeO (table_Marks.f k a0 a1) (table_Marks.f (k + 1) a0 a1) := by
 intro a0 a1 k
 have ih0:=table_Marks.mono_l k
 unfold table_Marks.f
 repeat' first
   | (with_reducible exact ih0 _ _ _ _)
   | (with_reducible exact LeO.refl _)
   | (with_reducible exact LeO.none _)
   | (with_reducible refine LeO.ite ?_ ?_)
   | (with_reducible refine LeO.bind ?_ (fun _ => ?_))
   | exact ih0 _ _ _ _
   | exact LeO.none _
   | refine LeO.ite ?_ ?_
   | refine LeO.bind ?_ (fun _ => ?_)
set_option maxHeartbeats 8000000 in
set_option maxRecDepth 100000 in
theorem table_Marks.calls (k : Nat) (A0_0 : Option Addr) (c0_0 : Nat) (l0_0 : List (S39)) (a0_1 : Bool) (r : List Int) (w : World) (hr0_0 : Kd.C k39 w A0_0 l0_0.length l0_0) (hc0_0 : l0_0.length ≤ c0_0) (h : table_Marks.f k l0_0 a0_1 = some r) :
  Calls Try.prog 22 #[.agg #[.slice A0_0 l0_0.length c0_0,.bool a0_1]] w fun e w' => ∃ v0_ : Value,e = .returned (v0_) ∧ Kd.R (Kd.int .i64) 3 w' w.heap.size (fun _ => True) v0_ r ∧ Below w.heap.size w w':=by
 have hu24:=Try.underlying24
 have hu39:=Try.underlying39
 have HR0_0:=Aside0.mk hr0_0
 have HC0_0:=Aside0.mk hc0_0
 clear hr0_0 hc0_0
 have HB:=Aside0.mk (Below.refl w.heap.size w)
 have H : (table_Marks.l0 k ([] : List Int) l0_0 (l0_0.length : Int) 0) = some r:=h
 clear h
 have H':=Aside0.mk H
 clear H
 go_enter Try.func22,Try.ntmps22
 go_wp2_with (first|((with_reducible refine gate_dst (N:=1) rfl ?_);refine zb (N:=1) (cs:=#[.slice A0_0 l0_0.length c0_0,.bool a0_1]) (t:=24) ?_;intro G266 hg w2 hbox hb;have K266:=Aside0.mk (hbox);have GW266:=zN HB hg;have GE266:=zN HB hg;replace HB:=zS HB hb;clear hb hbox hg;have hcz3_0 : w2.cell? ⟨G266,0,none⟩ = some (.slice A0_0 l0_0.length c0_0):=zk K266 0;have hcz3_1 : w2.cell? ⟨G266,1,none⟩ = some (.bool a0_1):=zk K266 1;have hfz3_0:=bF K266.1 0;have hfz3_1:=bF K266.1 1))
 go_loopg [3,9] k (fun kq v3 v9 w' => ∃ (x3_1 : List Int) (x9_1 : Int),v9 = .int .i64 x9_1 ∧ Aside0 (table_Marks.l0 kq x3_1 l0_0 (l0_0.length : Int) x9_1 = some r) ∧ Aside0 (kq ≤ k) ∧ Aside0 (Kd.R (Kd.int .i64) 3 w' w.heap.size (fun _ => True) v3 x3_1) ∧ Aside0 (w'.heap[G266]? = some (.cells #[(.slice A0_0 l0_0.length c0_0),.bool a0_1] 24 (0,0))) ∧ Aside0 (Below w.heap.size w w'))
 case atStart => exact ⟨(([] : List Int)),(0),ze,H',⟨Nat.le_refl _⟩,⟨by first|exact Kd.R_nil _ _ _ _ _|exact Kd.N_nil _ _ _ _ _|exact Kd.V_nil _ _ _ _ _|exact Kd.Q_nil _ _ _ _ _|exact Kd.S_nil _ _ _ _ _⟩,⟨z1 K266.1⟩,⟨zH HB⟩⟩
 case round =>
  clear H'
  try clear c2;try clear p2;try clear hcz3_0;try clear hcz3_1;try clear hfz3_0;try clear hfz3_1
  obtain ⟨x3_1,x9_1,rfl,HA,HK1,HO_3,K266,HB⟩:=hrel
  cases gk with
  | zero => exact absurd HA.out (by simp [table_Marks.l0])
  | succ k1 =>
   have H:=HA.out
   clear HA
   simp only [table_Marks.l0] at H
   by_cases c4 : x9_1 < (l0_0.length : Int)
   ·rw [if_pos c4] at H
    have c4b0 : decide (x9_1 < (l0_0.length : Int)) = true:=decide_eq_true c4
    clear c4
    by_cases c5 : 0 ≤ x9_1
    ·rw [if_pos c5] at H
     have c5b0 : decide (0 ≤ x9_1) = true:=decide_eq_true c5
     clear c5
     by_cases c6 : x9_1 < (l0_0.length : Int)
     ·rw [if_pos c6] at H
      have c6b0 : decide (x9_1 < (l0_0.length : Int)) = true:=decide_eq_true c6
      clear c6
      by_cases c7 : ((rd_T39 l0_0 x9_1).f1) = 1
      ·rw [if_pos c7] at H
       have c7b0 : (((rd_T39 l0_0 x9_1).f1) == 1) = true:=beq_iff_eq.mpr c7
       have c7b1 : (((rd_T39 l0_0 x9_1).f1) != 1) = false:=bne_eq_false_iff_eq.mpr c7
       clear c7
       replace H:=Option.bind_eq_some_iff.mp H
       obtain ⟨t269,A80,H⟩:=H
       replace H : (if t269 = true then (table_Marks.l0 k1 x3_1 l0_0 (l0_0.length : Int) (wrap64 (x9_1 + 1))) else (if x3_1.length < 17592186044416 then (table_Marks.l0 k1 (x3_1 ++ [(rd_T39 l0_0 x9_1).f0]) l0_0 (l0_0.length : Int) (wrap64 (x9_1 + 1))) else (none))) = some r:=H
       have A8:=Aside0.mk A80
       clear A80
       by_cases c9 : t269 = true
       ·subst c9
        have H1 : (table_Marks.l0 k1 x3_1 l0_0 (l0_0.length : Int) (wrap64 (x9_1 + 1))) = some r:=by rw [if_pos rfl] at H;exact H
        clear H
        have H:=H1
        clear H1
        have H':=Aside0.mk H
        clear H
        have p267 : 0 ≤ (x9_1 : Int):=zd
        have q267 : x9_1 < (l0_0.length : Int):=zd
        obtain ⟨ad267,e267,hx267_0,hx267_1,hx267_2,hx267_3,hx267_4,hx267_5⟩:=at_T39 HR0_0.out x9_1 p267 q267
        cases e267
        replace hx267_0:=zh HB hx267_0
        replace hx267_1:=zh HB hx267_1
        replace hx267_2:=zh HB hx267_2
        replace hx267_3:=zh HB hx267_3
        replace hx267_4:=zh HB hx267_4
        replace hx267_5:=zh HB hx267_5
        replace p267:=eq_true p267
        replace q267:=eq_true q267
        go_wp2_with (first|((with_reducible refine gate_dst (N:=5) rfl ?_);refine zb (N:=5) (cs:=#[.int .i64 0,.int .i64 0,.float .f64 0,.int .i64 0,.float .f64 0,.int .i64 0]) (t:=39) ?_;intro G268 hg w10 hbox hb;replace HO_3:=Aside0.mk (Kd.R_below (zR HO_3) hb);have K268:=Aside0.mk (hbox);have GW268:=zN HB hg;have GE268:=zN HB hg;replace HB:=zS HB hb;have NB266_268:=zL K266 hg;have NB268_266:=zG K266 hg;replace K266:=zB K266 hb;clear hb hbox hg;have hnb11:=NB268_266.1;have hnc11:=NB266_268.1;have hcz12_0 : w10.cell? ⟨G268,0,none⟩ = some (.int .i64 0):=zk K268 0;have hcz12_1 : w10.cell? ⟨G268,1,none⟩ = some (.int .i64 0):=zk K268 1;have hcz12_2 : w10.cell? ⟨G268,2,none⟩ = some (.float .f64 0):=zk K268 2;have hcz12_3 : w10.cell? ⟨G268,3,none⟩ = some (.int .i64 0):=zk K268 3;have hcz12_4 : w10.cell? ⟨G268,4,none⟩ = some (.float .f64 0):=zk K268 4;have hcz12_5 : w10.cell? ⟨G268,5,none⟩ = some (.int .i64 0):=zk K268 5;have hfz12_0:=bF K268.1 0;have hfz12_1:=bF K268.1 1;have hfz12_2:=bF K268.1 2;have hfz12_3:=bF K268.1 3;have hfz12_4:=bF K268.1 4;have hfz12_5:=bF K268.1 5)|((with_reducible refine gate_store (t:=39) (p:=5) rfl ?_);refine store_event (t:=39) (p:=5) (v:=?vo_w13) (w1:=((((((w10.setCell ⟨G268,0,none⟩ (.int .i64 ((rd_T39 l0_0 x9_1).f0))).setCell ⟨G268,1,none⟩ (.int .i64 ((rd_T39 l0_0 x9_1).f1))).setCell ⟨G268,2,none⟩ (.float .f64 ((rd_T39 l0_0 x9_1).f2))).setCell ⟨G268,3,none⟩ (.int .i64 ((rd_T39 l0_0 x9_1).f3))).setCell ⟨G268,4,none⟩ (.float .f64 ((rd_T39 l0_0 x9_1).f4))).setCell ⟨G268,5,none⟩ (.int .i64 ((rd_T39 l0_0 x9_1).f5)))) ?hg ?ho ?hn ?hr ?_;(case ho => rfl);(case hg => rfl);(case hn => rfl);(case hr => first|(go_simp;done)|(go_simp;rfl));intro w13 hw;replace HO_3 : Aside0 (Kd.R (Kd.int .i64) 3 w13 w.heap.size (fun _ => True) u3 x3_1):=⟨(by rw [hw];exact (by (with_reducible repeat (first|apply Kd.R_alloc|apply Kd.R_drewN|apply Kd.R_drew));exact Kd.R_mono (Kd.R_far (p:=⟨G268,5,none⟩) (Kd.R_far (p:=⟨G268,4,none⟩) (Kd.R_far (p:=⟨G268,3,none⟩) (Kd.R_far (p:=⟨G268,2,none⟩) (Kd.R_far (p:=⟨G268,1,none⟩) (Kd.R_far (p:=⟨G268,0,none⟩) (Kd.R_types HO_3.out K268.1 (by decide)) (fun _ hk => hk.2) (.int .i64 ((rd_T39 l0_0 x9_1).f0))) (fun _ hk => hk.2) (.int .i64 ((rd_T39 l0_0 x9_1).f1))) (fun _ hk => hk.2) (.float .f64 ((rd_T39 l0_0 x9_1).f2))) (fun _ hk => hk.2) (.int .i64 ((rd_T39 l0_0 x9_1).f3))) (fun _ hk => hk.2) (.float .f64 ((rd_T39 l0_0 x9_1).f4))) (fun _ hk => hk.2) (.int .i64 ((rd_T39 l0_0 x9_1).f5))) (fun _ hk => trivial)))⟩;replace K266 : Aside0 (w13.heap[G266]? = some (.cells #[.slice (some ad267) l0_0.length c0_0,.bool a0_1] 24 (0,0))):=⟨(by rw [hw];exact (zf K266))⟩;replace K268 : Aside0 (w13.heap[G268]? = some (.cells #[.int .i64 ((rd_T39 l0_0 x9_1).f0),.int .i64 ((rd_T39 l0_0 x9_1).f1),.float .f64 ((rd_T39 l0_0 x9_1).f2),.int .i64 ((rd_T39 l0_0 x9_1).f3),.float .f64 ((rd_T39 l0_0 x9_1).f4),.int .i64 ((rd_T39 l0_0 x9_1).f5)] 39 (0,0))):=⟨(by rw [hw];exact (zF K268))⟩;replace HB : Aside0 (Below w.heap.size w w13):=⟨(by rw [hw];exact (zH HB))⟩;clear hw;have hcz14_0 : w13.cell? ⟨G268,0,none⟩ = some (.int .i64 ((rd_T39 l0_0 x9_1).f0)):=zk K268 0;have hcz14_1 : w13.cell? ⟨G268,1,none⟩ = some (.int .i64 ((rd_T39 l0_0 x9_1).f1)):=zk K268 1;have hcz14_2 : w13.cell? ⟨G268,2,none⟩ = some (.float .f64 ((rd_T39 l0_0 x9_1).f2)):=zk K268 2;have hcz14_3 : w13.cell? ⟨G268,3,none⟩ = some (.int .i64 ((rd_T39 l0_0 x9_1).f3)):=zk K268 3;have hcz14_4 : w13.cell? ⟨G268,4,none⟩ = some (.float .f64 ((rd_T39 l0_0 x9_1).f4)):=zk K268 4;have hcz14_5 : w13.cell? ⟨G268,5,none⟩ = some (.int .i64 ((rd_T39 l0_0 x9_1).f5)):=zk K268 5;have hfz14_0:=bF K268.1 0;have hfz14_1:=bF K268.1 1;have hfz14_2:=bF K268.1 2;have hfz14_3:=bF K268.1 3;have hfz14_4:=bF K268.1 4;have hfz14_5:=bF K268.1 5)|(go_at_call 53;(with_reducible refine (math_IsInf.calls ((rd_T39 l0_0 x9_1).f2) 1 true _ A8.out).mono ?_);rintro e w' ⟨rfl,⟨nd,rfl⟩⟩))
        go_roundg k1
        case measure => have:=HK1.out;omega
        case rel => exact ⟨(x3_1),(wrap64 (x9_1 + 1)),ze,H',⟨by have:=HK1.out;omega⟩,⟨zR HO_3⟩,⟨z1 K266.1⟩,⟨zH HB⟩⟩
       ·replace c9:=Bool.eq_false_iff.mpr c9
        subst c9
        have H1 : (if x3_1.length < 17592186044416 then (table_Marks.l0 k1 (x3_1 ++ [(rd_T39 l0_0 x9_1).f0]) l0_0 (l0_0.length : Int) (wrap64 (x9_1 + 1))) else (none)) = some r:=by rw [if_neg (show ¬ (false = true) by decide)] at H;exact H
        clear H
        have H:=H1
        clear H1
        by_cases c15 : x3_1.length < 17592186044416
        ·rw [if_pos c15] at H
         have LMc15:=Aside0.mk c15
         clear c15
         obtain ⟨y270,hy270⟩ : ∃ y_ : List Int,y_ = (x3_1 ++ [(rd_T39 l0_0 x9_1).f0]):=⟨_,rfl⟩
         replace H : (table_Marks.l0 k1 y270 l0_0 (l0_0.length : Int) (wrap64 (x9_1 + 1))) = some r:=by first|(rw [hy270];with_reducible exact H)|(have H2_:=(Option.bind_some _ _).symm.trans H;rw [hy270];with_reducible exact H2_)|(have H2_:=(Option.bind_some _ _).symm.trans H;with_reducible exact H2_)|with_reducible exact H|(rw [hy270];exact H)|exact H
         have Ny270:=Aside0.mk hy270
         clear hy270
         have H':=Aside0.mk H
         clear H
         have p267 : 0 ≤ (x9_1 : Int):=zd
         have q267 : x9_1 < (l0_0.length : Int):=zd
         obtain ⟨ad267,e267,hx267_0,hx267_1,hx267_2,hx267_3,hx267_4,hx267_5⟩:=at_T39 HR0_0.out x9_1 p267 q267
         cases e267
         replace hx267_0:=zh HB hx267_0
         replace hx267_1:=zh HB hx267_1
         replace hx267_2:=zh HB hx267_2
         replace hx267_3:=zh HB hx267_3
         replace hx267_4:=zh HB hx267_4
         replace hx267_5:=zh HB hx267_5
         replace p267:=eq_true p267
         replace q267:=eq_true q267
         go_wp2_with (first|((with_reducible refine gate_dst (N:=5) rfl ?_);refine zb (N:=5) (cs:=#[.int .i64 0,.int .i64 0,.float .f64 0,.int .i64 0,.float .f64 0,.int .i64 0]) (t:=39) ?_;intro G268 hg w16 hbox hb;replace HO_3:=Aside0.mk (Kd.R_below (zR HO_3) hb);have K268:=Aside0.mk (hbox);have GW268:=zN HB hg;have GE268:=zN HB hg;replace HB:=zS HB hb;have NB266_268:=zL K266 hg;have NB268_266:=zG K266 hg;replace K266:=zB K266 hb;clear hb hbox hg;have hnb17:=NB268_266.1;have hnc17:=NB266_268.1;have hcz18_0 : w16.cell? ⟨G268,0,none⟩ = some (.int .i64 0):=zk K268 0;have hcz18_1 : w16.cell? ⟨G268,1,none⟩ = some (.int .i64 0):=zk K268 1;have hcz18_2 : w16.cell? ⟨G268,2,none⟩ = some (.float .f64 0):=zk K268 2;have hcz18_3 : w16.cell? ⟨G268,3,none⟩ = some (.int .i64 0):=zk K268 3;have hcz18_4 : w16.cell? ⟨G268,4,none⟩ = some (.float .f64 0):=zk K268 4;have hcz18_5 : w16.cell? ⟨G268,5,none⟩ = some (.int .i64 0):=zk K268 5;have hfz18_0:=bF K268.1 0;have hfz18_1:=bF K268.1 1;have hfz18_2:=bF K268.1 2;have hfz18_3:=bF K268.1 3;have hfz18_4:=bF K268.1 4;have hfz18_5:=bF K268.1 5)|((with_reducible refine gate_store (t:=39) (p:=5) rfl ?_);refine store_event (t:=39) (p:=5) (v:=?vo_w19) (w1:=((((((w16.setCell ⟨G268,0,none⟩ (.int .i64 ((rd_T39 l0_0 x9_1).f0))).setCell ⟨G268,1,none⟩ (.int .i64 ((rd_T39 l0_0 x9_1).f1))).setCell ⟨G268,2,none⟩ (.float .f64 ((rd_T39 l0_0 x9_1).f2))).setCell ⟨G268,3,none⟩ (.int .i64 ((rd_T39 l0_0 x9_1).f3))).setCell ⟨G268,4,none⟩ (.float .f64 ((rd_T39 l0_0 x9_1).f4))).setCell ⟨G268,5,none⟩ (.int .i64 ((rd_T39 l0_0 x9_1).f5)))) ?hg ?ho ?hn ?hr ?_;(case ho => rfl);(case hg => rfl);(case hn => rfl);(case hr => first|(go_simp;done)|(go_simp;rfl));intro w19 hw;replace HO_3 : Aside0 (Kd.R (Kd.int .i64) 3 w19 w.heap.size (fun _ => True) u3 x3_1):=⟨(by rw [hw];exact (by (with_reducible repeat (first|apply Kd.R_alloc|apply Kd.R_drewN|apply Kd.R_drew));exact Kd.R_mono (Kd.R_far (p:=⟨G268,5,none⟩) (Kd.R_far (p:=⟨G268,4,none⟩) (Kd.R_far (p:=⟨G268,3,none⟩) (Kd.R_far (p:=⟨G268,2,none⟩) (Kd.R_far (p:=⟨G268,1,none⟩) (Kd.R_far (p:=⟨G268,0,none⟩) (Kd.R_types HO_3.out K268.1 (by decide)) (fun _ hk => hk.2) (.int .i64 ((rd_T39 l0_0 x9_1).f0))) (fun _ hk => hk.2) (.int .i64 ((rd_T39 l0_0 x9_1).f1))) (fun _ hk => hk.2) (.float .f64 ((rd_T39 l0_0 x9_1).f2))) (fun _ hk => hk.2) (.int .i64 ((rd_T39 l0_0 x9_1).f3))) (fun _ hk => hk.2) (.float .f64 ((rd_T39 l0_0 x9_1).f4))) (fun _ hk => hk.2) (.int .i64 ((rd_T39 l0_0 x9_1).f5))) (fun _ hk => trivial)))⟩;replace K266 : Aside0 (w19.heap[G266]? = some (.cells #[.slice (some ad267) l0_0.length c0_0,.bool a0_1] 24 (0,0))):=⟨(by rw [hw];exact (zf K266))⟩;replace K268 : Aside0 (w19.heap[G268]? = some (.cells #[.int .i64 ((rd_T39 l0_0 x9_1).f0),.int .i64 ((rd_T39 l0_0 x9_1).f1),.float .f64 ((rd_T39 l0_0 x9_1).f2),.int .i64 ((rd_T39 l0_0 x9_1).f3),.float .f64 ((rd_T39 l0_0 x9_1).f4),.int .i64 ((rd_T39 l0_0 x9_1).f5)] 39 (0,0))):=⟨(by rw [hw];exact (zF K268))⟩;replace HB : Aside0 (Below w.heap.size w w19):=⟨(by rw [hw];exact (zH HB))⟩;clear hw;have hcz20_0 : w19.cell? ⟨G268,0,none⟩ = some (.int .i64 ((rd_T39 l0_0 x9_1).f0)):=zk K268 0;have hcz20_1 : w19.cell? ⟨G268,1,none⟩ = some (.int .i64 ((rd_T39 l0_0 x9_1).f1)):=zk K268 1;have hcz20_2 : w19.cell? ⟨G268,2,none⟩ = some (.float .f64 ((rd_T39 l0_0 x9_1).f2)):=zk K268 2;have hcz20_3 : w19.cell? ⟨G268,3,none⟩ = some (.int .i64 ((rd_T39 l0_0 x9_1).f3)):=zk K268 3;have hcz20_4 : w19.cell? ⟨G268,4,none⟩ = some (.float .f64 ((rd_T39 l0_0 x9_1).f4)):=zk K268 4;have hcz20_5 : w19.cell? ⟨G268,5,none⟩ = some (.int .i64 ((rd_T39 l0_0 x9_1).f5)):=zk K268 5;have hfz20_0:=bF K268.1 0;have hfz20_1:=bF K268.1 1;have hfz20_2:=bF K268.1 2;have hfz20_3:=bF K268.1 3;have hfz20_4:=bF K268.1 4;have hfz20_5:=bF K268.1 5)|(go_at_call 53;(with_reducible refine (math_IsInf.calls ((rd_T39 l0_0 x9_1).f2) 1 false _ A8.out).mono ?_);rintro e w' ⟨rfl,⟨nd,rfl⟩⟩)|((with_reducible refine gate_builtin (b:=.append) (xs:=#[.tmp 22,.tmp 25]) rfl ?_);at_builtin;refine Kd.R_append (Kd.int .i64) (w0:=w) w.heap.size rfl (.tmp 22) (.tmp 25) 40 3 (.int .i64 0) 8 rfl Try.underlying40 info3 rfl (by decide) (by omega) u3 x3_1 ((rd_T39 l0_0 x9_1).f0) [.int .i64 ((rd_T39 l0_0 x9_1).f0)] (fun _ => True) (fun _ => False) rfl rfl ?aP (fun _ hk => hk.elim) ?aF ?aO ?aB ?aS ?aL ?_;(case aP => exact rfl);(case aB => exact (zH HB));(case aF => exact (fun _ _ => trivial));(case aO => exact (zR HO_3));(case aS => exact (zW HB));(case aL => have:=LMc15.out;omega);intro v271 w21 ho hb hg hat;rw [← Ny270.out] at ho;replace K266:=Aside0.mk (blk_grown (g:=G266) (z1 K266.1) hg (Kd.R_ne HO_3.out K266.1 (by decide)));replace K268:=Aside0.mk (blk_grown (g:=G268) (z1 K268.1) hg (Kd.R_ne HO_3.out K268.1 (by decide)));replace HB:=Aside0.mk (hb);have HO272:=Aside0.mk (ho);clear HO_3;clear ho hb hg hat))
         go_roundg k1
         case measure => have:=HK1.out;omega
         case rel => exact ⟨(y270),(wrap64 (x9_1 + 1)),ze,H',⟨by have:=HK1.out;omega⟩,⟨zR HO272⟩,⟨z1 K266.1⟩,⟨zH HB⟩⟩
        ·rw [if_neg c15] at H
         exact absurd H (by simp)
      ·rw [if_neg c7] at H
       have c7b0 : (((rd_T39 l0_0 x9_1).f1) == 1) = false:=beq_eq_false_iff_ne.mpr c7
       have c7b1 : (((rd_T39 l0_0 x9_1).f1) != 1) = true:=bne_iff_ne.mpr c7
       have H':=Aside0.mk H
       clear H
       have p267 : 0 ≤ (x9_1 : Int):=zd
       have q267 : x9_1 < (l0_0.length : Int):=zd
       obtain ⟨ad267,e267,hx267_0,hx267_1,hx267_2,hx267_3,hx267_4,hx267_5⟩:=at_T39 HR0_0.out x9_1 p267 q267
       cases e267
       replace hx267_0:=zh HB hx267_0
       replace hx267_1:=zh HB hx267_1
       replace hx267_2:=zh HB hx267_2
       replace hx267_3:=zh HB hx267_3
       replace hx267_4:=zh HB hx267_4
       replace hx267_5:=zh HB hx267_5
       replace p267:=eq_true p267
       replace q267:=eq_true q267
       go_wp2_with (first|((with_reducible refine gate_dst (N:=5) rfl ?_);refine zb (N:=5) (cs:=#[.int .i64 0,.int .i64 0,.float .f64 0,.int .i64 0,.float .f64 0,.int .i64 0]) (t:=39) ?_;intro G268 hg w22 hbox hb;replace HO_3:=Aside0.mk (Kd.R_below (zR HO_3) hb);have K268:=Aside0.mk (hbox);have GW268:=zN HB hg;have GE268:=zN HB hg;replace HB:=zS HB hb;have NB266_268:=zL K266 hg;have NB268_266:=zG K266 hg;replace K266:=zB K266 hb;clear hb hbox hg;have hnb23:=NB268_266.1;have hnc23:=NB266_268.1;have hcz24_0 : w22.cell? ⟨G268,0,none⟩ = some (.int .i64 0):=zk K268 0;have hcz24_1 : w22.cell? ⟨G268,1,none⟩ = some (.int .i64 0):=zk K268 1;have hcz24_2 : w22.cell? ⟨G268,2,none⟩ = some (.float .f64 0):=zk K268 2;have hcz24_3 : w22.cell? ⟨G268,3,none⟩ = some (.int .i64 0):=zk K268 3;have hcz24_4 : w22.cell? ⟨G268,4,none⟩ = some (.float .f64 0):=zk K268 4;have hcz24_5 : w22.cell? ⟨G268,5,none⟩ = some (.int .i64 0):=zk K268 5;have hfz24_0:=bF K268.1 0;have hfz24_1:=bF K268.1 1;have hfz24_2:=bF K268.1 2;have hfz24_3:=bF K268.1 3;have hfz24_4:=bF K268.1 4;have hfz24_5:=bF K268.1 5)|((with_reducible refine gate_store (t:=39) (p:=5) rfl ?_);refine store_event (t:=39) (p:=5) (v:=?vo_w25) (w1:=((((((w22.setCell ⟨G268,0,none⟩ (.int .i64 ((rd_T39 l0_0 x9_1).f0))).setCell ⟨G268,1,none⟩ (.int .i64 ((rd_T39 l0_0 x9_1).f1))).setCell ⟨G268,2,none⟩ (.float .f64 ((rd_T39 l0_0 x9_1).f2))).setCell ⟨G268,3,none⟩ (.int .i64 ((rd_T39 l0_0 x9_1).f3))).setCell ⟨G268,4,none⟩ (.float .f64 ((rd_T39 l0_0 x9_1).f4))).setCell ⟨G268,5,none⟩ (.int .i64 ((rd_T39 l0_0 x9_1).f5)))) ?hg ?ho ?hn ?hr ?_;(case ho => rfl);(case hg => rfl);(case hn => rfl);(case hr => first|(go_simp;done)|(go_simp;rfl));intro w25 hw;replace HO_3 : Aside0 (Kd.R (Kd.int .i64) 3 w25 w.heap.size (fun _ => True) u3 x3_1):=⟨(by rw [hw];exact (by (with_reducible repeat (first|apply Kd.R_alloc|apply Kd.R_drewN|apply Kd.R_drew));exact Kd.R_mono (Kd.R_far (p:=⟨G268,5,none⟩) (Kd.R_far (p:=⟨G268,4,none⟩) (Kd.R_far (p:=⟨G268,3,none⟩) (Kd.R_far (p:=⟨G268,2,none⟩) (Kd.R_far (p:=⟨G268,1,none⟩) (Kd.R_far (p:=⟨G268,0,none⟩) (Kd.R_types HO_3.out K268.1 (by decide)) (fun _ hk => hk.2) (.int .i64 ((rd_T39 l0_0 x9_1).f0))) (fun _ hk => hk.2) (.int .i64 ((rd_T39 l0_0 x9_1).f1))) (fun _ hk => hk.2) (.float .f64 ((rd_T39 l0_0 x9_1).f2))) (fun _ hk => hk.2) (.int .i64 ((rd_T39 l0_0 x9_1).f3))) (fun _ hk => hk.2) (.float .f64 ((rd_T39 l0_0 x9_1).f4))) (fun _ hk => hk.2) (.int .i64 ((rd_T39 l0_0 x9_1).f5))) (fun _ hk => trivial)))⟩;replace K266 : Aside0 (w25.heap[G266]? = some (.cells #[.slice (some ad267) l0_0.length c0_0,.bool a0_1] 24 (0,0))):=⟨(by rw [hw];exact (zf K266))⟩;replace K268 : Aside0 (w25.heap[G268]? = some (.cells #[.int .i64 ((rd_T39 l0_0 x9_1).f0),.int .i64 ((rd_T39 l0_0 x9_1).f1),.float .f64 ((rd_T39 l0_0 x9_1).f2),.int .i64 ((rd_T39 l0_0 x9_1).f3),.float .f64 ((rd_T39 l0_0 x9_1).f4),.int .i64 ((rd_T39 l0_0 x9_1).f5)] 39 (0,0))):=⟨(by rw [hw];exact (zF K268))⟩;replace HB : Aside0 (Below w.heap.size w w25):=⟨(by rw [hw];exact (zH HB))⟩;clear hw;have hcz26_0 : w25.cell? ⟨G268,0,none⟩ = some (.int .i64 ((rd_T39 l0_0 x9_1).f0)):=zk K268 0;have hcz26_1 : w25.cell? ⟨G268,1,none⟩ = some (.int .i64 ((rd_T39 l0_0 x9_1).f1)):=zk K268 1;have hcz26_2 : w25.cell? ⟨G268,2,none⟩ = some (.float .f64 ((rd_T39 l0_0 x9_1).f2)):=zk K268 2;have hcz26_3 : w25.cell? ⟨G268,3,none⟩ = some (.int .i64 ((rd_T39 l0_0 x9_1).f3)):=zk K268 3;have hcz26_4 : w25.cell? ⟨G268,4,none⟩ = some (.float .f64 ((rd_T39 l0_0 x9_1).f4)):=zk K268 4;have hcz26_5 : w25.cell? ⟨G268,5,none⟩ = some (.int .i64 ((rd_T39 l0_0 x9_1).f5)):=zk K268 5;have hfz26_0:=bF K268.1 0;have hfz26_1:=bF K268.1 1;have hfz26_2:=bF K268.1 2;have hfz26_3:=bF K268.1 3;have hfz26_4:=bF K268.1 4;have hfz26_5:=bF K268.1 5))
       go_roundg k1
       case measure => have:=HK1.out;omega
       case rel => exact ⟨(x3_1),(wrap64 (x9_1 + 1)),ze,H',⟨by have:=HK1.out;omega⟩,⟨zR HO_3⟩,⟨z1 K266.1⟩,⟨zH HB⟩⟩
     ·rw [if_neg c6] at H
      exact absurd H (by simp)
    ·rw [if_neg c5] at H
     exact absurd H (by simp)
   ·rw [if_neg c4] at H
    have c4b0 : decide (x9_1 < (l0_0.length : Int)) = false:=decide_eq_false c4
    clear c4
    obtain rfl:=Option.some.inj H
    go_wp2
    go_ret
    exact ⟨_,by first|rfl|(simp [errW_none,errW_some] <;> rfl)|(simp [*,errW_none,errW_some] <;> rfl),by (with_reducible repeat (first|apply Kd.R_alloc|apply Kd.R_drewN|apply Kd.R_drew));exact HO_3.out,zH HB⟩

end Go.Proofs.Ytgmjlhpigfaicaa.XA
