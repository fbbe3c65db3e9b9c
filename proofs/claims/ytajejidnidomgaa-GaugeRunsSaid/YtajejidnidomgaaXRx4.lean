/- Go functions of this seat as Lean functions, with proofs that the calls come to them. (Written by xprint.py, a program of this session, over the kit's print.) -/
import Derived.Test.YtajejidnidomgaaXRx0
import Derived.Test.YtajejidnidomgaaXRx2
import Derived.Test.YtajejidnidomgaaXRx3
namespace Go.Proofs.Ytajejidnidomgaa.XR
open Go.RowKit Go.Proofs.YtajejidnidomgaaW.PrintWords Go.Proofs.YtajejidnidomgaaW.PrintLast Go.Proofs.YtajejidnidomgaaW.PrintMore
attribute [local go_sem] max2_int min2_int max_two min_two max_three min_three max_four min_four   -- for this text's walks alone
set_option linter.unusedVariables false
set_option linter.unusedSimpArgs false
open Go.Proofs.YtajejidnidomgaaW.PrintWords renaming blk_drewN → bN, blk_drew → bD, blk_alloc → bA, below_set → bS, blk_frozen → bF, blk_cell → bC, cell_far → cF, blk_far → bZ, blk_below → bB, pw_below_drewN → bwN, below_drew1 → bw1, below_alloc → bwA

/-! ### beaconref05_Check: function 13 -/
def beaconref05_Check.j0 : Nat → Bool → Int → Nat → Nat → Option (Int)
 | 0, _, _, _, _ => none
 | k + 1, x15, x162000, x162001, x162002 => if x15 = true then (some 0) else (if x162000 < 1 then (some 1) else ((beaconref05_finite.f x162001).bind fun t164 => (if t164 = true then ((beaconref05_finite.f x162002).bind fun t165 => (if t165 = true then ((beaconref05_sign.f x162001).bind fun t166 => (if t166 = true then (some 1) else ((beaconref05_sign.f x162002).bind fun t167 => (if t167 = true then (some 1) else (some 0))))) else (some 1))) else (some 1))))
def beaconref05_Check.f (k : Nat) (a0_0 : Int) (a0_1 : Nat) (a0_2 : Nat) : Option (Int) := if a0_0 = 0 then ((beaconref01_Same.f a0_1 0).bind fun t162 => (if t162 = true then ((beaconref01_Same.f a0_2 0).bind fun t163 => (beaconref05_Check.j0 k t163 a0_0 a0_1 a0_2)) else (beaconref05_Check.j0 k false a0_0 a0_1 a0_2))) else (beaconref05_Check.j0 k false a0_0 a0_1 a0_2)
theorem beaconref05_Check.mono_l : ∀ k, (∀ y0 y1 y2 y3, LeO (beaconref05_Check.j0 k y0 y1 y2 y3) (beaconref05_Check.j0 (k + 1) y0 y1 y2 y3))
 | 0 => fun _ _ _ _ r h => by simp [beaconref05_Check.j0] at h
 | k + 1 => by
  have ih0:=beaconref05_Check.mono_l k
  ·intro y0 y1 y2 y3
   unfold beaconref05_Check.j0
   repeat' first
   | (with_reducible exact ih0 _ _ _ _)
   | (with_reducible exact LeO.refl _)
   | (with_reducible exact LeO.none _)
   | (with_reducible refine LeO.ite ?_ ?_)
   | (with_reducible refine LeO.bind ?_ (fun _ => ?_))
   | exact ih0 _ _ _ _
   | exact LeO.none _
   | refine LeO.ite ?_ ?_
   | refine LeO.bind ?_ (fun _ => ?_)
theorem beaconref05_Check.mono : ∀ a0 a1 a2 k, LeO (beaconref05_Check.f k a0 a1 a2) (beaconref05_Check.f (k + 1) a0 a1 a2) := by
 intro a0 a1 a2 k
 have ih0:=beaconref05_Check.mono_l k
 unfold beaconref05_Check.f
 repeat' first
   | (with_reducible exact ih0 _ _ _ _)
   | (with_reducible exact LeO.refl _)
   | (with_reducible exact LeO.none _)
   | (with_reducible refine LeO.ite ?_ ?_)
   | (with_reducible refine LeO.bind ?_ (fun _ => ?_))
   | exact ih0 _ _ _ _
   | exact LeO.none _
   | refine LeO.ite ?_ ?_
   | refine LeO.bind ?_ (fun _ => ?_)
set_option maxHeartbeats 2500000 in
set_option maxRecDepth 100000 in
theorem beaconref05_Check.calls (k : Nat) (a0_0 : Int) (a0_1 : Nat) (a0_2 : Nat) (r : Int) (w : World) (h : beaconref05_Check.f k a0_0 a0_1 a0_2 = some r) :
  Calls Try.prog 13 #[.agg #[.int .i64 a0_0,.float .f64 a0_1,.float .f64 a0_2]] w fun e w' => e = .returned (.int .i64 r) ∧ Below w.heap.size w w':=by
 have hu24:=Try.underlying24
 have HB:=Aside0.mk (Below.refl w.heap.size w)
 have H : (if a0_0 = 0 then ((beaconref01_Same.f a0_1 0).bind fun t162 => (if t162 = true then ((beaconref01_Same.f a0_2 0).bind fun t163 => (beaconref05_Check.j0 k t163 a0_0 a0_1 a0_2)) else (beaconref05_Check.j0 k false a0_0 a0_1 a0_2))) else (beaconref05_Check.j0 k false a0_0 a0_1 a0_2)) = some r:=h
 clear h
 have HC2:=Aside0.mk H
 clear H
 go_enter Try.func13,Try.ntmps13
 go_upto_region 1 with (first|((with_reducible refine gate_dst (N:=1) rfl ?_);refine box_event ?hg (N:=1) ?hd (cs:=#[.int .i64 a0_0,.float .f64 a0_1,.float .f64 a0_2]) (t:=24) ?hr ?_;(case hd => rfl);(case hg => rfl);(case hr => first|(go_simp;done)|(go_simp;rfl));intro G161 hg w3 hbox hb;have n0_:=Aside0.mk (below_step (by repeat (first|(with_reducible first|exact HB.1|apply bwA|apply bwN|apply bw1)|exact HB.1)) hb);have n1_:=Aside0.mk (hbox);have n2_:=Aside0.mk ((by rw [hg];exact (below_size (by repeat (first|(with_reducible first|exact HB.1|apply bwA|apply bwN|apply bw1)|exact HB.1))) : w.heap.size ≤ G161));have n3_:=Aside0.mk ((by rw [hg];exact (below_size (by repeat (first|(with_reducible first|exact HB.1|apply bwA|apply bwN|apply bw1)|exact HB.1))) : w.heap.size ≤ G161));clear HB;have HB:=n0_;have K161:=n1_;have GW161:=n2_;have GE161:=n3_;clear n0_ n1_ n2_ n3_;clear hb hbox hg))
 (try simp only [Act.put,List.setIfInBounds_toArray,List.set_cons_zero,List.set_cons_succ])
 go_cut [15] (fun v15 wc => ∃ (kq : Nat) (x15_1 : Bool),v15 = .bool x15_1 ∧ Aside0 (beaconref05_Check.j0 kq x15_1 a0_0 a0_1 a0_2 = some r) ∧ Aside0 (kq ≤ k) ∧ Aside0 (wc.heap[G161]? = some (.cells #[.int .i64 a0_0,.float .f64 a0_1,.float .f64 a0_2] 24 (0,0))) ∧ Aside0 (Below w.heap.size w wc))
 case first =>
  have H:=HC2.out
  clear HC2
  by_cases c4 : a0_0 = 0
  ·rw [if_pos c4] at H
   have c4b0 : (a0_0 == 0) = true:=beq_iff_eq.mpr c4
   have c4b1 : (a0_0 != 0) = false:=bne_eq_false_iff_eq.mpr c4
   clear c4
   (first|rw [c4b0]|(simp only [i64_w,i32_w];rw [c4b0])|skip)
   replace H:=Option.bind_eq_some_iff.mp H
   obtain ⟨t162,A50,H⟩:=H
   replace H : (if t162 = true then ((beaconref01_Same.f a0_2 0).bind fun t163 => (beaconref05_Check.j0 k t163 a0_0 a0_1 a0_2)) else (beaconref05_Check.j0 k false a0_0 a0_1 a0_2)) = some r:=H
   have A5:=Aside0.mk A50
   clear A50
   by_cases c6 : t162 = true
   ·subst c6
    have H1 : ((beaconref01_Same.f a0_2 0).bind fun t163 => (beaconref05_Check.j0 k t163 a0_0 a0_1 a0_2)) = some r:=by rw [if_pos rfl] at H;exact H
    clear H
    have H:=H1
    clear H1
    replace H:=Option.bind_eq_some_iff.mp H
    obtain ⟨t163,A70,H⟩:=H
    replace H : (beaconref05_Check.j0 k t163 a0_0 a0_1 a0_2) = some r:=H
    have A7:=Aside0.mk A70
    clear A70
    have H':=Aside0.mk H
    clear H
    have hcz8_0 : w3.cell? ⟨G161,0,none⟩ = some (.int .i64 a0_0):=(bC K161.1 0).trans rfl
    have hcz8_1 : w3.cell? ⟨G161,1,none⟩ = some (.float .f64 a0_1):=(bC K161.1 1).trans rfl
    have hcz8_2 : w3.cell? ⟨G161,2,none⟩ = some (.float .f64 a0_2):=(bC K161.1 2).trans rfl
    have hfz8_0:=bF K161.1 0
    have hfz8_1:=bF K161.1 1
    have hfz8_2:=bF K161.1 2
    go_wp2_with (first|(go_at_call 17;(with_reducible refine (beaconref01_Same.calls a0_1 0 true _ A5.out).mono ?_);rintro e w' ⟨rfl,⟨nd,rfl⟩⟩)|(go_at_call 17;(with_reducible refine (beaconref01_Same.calls a0_2 0 t163 _ A7.out).mono ?_);rintro e w' ⟨rfl,⟨nd,rfl⟩⟩))
    go_meet
    case rel => exact ⟨_,(t163),(by first|rfl|(simp;done)|(simp [*];done)),H',⟨by first|omega|exact Nat.le_refl _⟩,⟨by (with_reducible repeat first|apply bN|apply bD|apply bA);exact K161.1⟩,⟨by repeat (first|(with_reducible first|exact HB.1|apply bwA|apply bwN|apply bw1|refine bS ?_ GE161.1)|exact HB.1)⟩⟩
   ·replace c6:=Bool.eq_false_iff.mpr c6
    subst c6
    have H1 : (beaconref05_Check.j0 k false a0_0 a0_1 a0_2) = some r:=by rw [if_neg (show ¬ (false = true) by decide)] at H;exact H
    clear H
    have H:=H1
    clear H1
    have H':=Aside0.mk H
    clear H
    have hcz9_0 : w3.cell? ⟨G161,0,none⟩ = some (.int .i64 a0_0):=(bC K161.1 0).trans rfl
    have hcz9_1 : w3.cell? ⟨G161,1,none⟩ = some (.float .f64 a0_1):=(bC K161.1 1).trans rfl
    have hcz9_2 : w3.cell? ⟨G161,2,none⟩ = some (.float .f64 a0_2):=(bC K161.1 2).trans rfl
    have hfz9_0:=bF K161.1 0
    have hfz9_1:=bF K161.1 1
    have hfz9_2:=bF K161.1 2
    go_wp2_with (first|(go_at_call 17;(with_reducible refine (beaconref01_Same.calls a0_1 0 false _ A5.out).mono ?_);rintro e w' ⟨rfl,⟨nd,rfl⟩⟩))
    go_meet
    case rel => exact ⟨_,(false),(by first|rfl|(simp;done)|(simp [*];done)),H',⟨by first|omega|exact Nat.le_refl _⟩,⟨by (with_reducible repeat first|apply bN|apply bD|apply bA);exact K161.1⟩,⟨by repeat (first|(with_reducible first|exact HB.1|apply bwA|apply bwN|apply bw1|refine bS ?_ GE161.1)|exact HB.1)⟩⟩
  ·rw [if_neg c4] at H
   have c4b0 : (a0_0 == 0) = false:=beq_eq_false_iff_ne.mpr c4
   have c4b1 : (a0_0 != 0) = true:=bne_iff_ne.mpr c4
   (first|rw [c4b0]|(simp only [i64_w,i32_w];rw [c4b0])|skip)
   have H':=Aside0.mk H
   clear H
   have hcz10_0 : w3.cell? ⟨G161,0,none⟩ = some (.int .i64 a0_0):=(bC K161.1 0).trans rfl
   have hcz10_1 : w3.cell? ⟨G161,1,none⟩ = some (.float .f64 a0_1):=(bC K161.1 1).trans rfl
   have hcz10_2 : w3.cell? ⟨G161,2,none⟩ = some (.float .f64 a0_2):=(bC K161.1 2).trans rfl
   have hfz10_0:=bF K161.1 0
   have hfz10_1:=bF K161.1 1
   have hfz10_2:=bF K161.1 2
   go_wp2
   go_meet
   case rel => exact ⟨_,(false),(by first|rfl|(simp;done)|(simp [*];done)),H',⟨by first|omega|exact Nat.le_refl _⟩,⟨by (with_reducible repeat first|apply bN|apply bD|apply bA);exact K161.1⟩,⟨by repeat (first|(with_reducible first|exact HB.1|apply bwA|apply bwN|apply bw1|refine bS ?_ GE161.1)|exact HB.1)⟩⟩
 case rest =>
  clear HC2
  try clear c1
  try clear p2
  try clear c4
  try clear c4b0
  try clear c4b1
  try clear c6
  try clear hcz10_0
  try clear hcz10_1
  try clear hcz10_2
  try clear hcz8_0
  try clear hcz8_1
  try clear hcz8_2
  try clear hcz9_0
  try clear hcz9_1
  try clear hcz9_2
  try clear hfz10_0
  try clear hfz10_1
  try clear hfz10_2
  try clear hfz8_0
  try clear hfz8_1
  try clear hfz8_2
  try clear hfz9_0
  try clear hfz9_1
  try clear hfz9_2
  obtain ⟨kq,x15_1,rfl,HA,HJ1,K161,HB⟩:=hcut
  cases kq with
  | zero => exact absurd HA.out (by simp [beaconref05_Check.j0])
  | succ kj1 =>
   have H:=HA.out
   clear HA
   simp only [beaconref05_Check.j0] at H
   by_cases c11 : x15_1 = true
   ·subst c11
    have H1 : (some 0) = some r:=by rw [if_pos rfl] at H;exact H
    clear H
    have H:=H1
    clear H1
    obtain rfl:=Option.some.inj H
    go_wp2
    go_ret
    exact ⟨by first|rfl|(simp [errW_none,errW_some] <;> rfl)|(simp [*,errW_none,errW_some] <;> rfl),by repeat (first|(with_reducible first|exact HB.1|apply bwA|apply bwN|apply bw1|refine bS ?_ GE161.1)|exact HB.1)⟩
   ·replace c11:=Bool.eq_false_iff.mpr c11
    subst c11
    have H1 : (if a0_0 < 1 then (some 1) else ((beaconref05_finite.f a0_1).bind fun t164 => (if t164 = true then ((beaconref05_finite.f a0_2).bind fun t165 => (if t165 = true then ((beaconref05_sign.f a0_1).bind fun t166 => (if t166 = true then (some 1) else ((beaconref05_sign.f a0_2).bind fun t167 => (if t167 = true then (some 1) else (some 0))))) else (some 1))) else (some 1)))) = some r:=by rw [if_neg (show ¬ (false = true) by decide)] at H;exact H
    clear H
    have H:=H1
    clear H1
    by_cases c12 : a0_0 < 1
    ·rw [if_pos c12] at H
     have c12b0 : decide (a0_0 < 1) = true:=decide_eq_true c12
     clear c12
     obtain rfl:=Option.some.inj H
     have hcz13_0 : wc.cell? ⟨G161,0,none⟩ = some (.int .i64 a0_0):=(bC K161.1 0).trans rfl
     have hcz13_1 : wc.cell? ⟨G161,1,none⟩ = some (.float .f64 a0_1):=(bC K161.1 1).trans rfl
     have hcz13_2 : wc.cell? ⟨G161,2,none⟩ = some (.float .f64 a0_2):=(bC K161.1 2).trans rfl
     have hfz13_0:=bF K161.1 0
     have hfz13_1:=bF K161.1 1
     have hfz13_2:=bF K161.1 2
     go_wp2
     go_ret
     exact ⟨by first|rfl|(simp [errW_none,errW_some] <;> rfl)|(simp [*,errW_none,errW_some] <;> rfl),by repeat (first|(with_reducible first|exact HB.1|apply bwA|apply bwN|apply bw1|refine bS ?_ GE161.1)|exact HB.1)⟩
    ·rw [if_neg c12] at H
     have c12b0 : decide (a0_0 < 1) = false:=decide_eq_false c12
     clear c12
     replace H:=Option.bind_eq_some_iff.mp H
     obtain ⟨t164,A140,H⟩:=H
     replace H : (if t164 = true then ((beaconref05_finite.f a0_2).bind fun t165 => (if t165 = true then ((beaconref05_sign.f a0_1).bind fun t166 => (if t166 = true then (some 1) else ((beaconref05_sign.f a0_2).bind fun t167 => (if t167 = true then (some 1) else (some 0))))) else (some 1))) else (some 1)) = some r:=H
     have A14:=Aside0.mk A140
     clear A140
     by_cases c15 : t164 = true
     ·subst c15
      have H1 : ((beaconref05_finite.f a0_2).bind fun t165 => (if t165 = true then ((beaconref05_sign.f a0_1).bind fun t166 => (if t166 = true then (some 1) else ((beaconref05_sign.f a0_2).bind fun t167 => (if t167 = true then (some 1) else (some 0))))) else (some 1))) = some r:=by rw [if_pos rfl] at H;exact H
      clear H
      have H:=H1
      clear H1
      replace H:=Option.bind_eq_some_iff.mp H
      obtain ⟨t165,A160,H⟩:=H
      replace H : (if t165 = true then ((beaconref05_sign.f a0_1).bind fun t166 => (if t166 = true then (some 1) else ((beaconref05_sign.f a0_2).bind fun t167 => (if t167 = true then (some 1) else (some 0))))) else (some 1)) = some r:=H
      have A16:=Aside0.mk A160
      clear A160
      by_cases c17 : t165 = true
      ·subst c17
       have H1 : ((beaconref05_sign.f a0_1).bind fun t166 => (if t166 = true then (some 1) else ((beaconref05_sign.f a0_2).bind fun t167 => (if t167 = true then (some 1) else (some 0))))) = some r:=by rw [if_pos rfl] at H;exact H
       clear H
       have H:=H1
       clear H1
       replace H:=Option.bind_eq_some_iff.mp H
       obtain ⟨t166,A180,H⟩:=H
       replace H : (if t166 = true then (some 1) else ((beaconref05_sign.f a0_2).bind fun t167 => (if t167 = true then (some 1) else (some 0)))) = some r:=H
       have A18:=Aside0.mk A180
       clear A180
       by_cases c19 : t166 = true
       ·subst c19
        have H1 : (some 1) = some r:=by rw [if_pos rfl] at H;exact H
        clear H
        have H:=H1
        clear H1
        obtain rfl:=Option.some.inj H
        have hcz20_0 : wc.cell? ⟨G161,0,none⟩ = some (.int .i64 a0_0):=(bC K161.1 0).trans rfl
        have hcz20_1 : wc.cell? ⟨G161,1,none⟩ = some (.float .f64 a0_1):=(bC K161.1 1).trans rfl
        have hcz20_2 : wc.cell? ⟨G161,2,none⟩ = some (.float .f64 a0_2):=(bC K161.1 2).trans rfl
        have hfz20_0:=bF K161.1 0
        have hfz20_1:=bF K161.1 1
        have hfz20_2:=bF K161.1 2
        go_wp2_with (first|(go_at_call 29;(with_reducible refine (beaconref05_finite.calls a0_1 true _ A14.out).mono ?_);rintro e w' ⟨rfl,⟨nd,rfl⟩⟩)|(go_at_call 29;(with_reducible refine (beaconref05_finite.calls a0_2 true _ A16.out).mono ?_);rintro e w' ⟨rfl,⟨nd,rfl⟩⟩)|(go_at_call 30;(with_reducible refine (beaconref05_sign.calls a0_1 true _ A18.out).mono ?_);rintro e w' ⟨rfl,⟨nd,rfl⟩⟩))
        go_ret
        exact ⟨by first|rfl|(simp [errW_none,errW_some] <;> rfl)|(simp [*,errW_none,errW_some] <;> rfl),by repeat (first|(with_reducible first|exact HB.1|apply bwA|apply bwN|apply bw1|refine bS ?_ GE161.1)|exact HB.1)⟩
       ·replace c19:=Bool.eq_false_iff.mpr c19
        subst c19
        have H1 : ((beaconref05_sign.f a0_2).bind fun t167 => (if t167 = true then (some 1) else (some 0))) = some r:=by rw [if_neg (show ¬ (false = true) by decide)] at H;exact H
        clear H
        have H:=H1
        clear H1
        replace H:=Option.bind_eq_some_iff.mp H
        obtain ⟨t167,A210,H⟩:=H
        replace H : (if t167 = true then (some 1) else (some 0)) = some r:=H
        have A21:=Aside0.mk A210
        clear A210
        by_cases c22 : t167 = true
        ·subst c22
         have H1 : (some 1) = some r:=by rw [if_pos rfl] at H;exact H
         clear H
         have H:=H1
         clear H1
         obtain rfl:=Option.some.inj H
         have hcz23_0 : wc.cell? ⟨G161,0,none⟩ = some (.int .i64 a0_0):=(bC K161.1 0).trans rfl
         have hcz23_1 : wc.cell? ⟨G161,1,none⟩ = some (.float .f64 a0_1):=(bC K161.1 1).trans rfl
         have hcz23_2 : wc.cell? ⟨G161,2,none⟩ = some (.float .f64 a0_2):=(bC K161.1 2).trans rfl
         have hfz23_0:=bF K161.1 0
         have hfz23_1:=bF K161.1 1
         have hfz23_2:=bF K161.1 2
         go_wp2_with (first|(go_at_call 29;(with_reducible refine (beaconref05_finite.calls a0_1 true _ A14.out).mono ?_);rintro e w' ⟨rfl,⟨nd,rfl⟩⟩)|(go_at_call 29;(with_reducible refine (beaconref05_finite.calls a0_2 true _ A16.out).mono ?_);rintro e w' ⟨rfl,⟨nd,rfl⟩⟩)|(go_at_call 30;(with_reducible refine (beaconref05_sign.calls a0_1 false _ A18.out).mono ?_);rintro e w' ⟨rfl,⟨nd,rfl⟩⟩)|(go_at_call 30;(with_reducible refine (beaconref05_sign.calls a0_2 true _ A21.out).mono ?_);rintro e w' ⟨rfl,⟨nd,rfl⟩⟩))
         go_ret
         exact ⟨by first|rfl|(simp [errW_none,errW_some] <;> rfl)|(simp [*,errW_none,errW_some] <;> rfl),by repeat (first|(with_reducible first|exact HB.1|apply bwA|apply bwN|apply bw1|refine bS ?_ GE161.1)|exact HB.1)⟩
        ·replace c22:=Bool.eq_false_iff.mpr c22
         subst c22
         have H1 : (some 0) = some r:=by rw [if_neg (show ¬ (false = true) by decide)] at H;exact H
         clear H
         have H:=H1
         clear H1
         obtain rfl:=Option.some.inj H
         have hcz24_0 : wc.cell? ⟨G161,0,none⟩ = some (.int .i64 a0_0):=(bC K161.1 0).trans rfl
         have hcz24_1 : wc.cell? ⟨G161,1,none⟩ = some (.float .f64 a0_1):=(bC K161.1 1).trans rfl
         have hcz24_2 : wc.cell? ⟨G161,2,none⟩ = some (.float .f64 a0_2):=(bC K161.1 2).trans rfl
         have hfz24_0:=bF K161.1 0
         have hfz24_1:=bF K161.1 1
         have hfz24_2:=bF K161.1 2
         go_wp2_with (first|(go_at_call 29;(with_reducible refine (beaconref05_finite.calls a0_1 true _ A14.out).mono ?_);rintro e w' ⟨rfl,⟨nd,rfl⟩⟩)|(go_at_call 29;(with_reducible refine (beaconref05_finite.calls a0_2 true _ A16.out).mono ?_);rintro e w' ⟨rfl,⟨nd,rfl⟩⟩)|(go_at_call 30;(with_reducible refine (beaconref05_sign.calls a0_1 false _ A18.out).mono ?_);rintro e w' ⟨rfl,⟨nd,rfl⟩⟩)|(go_at_call 30;(with_reducible refine (beaconref05_sign.calls a0_2 false _ A21.out).mono ?_);rintro e w' ⟨rfl,⟨nd,rfl⟩⟩))
         go_ret
         exact ⟨by first|rfl|(simp [errW_none,errW_some] <;> rfl)|(simp [*,errW_none,errW_some] <;> rfl),by repeat (first|(with_reducible first|exact HB.1|apply bwA|apply bwN|apply bw1|refine bS ?_ GE161.1)|exact HB.1)⟩
      ·replace c17:=Bool.eq_false_iff.mpr c17
       subst c17
       have H1 : (some 1) = some r:=by rw [if_neg (show ¬ (false = true) by decide)] at H;exact H
       clear H
       have H:=H1
       clear H1
       obtain rfl:=Option.some.inj H
       have hcz25_0 : wc.cell? ⟨G161,0,none⟩ = some (.int .i64 a0_0):=(bC K161.1 0).trans rfl
       have hcz25_1 : wc.cell? ⟨G161,1,none⟩ = some (.float .f64 a0_1):=(bC K161.1 1).trans rfl
       have hcz25_2 : wc.cell? ⟨G161,2,none⟩ = some (.float .f64 a0_2):=(bC K161.1 2).trans rfl
       have hfz25_0:=bF K161.1 0
       have hfz25_1:=bF K161.1 1
       have hfz25_2:=bF K161.1 2
       go_wp2_with (first|(go_at_call 29;(with_reducible refine (beaconref05_finite.calls a0_1 true _ A14.out).mono ?_);rintro e w' ⟨rfl,⟨nd,rfl⟩⟩)|(go_at_call 29;(with_reducible refine (beaconref05_finite.calls a0_2 false _ A16.out).mono ?_);rintro e w' ⟨rfl,⟨nd,rfl⟩⟩))
       go_ret
       exact ⟨by first|rfl|(simp [errW_none,errW_some] <;> rfl)|(simp [*,errW_none,errW_some] <;> rfl),by repeat (first|(with_reducible first|exact HB.1|apply bwA|apply bwN|apply bw1|refine bS ?_ GE161.1)|exact HB.1)⟩
     ·replace c15:=Bool.eq_false_iff.mpr c15
      subst c15
      have H1 : (some 1) = some r:=by rw [if_neg (show ¬ (false = true) by decide)] at H;exact H
      clear H
      have H:=H1
      clear H1
      obtain rfl:=Option.some.inj H
      have hcz26_0 : wc.cell? ⟨G161,0,none⟩ = some (.int .i64 a0_0):=(bC K161.1 0).trans rfl
      have hcz26_1 : wc.cell? ⟨G161,1,none⟩ = some (.float .f64 a0_1):=(bC K161.1 1).trans rfl
      have hcz26_2 : wc.cell? ⟨G161,2,none⟩ = some (.float .f64 a0_2):=(bC K161.1 2).trans rfl
      have hfz26_0:=bF K161.1 0
      have hfz26_1:=bF K161.1 1
      have hfz26_2:=bF K161.1 2
      go_wp2_with (first|(go_at_call 29;(with_reducible refine (beaconref05_finite.calls a0_1 false _ A14.out).mono ?_);rintro e w' ⟨rfl,⟨nd,rfl⟩⟩))
      go_ret
      exact ⟨by first|rfl|(simp [errW_none,errW_some] <;> rfl)|(simp [*,errW_none,errW_some] <;> rfl),by repeat (first|(with_reducible first|exact HB.1|apply bwA|apply bwN|apply bw1|refine bS ?_ GE161.1)|exact HB.1)⟩

/-! ### beaconref05_sample: function 26 -/
def beaconref05_sample.j0 : Nat → Nat → Bool → Option (Nat × Bool)
 | 0, _, _ => none
 | k + 1, x0, x10 => if x10 = true then (some (0, false)) else (if (feq x0 0) = true then (some (0, true)) else (some (x0, true)))
def beaconref05_sample.f (k : Nat) (a0 : Nat) : Option (Nat × Bool) := (beaconref05_finite.f a0).bind fun t168 => (if t168 = true then (beaconref05_sample.j0 k a0 (flt a0 0)) else (beaconref05_sample.j0 k a0 true))
theorem beaconref05_sample.mono_l : ∀ k, (∀ y0 y1, LeO (beaconref05_sample.j0 k y0 y1) (beaconref05_sample.j0 (k + 1) y0 y1))
 | 0 => fun _ _ r h => by simp [beaconref05_sample.j0] at h
 | k + 1 => by
  have ih0:=beaconref05_sample.mono_l k
  ·intro y0 y1
   unfold beaconref05_sample.j0
   repeat' first
   | (with_reducible exact ih0 _ _)
   | (with_reducible exact LeO.refl _)
   | (with_reducible exact LeO.none _)
   | (with_reducible refine LeO.ite ?_ ?_)
   | (with_reducible refine LeO.bind ?_ (fun _ => ?_))
   | exact ih0 _ _
   | exact LeO.none _
   | refine LeO.ite ?_ ?_
   | refine LeO.bind ?_ (fun _ => ?_)
theorem beaconref05_sample.mono : ∀ a0 k, LeO (beaconref05_sample.f k a0) (beaconref05_sample.f (k + 1) a0) := by
 intro a0 k
 have ih0:=beaconref05_sample.mono_l k
 unfold beaconref05_sample.f
 repeat' first
   | (with_reducible exact ih0 _ _)
   | (with_reducible exact LeO.refl _)
   | (with_reducible exact LeO.none _)
   | (with_reducible refine LeO.ite ?_ ?_)
   | (with_reducible refine LeO.bind ?_ (fun _ => ?_))
   | exact ih0 _ _
   | exact LeO.none _
   | refine LeO.ite ?_ ?_
   | refine LeO.bind ?_ (fun _ => ?_)
set_option maxHeartbeats 2500000 in
set_option maxRecDepth 100000 in
theorem beaconref05_sample.calls (k : Nat) (a0 : Nat) (r1 : Nat) (r2 : Bool) (w : World) (h : beaconref05_sample.f k a0 = some (r1, r2)) :
  Calls Try.prog 26 #[.float .f64 a0] w fun e w' => e = .returned (.tuple #[.float .f64 r1,.bool r2]) ∧ Drawn0 w w':=by
 have H : ((beaconref05_finite.f a0).bind fun t168 => (if t168 = true then (beaconref05_sample.j0 k a0 (flt a0 0)) else (beaconref05_sample.j0 k a0 true))) = some (r1,r2):=h
 clear h
 have HC2:=Aside0.mk H
 clear H
 go_enter Try.func26,Try.ntmps26
 go_upto_region 1 with (fail)
 go_cut [10] (fun v10 wc => ∃ (kq : Nat) (x10_1 : Bool),v10 = .bool x10_1 ∧ Aside0 (beaconref05_sample.j0 kq a0 x10_1 = some (r1,r2)) ∧ Aside0 (kq ≤ k) ∧ Drawn0 w wc)
 case first =>
  have H:=HC2.out
  clear HC2
  replace H:=Option.bind_eq_some_iff.mp H
  obtain ⟨t168,A30,H⟩:=H
  replace H : (if t168 = true then (beaconref05_sample.j0 k a0 (flt a0 0)) else (beaconref05_sample.j0 k a0 true)) = some (r1,r2):=H
  have A3:=Aside0.mk A30
  clear A30
  by_cases c4 : t168 = true
  ·subst c4
   have H1 : (beaconref05_sample.j0 k a0 (flt a0 0)) = some (r1,r2):=by rw [if_pos rfl] at H;exact H
   clear H
   have H:=H1
   clear H1
   have H':=Aside0.mk H
   clear H
   go_wp2_with (first|((with_reducible refine gate_callee (f:=29) rfl ?_);refine goesL_ (some 5) rfl rfl Try.func29 (by kernel_rfl) rfl #[.float .f64 a0] rfl (by (try simp only [List.map_toArray,List.map_cons,List.map_nil]);first|done|rfl|(simp only [List.length_drop,List.length_take];rfl)) ?_;(with_reducible refine (beaconref05_finite.calls a0 true _ A3.out).mono ?_);rintro e w' ⟨rfl,⟨nd,rfl⟩⟩;refine ⟨_,rfl,?_⟩))
   go_meet
   case rel => exact ⟨_,((flt a0 0)),(by first|rfl|(simp;done)|(simp [*];done)),H',⟨by first|omega|exact Nat.le_refl _⟩,by repeat (first|exact Drawn0.refl _|apply Drawn0.step)⟩
  ·replace c4:=Bool.eq_false_iff.mpr c4
   subst c4
   have H1 : (beaconref05_sample.j0 k a0 true) = some (r1,r2):=by rw [if_neg (show ¬ (false = true) by decide)] at H;exact H
   clear H
   have H:=H1
   clear H1
   have H':=Aside0.mk H
   clear H
   go_wp2_with (first|((with_reducible refine gate_callee (f:=29) rfl ?_);refine goesL_ (some 5) rfl rfl Try.func29 (by kernel_rfl) rfl #[.float .f64 a0] rfl (by (try simp only [List.map_toArray,List.map_cons,List.map_nil]);first|done|rfl|(simp only [List.length_drop,List.length_take];rfl)) ?_;(with_reducible refine (beaconref05_finite.calls a0 false _ A3.out).mono ?_);rintro e w' ⟨rfl,⟨nd,rfl⟩⟩;refine ⟨_,rfl,?_⟩))
   go_meet
   case rel => exact ⟨_,(true),(by first|rfl|(simp;done)|(simp [*];done)),H',⟨by first|omega|exact Nat.le_refl _⟩,by repeat (first|exact Drawn0.refl _|apply Drawn0.step)⟩
 case rest =>
  clear HC2
  try clear c2
  try clear p2
  try clear c4
  obtain ⟨kq,x10_1,rfl,HA,HJ1,⟨mc1,rfl⟩⟩:=hcut
  cases kq with
  | zero => exact absurd HA.out (by simp [beaconref05_sample.j0])
  | succ kj1 =>
   have H:=HA.out
   clear HA
   simp only [beaconref05_sample.j0] at H
   by_cases c5 : x10_1 = true
   ·subst c5
    have H1 : (some (0,false)) = some (r1,r2):=by rw [if_pos rfl] at H;exact H
    clear H
    have H:=H1
    clear H1
    simp only [Option.some.injEq,Prod.mk.injEq] at H
    obtain ⟨rfl,rfl⟩:=H
    go_wp2
    go_ret2
    exact ⟨by first|rfl|(simp;done)|(simp [*];done),by repeat (first|exact Drawn0.refl _|apply Drawn0.step)⟩
   ·replace c5:=Bool.eq_false_iff.mpr c5
    subst c5
    have H1 : (if (feq a0 0) = true then (some (0,true)) else (some (a0,true))) = some (r1,r2):=by rw [if_neg (show ¬ (false = true) by decide)] at H;exact H
    clear H
    have H:=H1
    clear H1
    by_cases c6 : (feq a0 0) = true
    ·rw [if_pos c6] at H
     have c6b0 : (feq a0 0) = true:=c6
     clear c6
     simp only [Option.some.injEq,Prod.mk.injEq] at H
     obtain ⟨rfl,rfl⟩:=H
     go_wp2
     go_ret2
     exact ⟨by first|rfl|(simp;done)|(simp [*];done),by repeat (first|exact Drawn0.refl _|apply Drawn0.step)⟩
    ·rw [if_neg c6] at H
     have c6b0 : (feq a0 0) = false:=by simpa using c6
     clear c6
     simp only [Option.some.injEq,Prod.mk.injEq] at H
     obtain ⟨rfl,rfl⟩:=H
     go_wp2
     go_ret2
     exact ⟨by first|rfl|(simp;done)|(simp [*];done),by repeat (first|exact Drawn0.refl _|apply Drawn0.step)⟩

/-! ### beaconref05_Feed: function 10 -/
def beaconref05_Feed.f (k : Nat) (a0_0 : Int) (a0_1 : Nat) (a0_2 : Nat) (a1 : Nat) : Option (Int × Nat × Nat × Int) := (beaconref05_Check.f k a0_0 a0_1 a0_2).bind fun t171 => (if t171 = 0 then ((beaconref05_sample.f k a1).bind fun bt172 => (if bt172.2 = true then (if a0_0 = 0 then (if (fdivOk bt172.1 4611686018427387904) = true then (some (1, bt172.1, fdiv bt172.1 4611686018427387904, 0)) else (none)) else (if a0_0 < 9223372036854775807 then (if (fsubOk a0_1 bt172.1) = true then (if (flt (fsub a0_1 bt172.1) 0) = true then (if (fsubOk bt172.1 a0_1) = true then (if (fmulOk 4604930618986332160 a0_2) = true then (if (fmulOk 4598175219545276416 (fsub bt172.1 a0_1)) = true then (if (faddOk (fmul 4604930618986332160 a0_2) (fmul 4598175219545276416 (fsub bt172.1 a0_1))) = true then (if (fmulOk 4606056518893174784 a0_1) = true then (if (fmulOk 4593671619917905920 bt172.1) = true then (if (faddOk (fmul 4606056518893174784 a0_1) (fmul 4593671619917905920 bt172.1)) = true then (some (wrap64 (a0_0 + 1), fadd (fmul 4606056518893174784 a0_1) (fmul 4593671619917905920 bt172.1), fadd (fmul 4604930618986332160 a0_2) (fmul 4598175219545276416 (fsub bt172.1 a0_1)), 0)) else (none)) else (none)) else (none)) else (none)) else (none)) else (none)) else (none)) else (if (fmulOk 4604930618986332160 a0_2) = true then (if (fmulOk 4598175219545276416 (fsub a0_1 bt172.1)) = true then (if (faddOk (fmul 4604930618986332160 a0_2) (fmul 4598175219545276416 (fsub a0_1 bt172.1))) = true then (if (fmulOk 4606056518893174784 a0_1) = true then (if (fmulOk 4593671619917905920 bt172.1) = true then (if (faddOk (fmul 4606056518893174784 a0_1) (fmul 4593671619917905920 bt172.1)) = true then (some (wrap64 (a0_0 + 1), fadd (fmul 4606056518893174784 a0_1) (fmul 4593671619917905920 bt172.1), fadd (fmul 4604930618986332160 a0_2) (fmul 4598175219545276416 (fsub a0_1 bt172.1)), 0)) else (none)) else (none)) else (none)) else (none)) else (none)) else (none))) else (none)) else (if (fsubOk a0_1 bt172.1) = true then (if (flt (fsub a0_1 bt172.1) 0) = true then (if (fsubOk bt172.1 a0_1) = true then (if (fmulOk 4604930618986332160 a0_2) = true then (if (fmulOk 4598175219545276416 (fsub bt172.1 a0_1)) = true then (if (faddOk (fmul 4604930618986332160 a0_2) (fmul 4598175219545276416 (fsub bt172.1 a0_1))) = true then (if (fmulOk 4606056518893174784 a0_1) = true then (if (fmulOk 4593671619917905920 bt172.1) = true then (if (faddOk (fmul 4606056518893174784 a0_1) (fmul 4593671619917905920 bt172.1)) = true then (some (a0_0, fadd (fmul 4606056518893174784 a0_1) (fmul 4593671619917905920 bt172.1), fadd (fmul 4604930618986332160 a0_2) (fmul 4598175219545276416 (fsub bt172.1 a0_1)), 0)) else (none)) else (none)) else (none)) else (none)) else (none)) else (none)) else (none)) else (if (fmulOk 4604930618986332160 a0_2) = true then (if (fmulOk 4598175219545276416 (fsub a0_1 bt172.1)) = true then (if (faddOk (fmul 4604930618986332160 a0_2) (fmul 4598175219545276416 (fsub a0_1 bt172.1))) = true then (if (fmulOk 4606056518893174784 a0_1) = true then (if (fmulOk 4593671619917905920 bt172.1) = true then (if (faddOk (fmul 4606056518893174784 a0_1) (fmul 4593671619917905920 bt172.1)) = true then (some (a0_0, fadd (fmul 4606056518893174784 a0_1) (fmul 4593671619917905920 bt172.1), fadd (fmul 4604930618986332160 a0_2) (fmul 4598175219545276416 (fsub a0_1 bt172.1)), 0)) else (none)) else (none)) else (none)) else (none)) else (none)) else (none))) else (none)))) else (some (0, 0, 0, 50)))) else (some (0, 0, 0, t171)))
theorem beaconref05_Feed.mono : ∀ a0 a1 a2 a3 k, LeO (beaconref05_Feed.f k a0 a1 a2 a3) (beaconref05_Feed.f (k + 1) a0 a1 a2 a3) := by
 intro a0 a1 a2 a3 k
 unfold beaconref05_Feed.f
 repeat' first
   | (with_reducible exact beaconref05_Check.mono _ _ _ _)
   | (with_reducible exact beaconref05_sample.mono _ _)
   | (with_reducible exact LeO.refl _)
   | (with_reducible exact LeO.none _)
   | (with_reducible refine LeO.ite ?_ ?_)
   | (with_reducible refine LeO.bind ?_ (fun _ => ?_))
   | exact beaconref05_Check.mono _ _ _ _
   | exact beaconref05_sample.mono _ _
   | exact LeO.none _
   | refine LeO.ite ?_ ?_
   | refine LeO.bind ?_ (fun _ => ?_)
set_option maxHeartbeats 2500000 in
set_option maxRecDepth 100000 in
theorem beaconref05_Feed.calls (k : Nat) (a0_0 : Int) (a0_1 : Nat) (a0_2 : Nat) (a1 : Nat) (r1 : Int) (r2 : Nat) (r3 : Nat) (r4 : Int) (w : World) (h : beaconref05_Feed.f k a0_0 a0_1 a0_2 a1 = some (r1, r2, r3, r4)) :
  Calls Try.prog 10 #[.agg #[.int .i64 a0_0,.float .f64 a0_1,.float .f64 a0_2],.float .f64 a1] w fun e w' => e = .returned (.tuple #[.agg #[.int .i64 r1,.float .f64 r2,.float .f64 r3],.int .i64 r4]) ∧ Below w.heap.size w w':=by
 have hu24:=Try.underlying24
 have HB:=Aside0.mk (Below.refl w.heap.size w)
 have H : ((beaconref05_Check.f k a0_0 a0_1 a0_2).bind fun t171 => (if t171 = 0 then ((beaconref05_sample.f k a1).bind fun bt172 => (if bt172.2 = true then (if a0_0 = 0 then (if (fdivOk bt172.1 4611686018427387904) = true then (some (1,bt172.1,fdiv bt172.1 4611686018427387904,0)) else (none)) else (if a0_0 < 9223372036854775807 then (if (fsubOk a0_1 bt172.1) = true then (if (flt (fsub a0_1 bt172.1) 0) = true then (if (fsubOk bt172.1 a0_1) = true then (if (fmulOk 4604930618986332160 a0_2) = true then (if (fmulOk 4598175219545276416 (fsub bt172.1 a0_1)) = true then (if (faddOk (fmul 4604930618986332160 a0_2) (fmul 4598175219545276416 (fsub bt172.1 a0_1))) = true then (if (fmulOk 4606056518893174784 a0_1) = true then (if (fmulOk 4593671619917905920 bt172.1) = true then (if (faddOk (fmul 4606056518893174784 a0_1) (fmul 4593671619917905920 bt172.1)) = true then (some (wrap64 (a0_0 + 1),fadd (fmul 4606056518893174784 a0_1) (fmul 4593671619917905920 bt172.1),fadd (fmul 4604930618986332160 a0_2) (fmul 4598175219545276416 (fsub bt172.1 a0_1)),0)) else (none)) else (none)) else (none)) else (none)) else (none)) else (none)) else (none)) else (if (fmulOk 4604930618986332160 a0_2) = true then (if (fmulOk 4598175219545276416 (fsub a0_1 bt172.1)) = true then (if (faddOk (fmul 4604930618986332160 a0_2) (fmul 4598175219545276416 (fsub a0_1 bt172.1))) = true then (if (fmulOk 4606056518893174784 a0_1) = true then (if (fmulOk 4593671619917905920 bt172.1) = true then (if (faddOk (fmul 4606056518893174784 a0_1) (fmul 4593671619917905920 bt172.1)) = true then (some (wrap64 (a0_0 + 1),fadd (fmul 4606056518893174784 a0_1) (fmul 4593671619917905920 bt172.1),fadd (fmul 4604930618986332160 a0_2) (fmul 4598175219545276416 (fsub a0_1 bt172.1)),0)) else (none)) else (none)) else (none)) else (none)) else (none)) else (none))) else (none)) else (if (fsubOk a0_1 bt172.1) = true then (if (flt (fsub a0_1 bt172.1) 0) = true then (if (fsubOk bt172.1 a0_1) = true then (if (fmulOk 4604930618986332160 a0_2) = true then (if (fmulOk 4598175219545276416 (fsub bt172.1 a0_1)) = true then (if (faddOk (fmul 4604930618986332160 a0_2) (fmul 4598175219545276416 (fsub bt172.1 a0_1))) = true then (if (fmulOk 4606056518893174784 a0_1) = true then (if (fmulOk 4593671619917905920 bt172.1) = true then (if (faddOk (fmul 4606056518893174784 a0_1) (fmul 4593671619917905920 bt172.1)) = true then (some (a0_0,fadd (fmul 4606056518893174784 a0_1) (fmul 4593671619917905920 bt172.1),fadd (fmul 4604930618986332160 a0_2) (fmul 4598175219545276416 (fsub bt172.1 a0_1)),0)) else (none)) else (none)) else (none)) else (none)) else (none)) else (none)) else (none)) else (if (fmulOk 4604930618986332160 a0_2) = true then (if (fmulOk 4598175219545276416 (fsub a0_1 bt172.1)) = true then (if (faddOk (fmul 4604930618986332160 a0_2) (fmul 4598175219545276416 (fsub a0_1 bt172.1))) = true then (if (fmulOk 4606056518893174784 a0_1) = true then (if (fmulOk 4593671619917905920 bt172.1) = true then (if (faddOk (fmul 4606056518893174784 a0_1) (fmul 4593671619917905920 bt172.1)) = true then (some (a0_0,fadd (fmul 4606056518893174784 a0_1) (fmul 4593671619917905920 bt172.1),fadd (fmul 4604930618986332160 a0_2) (fmul 4598175219545276416 (fsub a0_1 bt172.1)),0)) else (none)) else (none)) else (none)) else (none)) else (none)) else (none))) else (none)))) else (some (0,0,0,50)))) else (some (0,0,0,t171)))) = some (r1,r2,r3,r4):=h
 clear h
 replace H:=Option.bind_eq_some_iff.mp H
 obtain ⟨t171,A30,H⟩:=H
 replace H : (if t171 = 0 then ((beaconref05_sample.f k a1).bind fun bt172 => (if bt172.2 = true then (if a0_0 = 0 then (if (fdivOk bt172.1 4611686018427387904) = true then (some (1,bt172.1,fdiv bt172.1 4611686018427387904,0)) else (none)) else (if a0_0 < 9223372036854775807 then (if (fsubOk a0_1 bt172.1) = true then (if (flt (fsub a0_1 bt172.1) 0) = true then (if (fsubOk bt172.1 a0_1) = true then (if (fmulOk 4604930618986332160 a0_2) = true then (if (fmulOk 4598175219545276416 (fsub bt172.1 a0_1)) = true then (if (faddOk (fmul 4604930618986332160 a0_2) (fmul 4598175219545276416 (fsub bt172.1 a0_1))) = true then (if (fmulOk 4606056518893174784 a0_1) = true then (if (fmulOk 4593671619917905920 bt172.1) = true then (if (faddOk (fmul 4606056518893174784 a0_1) (fmul 4593671619917905920 bt172.1)) = true then (some (wrap64 (a0_0 + 1),fadd (fmul 4606056518893174784 a0_1) (fmul 4593671619917905920 bt172.1),fadd (fmul 4604930618986332160 a0_2) (fmul 4598175219545276416 (fsub bt172.1 a0_1)),0)) else (none)) else (none)) else (none)) else (none)) else (none)) else (none)) else (none)) else (if (fmulOk 4604930618986332160 a0_2) = true then (if (fmulOk 4598175219545276416 (fsub a0_1 bt172.1)) = true then (if (faddOk (fmul 4604930618986332160 a0_2) (fmul 4598175219545276416 (fsub a0_1 bt172.1))) = true then (if (fmulOk 4606056518893174784 a0_1) = true then (if (fmulOk 4593671619917905920 bt172.1) = true then (if (faddOk (fmul 4606056518893174784 a0_1) (fmul 4593671619917905920 bt172.1)) = true then (some (wrap64 (a0_0 + 1),fadd (fmul 4606056518893174784 a0_1) (fmul 4593671619917905920 bt172.1),fadd (fmul 4604930618986332160 a0_2) (fmul 4598175219545276416 (fsub a0_1 bt172.1)),0)) else (none)) else (none)) else (none)) else (none)) else (none)) else (none))) else (none)) else (if (fsubOk a0_1 bt172.1) = true then (if (flt (fsub a0_1 bt172.1) 0) = true then (if (fsubOk bt172.1 a0_1) = true then (if (fmulOk 4604930618986332160 a0_2) = true then (if (fmulOk 4598175219545276416 (fsub bt172.1 a0_1)) = true then (if (faddOk (fmul 4604930618986332160 a0_2) (fmul 4598175219545276416 (fsub bt172.1 a0_1))) = true then (if (fmulOk 4606056518893174784 a0_1) = true then (if (fmulOk 4593671619917905920 bt172.1) = true then (if (faddOk (fmul 4606056518893174784 a0_1) (fmul 4593671619917905920 bt172.1)) = true then (some (a0_0,fadd (fmul 4606056518893174784 a0_1) (fmul 4593671619917905920 bt172.1),fadd (fmul 4604930618986332160 a0_2) (fmul 4598175219545276416 (fsub bt172.1 a0_1)),0)) else (none)) else (none)) else (none)) else (none)) else (none)) else (none)) else (none)) else (if (fmulOk 4604930618986332160 a0_2) = true then (if (fmulOk 4598175219545276416 (fsub a0_1 bt172.1)) = true then (if (faddOk (fmul 4604930618986332160 a0_2) (fmul 4598175219545276416 (fsub a0_1 bt172.1))) = true then (if (fmulOk 4606056518893174784 a0_1) = true then (if (fmulOk 4593671619917905920 bt172.1) = true then (if (faddOk (fmul 4606056518893174784 a0_1) (fmul 4593671619917905920 bt172.1)) = true then (some (a0_0,fadd (fmul 4606056518893174784 a0_1) (fmul 4593671619917905920 bt172.1),fadd (fmul 4604930618986332160 a0_2) (fmul 4598175219545276416 (fsub a0_1 bt172.1)),0)) else (none)) else (none)) else (none)) else (none)) else (none)) else (none))) else (none)))) else (some (0,0,0,50)))) else (some (0,0,0,t171))) = some (r1,r2,r3,r4):=H
 have A3:=Aside0.mk A30
 clear A30
 by_cases c4 : t171 = 0
 ·rw [if_pos c4] at H
  have c4b0 : (t171 == 0) = true:=beq_iff_eq.mpr c4
  have c4b1 : (t171 != 0) = false:=bne_eq_false_iff_eq.mpr c4
  clear c4
  replace H:=Option.bind_eq_some_iff.mp H
  obtain ⟨⟨t172,t173⟩,A50,H⟩:=H
  replace H : (if t173 = true then (if a0_0 = 0 then (if (fdivOk t172 4611686018427387904) = true then (some (1,t172,fdiv t172 4611686018427387904,0)) else (none)) else (if a0_0 < 9223372036854775807 then (if (fsubOk a0_1 t172) = true then (if (flt (fsub a0_1 t172) 0) = true then (if (fsubOk t172 a0_1) = true then (if (fmulOk 4604930618986332160 a0_2) = true then (if (fmulOk 4598175219545276416 (fsub t172 a0_1)) = true then (if (faddOk (fmul 4604930618986332160 a0_2) (fmul 4598175219545276416 (fsub t172 a0_1))) = true then (if (fmulOk 4606056518893174784 a0_1) = true then (if (fmulOk 4593671619917905920 t172) = true then (if (faddOk (fmul 4606056518893174784 a0_1) (fmul 4593671619917905920 t172)) = true then (some (wrap64 (a0_0 + 1),fadd (fmul 4606056518893174784 a0_1) (fmul 4593671619917905920 t172),fadd (fmul 4604930618986332160 a0_2) (fmul 4598175219545276416 (fsub t172 a0_1)),0)) else (none)) else (none)) else (none)) else (none)) else (none)) else (none)) else (none)) else (if (fmulOk 4604930618986332160 a0_2) = true then (if (fmulOk 4598175219545276416 (fsub a0_1 t172)) = true then (if (faddOk (fmul 4604930618986332160 a0_2) (fmul 4598175219545276416 (fsub a0_1 t172))) = true then (if (fmulOk 4606056518893174784 a0_1) = true then (if (fmulOk 4593671619917905920 t172) = true then (if (faddOk (fmul 4606056518893174784 a0_1) (fmul 4593671619917905920 t172)) = true then (some (wrap64 (a0_0 + 1),fadd (fmul 4606056518893174784 a0_1) (fmul 4593671619917905920 t172),fadd (fmul 4604930618986332160 a0_2) (fmul 4598175219545276416 (fsub a0_1 t172)),0)) else (none)) else (none)) else (none)) else (none)) else (none)) else (none))) else (none)) else (if (fsubOk a0_1 t172) = true then (if (flt (fsub a0_1 t172) 0) = true then (if (fsubOk t172 a0_1) = true then (if (fmulOk 4604930618986332160 a0_2) = true then (if (fmulOk 4598175219545276416 (fsub t172 a0_1)) = true then (if (faddOk (fmul 4604930618986332160 a0_2) (fmul 4598175219545276416 (fsub t172 a0_1))) = true then (if (fmulOk 4606056518893174784 a0_1) = true then (if (fmulOk 4593671619917905920 t172) = true then (if (faddOk (fmul 4606056518893174784 a0_1) (fmul 4593671619917905920 t172)) = true then (some (a0_0,fadd (fmul 4606056518893174784 a0_1) (fmul 4593671619917905920 t172),fadd (fmul 4604930618986332160 a0_2) (fmul 4598175219545276416 (fsub t172 a0_1)),0)) else (none)) else (none)) else (none)) else (none)) else (none)) else (none)) else (none)) else (if (fmulOk 4604930618986332160 a0_2) = true then (if (fmulOk 4598175219545276416 (fsub a0_1 t172)) = true then (if (faddOk (fmul 4604930618986332160 a0_2) (fmul 4598175219545276416 (fsub a0_1 t172))) = true then (if (fmulOk 4606056518893174784 a0_1) = true then (if (fmulOk 4593671619917905920 t172) = true then (if (faddOk (fmul 4606056518893174784 a0_1) (fmul 4593671619917905920 t172)) = true then (some (a0_0,fadd (fmul 4606056518893174784 a0_1) (fmul 4593671619917905920 t172),fadd (fmul 4604930618986332160 a0_2) (fmul 4598175219545276416 (fsub a0_1 t172)),0)) else (none)) else (none)) else (none)) else (none)) else (none)) else (none))) else (none)))) else (some (0,0,0,50))) = some (r1,r2,r3,r4):=H
  have A5:=Aside0.mk A50
  clear A50
  by_cases c6 : t173 = true
  ·subst c6
   have H1 : (if a0_0 = 0 then (if (fdivOk t172 4611686018427387904) = true then (some (1,t172,fdiv t172 4611686018427387904,0)) else (none)) else (if a0_0 < 9223372036854775807 then (if (fsubOk a0_1 t172) = true then (if (flt (fsub a0_1 t172) 0) = true then (if (fsubOk t172 a0_1) = true then (if (fmulOk 4604930618986332160 a0_2) = true then (if (fmulOk 4598175219545276416 (fsub t172 a0_1)) = true then (if (faddOk (fmul 4604930618986332160 a0_2) (fmul 4598175219545276416 (fsub t172 a0_1))) = true then (if (fmulOk 4606056518893174784 a0_1) = true then (if (fmulOk 4593671619917905920 t172) = true then (if (faddOk (fmul 4606056518893174784 a0_1) (fmul 4593671619917905920 t172)) = true then (some (wrap64 (a0_0 + 1),fadd (fmul 4606056518893174784 a0_1) (fmul 4593671619917905920 t172),fadd (fmul 4604930618986332160 a0_2) (fmul 4598175219545276416 (fsub t172 a0_1)),0)) else (none)) else (none)) else (none)) else (none)) else (none)) else (none)) else (none)) else (if (fmulOk 4604930618986332160 a0_2) = true then (if (fmulOk 4598175219545276416 (fsub a0_1 t172)) = true then (if (faddOk (fmul 4604930618986332160 a0_2) (fmul 4598175219545276416 (fsub a0_1 t172))) = true then (if (fmulOk 4606056518893174784 a0_1) = true then (if (fmulOk 4593671619917905920 t172) = true then (if (faddOk (fmul 4606056518893174784 a0_1) (fmul 4593671619917905920 t172)) = true then (some (wrap64 (a0_0 + 1),fadd (fmul 4606056518893174784 a0_1) (fmul 4593671619917905920 t172),fadd (fmul 4604930618986332160 a0_2) (fmul 4598175219545276416 (fsub a0_1 t172)),0)) else (none)) else (none)) else (none)) else (none)) else (none)) else (none))) else (none)) else (if (fsubOk a0_1 t172) = true then (if (flt (fsub a0_1 t172) 0) = true then (if (fsubOk t172 a0_1) = true then (if (fmulOk 4604930618986332160 a0_2) = true then (if (fmulOk 4598175219545276416 (fsub t172 a0_1)) = true then (if (faddOk (fmul 4604930618986332160 a0_2) (fmul 4598175219545276416 (fsub t172 a0_1))) = true then (if (fmulOk 4606056518893174784 a0_1) = true then (if (fmulOk 4593671619917905920 t172) = true then (if (faddOk (fmul 4606056518893174784 a0_1) (fmul 4593671619917905920 t172)) = true then (some (a0_0,fadd (fmul 4606056518893174784 a0_1) (fmul 4593671619917905920 t172),fadd (fmul 4604930618986332160 a0_2) (fmul 4598175219545276416 (fsub t172 a0_1)),0)) else (none)) else (none)) else (none)) else (none)) else (none)) else (none)) else (none)) else (if (fmulOk 4604930618986332160 a0_2) = true then (if (fmulOk 4598175219545276416 (fsub a0_1 t172)) = true then (if (faddOk (fmul 4604930618986332160 a0_2) (fmul 4598175219545276416 (fsub a0_1 t172))) = true then (if (fmulOk 4606056518893174784 a0_1) = true then (if (fmulOk 4593671619917905920 t172) = true then (if (faddOk (fmul 4606056518893174784 a0_1) (fmul 4593671619917905920 t172)) = true then (some (a0_0,fadd (fmul 4606056518893174784 a0_1) (fmul 4593671619917905920 t172),fadd (fmul 4604930618986332160 a0_2) (fmul 4598175219545276416 (fsub a0_1 t172)),0)) else (none)) else (none)) else (none)) else (none)) else (none)) else (none))) else (none)))) = some (r1,r2,r3,r4):=by rw [if_pos rfl] at H;exact H
   clear H
   have H:=H1
   clear H1
   by_cases c7 : a0_0 = 0
   ·rw [if_pos c7] at H
    have c7b0 : (a0_0 == 0) = true:=beq_iff_eq.mpr c7
    have c7b1 : (a0_0 != 0) = false:=bne_eq_false_iff_eq.mpr c7
    clear c7
    by_cases c8 : (fdivOk t172 4611686018427387904) = true
    ·rw [if_pos c8] at H
     have c8b0:=eq_true c8
     have c8b1 : decide ((fdivOk t172 4611686018427387904) = true) = true:=decide_eq_true c8
     clear c8
     simp only [Option.some.injEq,Prod.mk.injEq] at H
     obtain ⟨rfl,rfl,rfl,rfl⟩:=H
     go_enter Try.func10,Try.ntmps10
     go_wp2_with (first|((with_reducible refine gate_dst (N:=2) rfl ?_);refine box_event ?hg (N:=2) ?hd (cs:=#[.int .i64 a0_0,.float .f64 a0_1,.float .f64 a0_2]) (t:=24) ?hr ?_;(case hd => rfl);(case hg => rfl);(case hr => first|(go_simp;done)|(go_simp;rfl));intro G169 hg w9 hbox hb;have n0_:=Aside0.mk (below_step (by repeat (first|(with_reducible first|exact HB.1|apply bwA|apply bwN|apply bw1)|exact HB.1)) hb);have n1_:=Aside0.mk (hbox);have n2_:=Aside0.mk ((by rw [hg];exact (below_size (by repeat (first|(with_reducible first|exact HB.1|apply bwA|apply bwN|apply bw1)|exact HB.1))) : w.heap.size ≤ G169));have n3_:=Aside0.mk ((by rw [hg];exact (below_size (by repeat (first|(with_reducible first|exact HB.1|apply bwA|apply bwN|apply bw1)|exact HB.1))) : w.heap.size ≤ G169));clear HB;have HB:=n0_;have K169:=n1_;have GW169:=n2_;have GE169:=n3_;clear n0_ n1_ n2_ n3_;clear hb hbox hg)|((with_reducible refine gate_dst (N:=4) rfl ?_);refine box_event ?hg (N:=4) ?hd (cs:=#[.int .i64 0,.float .f64 0,.float .f64 0]) (t:=24) ?hr ?_;(case hd => rfl);(case hg => rfl);(case hr => first|(go_simp;done)|(go_simp;rfl));intro G170 hg w10 hbox hb;have n0_:=Aside0.mk (bB (g:=G169) (o:=.cells #[.int .i64 a0_0,.float .f64 a0_1,.float .f64 a0_2] 24 (0,0)) (by (with_reducible repeat first|apply bN|apply bD|apply bA);exact K169.1) hb);have n1_:=Aside0.mk (below_step (by repeat (first|(with_reducible first|exact HB.1|apply bwA|apply bwN|apply bw1|refine bS ?_ GE169.1)|exact HB.1)) hb);have n2_:=Aside0.mk (hbox);have n3_:=Aside0.mk ((by rw [hg];exact (below_size (by repeat (first|(with_reducible first|exact HB.1|apply bwA|apply bwN|apply bw1|refine bS ?_ GE169.1)|exact HB.1))) : w.heap.size ≤ G170));have n4_:=Aside0.mk ((by rw [hg];exact (below_size (by repeat (first|(with_reducible first|exact HB.1|apply bwA|apply bwN|apply bw1|refine bS ?_ GE169.1)|exact HB.1))) : w.heap.size ≤ G170));have n5_:=Aside0.mk ((by rw [hg];exact Nat.ne_of_lt (blk_lt (g:=G169) (o:=.cells #[.int .i64 a0_0,.float .f64 a0_1,.float .f64 a0_2] 24 (0,0)) (by (with_reducible repeat first|apply bN|apply bD|apply bA);exact K169.1)) : G169 ≠ G170));have n6_:=Aside0.mk ((by rw [hg];exact Nat.ne_of_gt (blk_lt (g:=G169) (o:=.cells #[.int .i64 a0_0,.float .f64 a0_1,.float .f64 a0_2] 24 (0,0)) (by (with_reducible repeat first|apply bN|apply bD|apply bA);exact K169.1)) : G170 ≠ G169));clear K169;clear HB;have K169:=n0_;have HB:=n1_;have K170:=n2_;have GW170:=n3_;have GE170:=n4_;have NB169_170:=n5_;have NB170_169:=n6_;clear n0_ n1_ n2_ n3_ n4_ n5_ n6_;clear hb hbox hg;have hnb11:=NB169_170.1;have hnc11:=NB170_169.1;have hcz12_0 : w10.cell? ⟨G169,0,none⟩ = some (.int .i64 a0_0):=(bC K169.1 0).trans rfl;have hcz12_1 : w10.cell? ⟨G169,1,none⟩ = some (.float .f64 a0_1):=(bC K169.1 1).trans rfl;have hcz12_2 : w10.cell? ⟨G169,2,none⟩ = some (.float .f64 a0_2):=(bC K169.1 2).trans rfl;have hfz12_0:=bF K169.1 0;have hfz12_1:=bF K169.1 1;have hfz12_2:=bF K169.1 2)|((with_reducible refine gate_callee (f:=13) rfl ?_);refine goesL_ (some 16) rfl rfl Try.func13 (by kernel_rfl) rfl #[.agg #[.int .i64 a0_0,.float .f64 a0_1,.float .f64 a0_2]] rfl (by (try simp only [List.map_toArray,List.map_cons,List.map_nil]);first|done|rfl|(simp only [List.length_drop,List.length_take];rfl)) ?_;(with_reducible refine (beaconref05_Check.calls k a0_0 a0_1 a0_2 t171 _ A3.out).mono ?_);rintro e w13 ⟨rfl,hb⟩;refine ⟨_,rfl,?_⟩;have n0_:=Aside0.mk (bB (g:=G169) (o:=.cells #[.int .i64 a0_0,.float .f64 a0_1,.float .f64 a0_2] 24 (0,0)) (by (with_reducible repeat first|apply bN|apply bD|apply bA);exact K169.1) hb);have n1_:=Aside0.mk (bB (g:=G170) (o:=.cells #[.int .i64 0,.float .f64 0,.float .f64 0] 24 (0,0)) (by (with_reducible repeat first|apply bN|apply bD|apply bA);exact K170.1) hb);have n2_:=Aside0.mk (below_step (by repeat (first|(with_reducible first|exact HB.1|apply bwA|apply bwN|apply bw1|refine bS ?_ GE169.1|refine bS ?_ GE170.1)|exact HB.1)) hb);clear K169;clear K170;clear HB;have K169:=n0_;have K170:=n1_;have HB:=n2_;clear n0_ n1_ n2_;(try clear hb);(try clear hb2);(try clear hk);(try clear hi))|((with_reducible refine gate_callee (f:=26) rfl ?_);refine goesL_ (some 23) rfl rfl Try.func26 (by kernel_rfl) rfl #[.float .f64 a1] rfl (by (try simp only [List.map_toArray,List.map_cons,List.map_nil]);first|done|rfl|(simp only [List.length_drop,List.length_take];rfl)) ?_;(with_reducible refine (beaconref05_sample.calls k a1 t172 true _ A5.out).mono ?_);rintro e w' ⟨rfl,⟨nd,rfl⟩⟩;refine ⟨_,rfl,?_⟩;(try (rw [drewN_self w13];generalize hq_ : World.drewN w13 _ = w13;have n0_ : Aside0 (w13.heap[G169]? = some (.cells #[.int .i64 a0_0,.float .f64 a0_1,.float .f64 a0_2] 24 (0,0))):=⟨by rw [← hq_];exact (by (with_reducible repeat first|apply bN|apply bD|apply bA);exact K169.1)⟩;have n1_ : Aside0 (w13.heap[G170]? = some (.cells #[.int .i64 0,.float .f64 0,.float .f64 0] 24 (0,0))):=⟨by rw [← hq_];exact (by (with_reducible repeat first|apply bN|apply bD|apply bA);exact K170.1)⟩;have n2_ : Aside0 (Below w.heap.size w w13):=⟨by rw [← hq_];exact (by repeat (first|(with_reducible first|exact HB.1|apply bwA|apply bwN|apply bw1|refine bS ?_ GE169.1|refine bS ?_ GE170.1)|exact HB.1))⟩;clear K169 K170 HB hq_;have K169:=n0_;have K170:=n1_;have HB:=n2_;clear n0_ n1_ n2_));have hcz14_0 : w13.cell? ⟨G169,0,none⟩ = some (.int .i64 a0_0):=(bC K169.1 0).trans rfl;have hcz14_1 : w13.cell? ⟨G169,1,none⟩ = some (.float .f64 a0_1):=(bC K169.1 1).trans rfl;have hcz14_2 : w13.cell? ⟨G169,2,none⟩ = some (.float .f64 a0_2):=(bC K169.1 2).trans rfl;have hfz14_0:=bF K169.1 0;have hfz14_1:=bF K169.1 1;have hfz14_2:=bF K169.1 2;have hcz15_0 : w13.cell? ⟨G170,0,none⟩ = some (.int .i64 0):=(bC K170.1 0).trans rfl;have hcz15_1 : w13.cell? ⟨G170,1,none⟩ = some (.float .f64 0):=(bC K170.1 1).trans rfl;have hcz15_2 : w13.cell? ⟨G170,2,none⟩ = some (.float .f64 0):=(bC K170.1 2).trans rfl;have hfz15_0:=bF K170.1 0;have hfz15_1:=bF K170.1 1;have hfz15_2:=bF K170.1 2)|((with_reducible refine gate_store (t:=24) (p:=4) rfl ?_);refine store_event (t:=24) (p:=4) (v:=?vo_w16) (w1:=(((w13.setCell ⟨G170,0,none⟩ (.int .i64 1)).setCell ⟨G170,1,none⟩ (.float .f64 t172)).setCell ⟨G170,2,none⟩ (.float .f64 (fdiv t172 4611686018427387904)))) ?hg ?ho ?hn ?hr ?_;(case ho => rfl);(case hg => rfl);(case hn => rfl);(case hr => first|(go_simp;done)|(go_simp;rfl));intro w16 hw;have n0_ : Aside0 (w16.heap[G169]? = some (.cells #[.int .i64 a0_0,.float .f64 a0_1,.float .f64 a0_2] 24 (0,0))):=⟨(by rw [hw];exact (by (with_reducible repeat first|apply bN|apply bD|apply bA);refine bZ ?_ NB169_170.1 _;(with_reducible repeat first|apply bN|apply bD|apply bA);refine bZ ?_ NB169_170.1 _;(with_reducible repeat first|apply bN|apply bD|apply bA);refine bZ ?_ NB169_170.1 _;(with_reducible repeat first|apply bN|apply bD|apply bA);exact K169.1))⟩;have n1_ : Aside0 (w16.heap[G170]? = some (.cells #[.int .i64 1,.float .f64 t172,.float .f64 (fdiv t172 4611686018427387904)] 24 (0,0))):=⟨(by rw [hw];exact (by (with_reducible repeat first|apply bN|apply bD|apply bA);refine blk_put (cs:=#[.int .i64 1,.float .f64 t172,.float .f64 0]) ?_ 2 _ rfl;(with_reducible repeat first|apply bN|apply bD|apply bA);refine blk_put (cs:=#[.int .i64 1,.float .f64 0,.float .f64 0]) ?_ 1 _ rfl;(with_reducible repeat first|apply bN|apply bD|apply bA);refine blk_put (cs:=#[.int .i64 0,.float .f64 0,.float .f64 0]) ?_ 0 _ rfl;(with_reducible repeat first|apply bN|apply bD|apply bA);exact K170.1))⟩;have n2_ : Aside0 (Below w.heap.size w w16):=⟨(by rw [hw];exact (by repeat (first|(with_reducible first|exact HB.1|apply bwA|apply bwN|apply bw1|refine bS ?_ GE169.1|refine bS ?_ GE170.1)|exact HB.1)))⟩;clear hw;clear K169;clear K170;clear HB;have K169:=n0_;have K170:=n1_;have HB:=n2_;clear n0_ n1_ n2_))
     refine bodyPost_ret (results_ct rfl _ _ G170 24 #[.int .i64 1,.float .f64 t172,.float .f64 (fdiv t172 4611686018427387904)] (0,0) _ rfl (by (with_reducible repeat first|apply bN|apply bD|apply bA);exact K170.1) Try.underlying24 rfl (by kernel_rfl)) rfl ?_
     exact ⟨by first|rfl|(simp [errW_none,errW_some] <;> rfl)|(simp [*,errW_none,errW_some] <;> rfl),by repeat (first|(with_reducible first|exact HB.1|apply bwA|apply bwN|apply bw1|refine bS ?_ GE169.1|refine bS ?_ GE170.1)|exact HB.1)⟩
    ·rw [if_neg c8] at H
     exact absurd H (by simp)
   ·rw [if_neg c7] at H
    have c7b0 : (a0_0 == 0) = false:=beq_eq_false_iff_ne.mpr c7
    have c7b1 : (a0_0 != 0) = true:=bne_iff_ne.mpr c7
    by_cases c17 : a0_0 < 9223372036854775807
    ·rw [if_pos c17] at H
     have c17b0 : decide (a0_0 < 9223372036854775807) = true:=decide_eq_true c17
     clear c17
     by_cases c18 : (fsubOk a0_1 t172) = true
     ·rw [if_pos c18] at H
      have c18b0:=eq_true c18
      have c18b1 : decide ((fsubOk a0_1 t172) = true) = true:=decide_eq_true c18
      clear c18
      by_cases c19 : (flt (fsub a0_1 t172) 0) = true
      ·rw [if_pos c19] at H
       have c19b0 : (flt (fsub a0_1 t172) 0) = true:=c19
       clear c19
       by_cases c20 : (fsubOk t172 a0_1) = true
       ·rw [if_pos c20] at H
        have c20b0:=eq_true c20
        have c20b1 : decide ((fsubOk t172 a0_1) = true) = true:=decide_eq_true c20
        clear c20
        by_cases c21 : (fmulOk 4604930618986332160 a0_2) = true
        ·rw [if_pos c21] at H
         have c21b0:=eq_true c21
         have c21b1 : decide ((fmulOk 4604930618986332160 a0_2) = true) = true:=decide_eq_true c21
         clear c21
         by_cases c22 : (fmulOk 4598175219545276416 (fsub t172 a0_1)) = true
         ·rw [if_pos c22] at H
          have c22b0:=eq_true c22
          have c22b1 : decide ((fmulOk 4598175219545276416 (fsub t172 a0_1)) = true) = true:=decide_eq_true c22
          clear c22
          by_cases c23 : (faddOk (fmul 4604930618986332160 a0_2) (fmul 4598175219545276416 (fsub t172 a0_1))) = true
          ·rw [if_pos c23] at H
           have c23b0:=eq_true c23
           have c23b1 : decide ((faddOk (fmul 4604930618986332160 a0_2) (fmul 4598175219545276416 (fsub t172 a0_1))) = true) = true:=decide_eq_true c23
           clear c23
           by_cases c24 : (fmulOk 4606056518893174784 a0_1) = true
           ·rw [if_pos c24] at H
            have c24b0:=eq_true c24
            have c24b1 : decide ((fmulOk 4606056518893174784 a0_1) = true) = true:=decide_eq_true c24
            clear c24
            by_cases c25 : (fmulOk 4593671619917905920 t172) = true
            ·rw [if_pos c25] at H
             have c25b0:=eq_true c25
             have c25b1 : decide ((fmulOk 4593671619917905920 t172) = true) = true:=decide_eq_true c25
             clear c25
             by_cases c26 : (faddOk (fmul 4606056518893174784 a0_1) (fmul 4593671619917905920 t172)) = true
             ·rw [if_pos c26] at H
              have c26b0:=eq_true c26
              have c26b1 : decide ((faddOk (fmul 4606056518893174784 a0_1) (fmul 4593671619917905920 t172)) = true) = true:=decide_eq_true c26
              clear c26
              simp only [Option.some.injEq,Prod.mk.injEq] at H
              obtain ⟨rfl,rfl,rfl,rfl⟩:=H
              go_enter Try.func10,Try.ntmps10
              go_wp2_with (first|((with_reducible refine gate_dst (N:=2) rfl ?_);refine box_event ?hg (N:=2) ?hd (cs:=#[.int .i64 a0_0,.float .f64 a0_1,.float .f64 a0_2]) (t:=24) ?hr ?_;(case hd => rfl);(case hg => rfl);(case hr => first|(go_simp;done)|(go_simp;rfl));intro G169 hg w27 hbox hb;have n0_:=Aside0.mk (below_step (by repeat (first|(with_reducible first|exact HB.1|apply bwA|apply bwN|apply bw1)|exact HB.1)) hb);have n1_:=Aside0.mk (hbox);have n2_:=Aside0.mk ((by rw [hg];exact (below_size (by repeat (first|(with_reducible first|exact HB.1|apply bwA|apply bwN|apply bw1)|exact HB.1))) : w.heap.size ≤ G169));have n3_:=Aside0.mk ((by rw [hg];exact (below_size (by repeat (first|(with_reducible first|exact HB.1|apply bwA|apply bwN|apply bw1)|exact HB.1))) : w.heap.size ≤ G169));clear HB;have HB:=n0_;have K169:=n1_;have GW169:=n2_;have GE169:=n3_;clear n0_ n1_ n2_ n3_;clear hb hbox hg)|((with_reducible refine gate_dst (N:=4) rfl ?_);refine box_event ?hg (N:=4) ?hd (cs:=#[.int .i64 0,.float .f64 0,.float .f64 0]) (t:=24) ?hr ?_;(case hd => rfl);(case hg => rfl);(case hr => first|(go_simp;done)|(go_simp;rfl));intro G170 hg w28 hbox hb;have n0_:=Aside0.mk (bB (g:=G169) (o:=.cells #[.int .i64 a0_0,.float .f64 a0_1,.float .f64 a0_2] 24 (0,0)) (by (with_reducible repeat first|apply bN|apply bD|apply bA);exact K169.1) hb);have n1_:=Aside0.mk (below_step (by repeat (first|(with_reducible first|exact HB.1|apply bwA|apply bwN|apply bw1|refine bS ?_ GE169.1)|exact HB.1)) hb);have n2_:=Aside0.mk (hbox);have n3_:=Aside0.mk ((by rw [hg];exact (below_size (by repeat (first|(with_reducible first|exact HB.1|apply bwA|apply bwN|apply bw1|refine bS ?_ GE169.1)|exact HB.1))) : w.heap.size ≤ G170));have n4_:=Aside0.mk ((by rw [hg];exact (below_size (by repeat (first|(with_reducible first|exact HB.1|apply bwA|apply bwN|apply bw1|refine bS ?_ GE169.1)|exact HB.1))) : w.heap.size ≤ G170));have n5_:=Aside0.mk ((by rw [hg];exact Nat.ne_of_lt (blk_lt (g:=G169) (o:=.cells #[.int .i64 a0_0,.float .f64 a0_1,.float .f64 a0_2] 24 (0,0)) (by (with_reducible repeat first|apply bN|apply bD|apply bA);exact K169.1)) : G169 ≠ G170));have n6_:=Aside0.mk ((by rw [hg];exact Nat.ne_of_gt (blk_lt (g:=G169) (o:=.cells #[.int .i64 a0_0,.float .f64 a0_1,.float .f64 a0_2] 24 (0,0)) (by (with_reducible repeat first|apply bN|apply bD|apply bA);exact K169.1)) : G170 ≠ G169));clear K169;clear HB;have K169:=n0_;have HB:=n1_;have K170:=n2_;have GW170:=n3_;have GE170:=n4_;have NB169_170:=n5_;have NB170_169:=n6_;clear n0_ n1_ n2_ n3_ n4_ n5_ n6_;clear hb hbox hg;have hnb29:=NB169_170.1;have hnc29:=NB170_169.1;have hcz30_0 : w28.cell? ⟨G169,0,none⟩ = some (.int .i64 a0_0):=(bC K169.1 0).trans rfl;have hcz30_1 : w28.cell? ⟨G169,1,none⟩ = some (.float .f64 a0_1):=(bC K169.1 1).trans rfl;have hcz30_2 : w28.cell? ⟨G169,2,none⟩ = some (.float .f64 a0_2):=(bC K169.1 2).trans rfl;have hfz30_0:=bF K169.1 0;have hfz30_1:=bF K169.1 1;have hfz30_2:=bF K169.1 2)|((with_reducible refine gate_callee (f:=13) rfl ?_);refine goesL_ (some 16) rfl rfl Try.func13 (by kernel_rfl) rfl #[.agg #[.int .i64 a0_0,.float .f64 a0_1,.float .f64 a0_2]] rfl (by (try simp only [List.map_toArray,List.map_cons,List.map_nil]);first|done|rfl|(simp only [List.length_drop,List.length_take];rfl)) ?_;(with_reducible refine (beaconref05_Check.calls k a0_0 a0_1 a0_2 t171 _ A3.out).mono ?_);rintro e w31 ⟨rfl,hb⟩;refine ⟨_,rfl,?_⟩;have n0_:=Aside0.mk (bB (g:=G169) (o:=.cells #[.int .i64 a0_0,.float .f64 a0_1,.float .f64 a0_2] 24 (0,0)) (by (with_reducible repeat first|apply bN|apply bD|apply bA);exact K169.1) hb);have n1_:=Aside0.mk (bB (g:=G170) (o:=.cells #[.int .i64 0,.float .f64 0,.float .f64 0] 24 (0,0)) (by (with_reducible repeat first|apply bN|apply bD|apply bA);exact K170.1) hb);have n2_:=Aside0.mk (below_step (by repeat (first|(with_reducible first|exact HB.1|apply bwA|apply bwN|apply bw1|refine bS ?_ GE169.1|refine bS ?_ GE170.1)|exact HB.1)) hb);clear K169;clear K170;clear HB;have K169:=n0_;have K170:=n1_;have HB:=n2_;clear n0_ n1_ n2_;(try clear hb);(try clear hb2);(try clear hk);(try clear hi))|((with_reducible refine gate_callee (f:=26) rfl ?_);refine goesL_ (some 23) rfl rfl Try.func26 (by kernel_rfl) rfl #[.float .f64 a1] rfl (by (try simp only [List.map_toArray,List.map_cons,List.map_nil]);first|done|rfl|(simp only [List.length_drop,List.length_take];rfl)) ?_;(with_reducible refine (beaconref05_sample.calls k a1 t172 true _ A5.out).mono ?_);rintro e w' ⟨rfl,⟨nd,rfl⟩⟩;refine ⟨_,rfl,?_⟩;(try (rw [drewN_self w31];generalize hq_ : World.drewN w31 _ = w31;have n0_ : Aside0 (w31.heap[G169]? = some (.cells #[.int .i64 a0_0,.float .f64 a0_1,.float .f64 a0_2] 24 (0,0))):=⟨by rw [← hq_];exact (by (with_reducible repeat first|apply bN|apply bD|apply bA);exact K169.1)⟩;have n1_ : Aside0 (w31.heap[G170]? = some (.cells #[.int .i64 0,.float .f64 0,.float .f64 0] 24 (0,0))):=⟨by rw [← hq_];exact (by (with_reducible repeat first|apply bN|apply bD|apply bA);exact K170.1)⟩;have n2_ : Aside0 (Below w.heap.size w w31):=⟨by rw [← hq_];exact (by repeat (first|(with_reducible first|exact HB.1|apply bwA|apply bwN|apply bw1|refine bS ?_ GE169.1|refine bS ?_ GE170.1)|exact HB.1))⟩;clear K169 K170 HB hq_;have K169:=n0_;have K170:=n1_;have HB:=n2_;clear n0_ n1_ n2_));have hcz32_0 : w31.cell? ⟨G169,0,none⟩ = some (.int .i64 a0_0):=(bC K169.1 0).trans rfl;have hcz32_1 : w31.cell? ⟨G169,1,none⟩ = some (.float .f64 a0_1):=(bC K169.1 1).trans rfl;have hcz32_2 : w31.cell? ⟨G169,2,none⟩ = some (.float .f64 a0_2):=(bC K169.1 2).trans rfl;have hfz32_0:=bF K169.1 0;have hfz32_1:=bF K169.1 1;have hfz32_2:=bF K169.1 2)|((with_reducible refine gate_dst (N:=9) rfl ?_);refine box_event ?hg (N:=9) ?hd (cs:=#[.int .i64 0,.float .f64 0,.float .f64 0]) (t:=24) ?hr ?_;(case hd => rfl);(case hg => rfl);(case hr => first|(go_simp;done)|(go_simp;rfl));intro G174 hg w33 hbox hb;have n0_:=Aside0.mk (bB (g:=G169) (o:=.cells #[.int .i64 a0_0,.float .f64 a0_1,.float .f64 a0_2] 24 (0,0)) (by (with_reducible repeat first|apply bN|apply bD|apply bA);exact K169.1) hb);have n1_:=Aside0.mk (bB (g:=G170) (o:=.cells #[.int .i64 0,.float .f64 0,.float .f64 0] 24 (0,0)) (by (with_reducible repeat first|apply bN|apply bD|apply bA);exact K170.1) hb);have n2_:=Aside0.mk (below_step (by repeat (first|(with_reducible first|exact HB.1|apply bwA|apply bwN|apply bw1|refine bS ?_ GE169.1|refine bS ?_ GE170.1)|exact HB.1)) hb);have n3_:=Aside0.mk (hbox);have n4_:=Aside0.mk ((by rw [hg];exact (below_size (by repeat (first|(with_reducible first|exact HB.1|apply bwA|apply bwN|apply bw1|refine bS ?_ GE169.1|refine bS ?_ GE170.1)|exact HB.1))) : w.heap.size ≤ G174));have n5_:=Aside0.mk ((by rw [hg];exact (below_size (by repeat (first|(with_reducible first|exact HB.1|apply bwA|apply bwN|apply bw1|refine bS ?_ GE169.1|refine bS ?_ GE170.1)|exact HB.1))) : w.heap.size ≤ G174));have n6_:=Aside0.mk ((by rw [hg];exact Nat.ne_of_lt (blk_lt (g:=G169) (o:=.cells #[.int .i64 a0_0,.float .f64 a0_1,.float .f64 a0_2] 24 (0,0)) (by (with_reducible repeat first|apply bN|apply bD|apply bA);exact K169.1)) : G169 ≠ G174));have n7_:=Aside0.mk ((by rw [hg];exact Nat.ne_of_gt (blk_lt (g:=G169) (o:=.cells #[.int .i64 a0_0,.float .f64 a0_1,.float .f64 a0_2] 24 (0,0)) (by (with_reducible repeat first|apply bN|apply bD|apply bA);exact K169.1)) : G174 ≠ G169));have n8_:=Aside0.mk ((by rw [hg];exact Nat.ne_of_lt (blk_lt (g:=G170) (o:=.cells #[.int .i64 0,.float .f64 0,.float .f64 0] 24 (0,0)) (by (with_reducible repeat first|apply bN|apply bD|apply bA);exact K170.1)) : G170 ≠ G174));have n9_:=Aside0.mk ((by rw [hg];exact Nat.ne_of_gt (blk_lt (g:=G170) (o:=.cells #[.int .i64 0,.float .f64 0,.float .f64 0] 24 (0,0)) (by (with_reducible repeat first|apply bN|apply bD|apply bA);exact K170.1)) : G174 ≠ G170));clear K169;clear K170;clear HB;have K169:=n0_;have K170:=n1_;have HB:=n2_;have K174:=n3_;have GW174:=n4_;have GE174:=n5_;have NB169_174:=n6_;have NB174_169:=n7_;have NB170_174:=n8_;have NB174_170:=n9_;clear n0_ n1_ n2_ n3_ n4_ n5_ n6_ n7_ n8_ n9_;clear hb hbox hg;have hnb34:=NB174_169.1;have hnc34:=NB169_174.1;have hnb35:=NB174_170.1;have hnc35:=NB170_174.1;have hcz36_0 : w33.cell? ⟨G174,0,none⟩ = some (.int .i64 0):=(bC K174.1 0).trans rfl;have hcz36_1 : w33.cell? ⟨G174,1,none⟩ = some (.float .f64 0):=(bC K174.1 1).trans rfl;have hcz36_2 : w33.cell? ⟨G174,2,none⟩ = some (.float .f64 0):=(bC K174.1 2).trans rfl;have hfz36_0:=bF K174.1 0;have hfz36_1:=bF K174.1 1;have hfz36_2:=bF K174.1 2)|((with_reducible refine gate_store (t:=24) (p:=9) rfl ?_);refine store_event (t:=24) (p:=9) (v:=?vo_w37) (w1:=(((w33.setCell ⟨G174,0,none⟩ (.int .i64 a0_0)).setCell ⟨G174,1,none⟩ (.float .f64 0)).setCell ⟨G174,2,none⟩ (.float .f64 0))) ?hg ?ho ?hn ?hr ?_;(case ho => rfl);(case hg => rfl);(case hn => rfl);(case hr => first|(go_simp;done)|(go_simp;rfl));intro w37 hw;have n0_ : Aside0 (w37.heap[G169]? = some (.cells #[.int .i64 a0_0,.float .f64 a0_1,.float .f64 a0_2] 24 (0,0))):=⟨(by rw [hw];exact (by (with_reducible repeat first|apply bN|apply bD|apply bA);refine bZ ?_ NB169_174.1 _;(with_reducible repeat first|apply bN|apply bD|apply bA);refine bZ ?_ NB169_174.1 _;(with_reducible repeat first|apply bN|apply bD|apply bA);refine bZ ?_ NB169_174.1 _;(with_reducible repeat first|apply bN|apply bD|apply bA);exact K169.1))⟩;have n1_ : Aside0 (w37.heap[G170]? = some (.cells #[.int .i64 0,.float .f64 0,.float .f64 0] 24 (0,0))):=⟨(by rw [hw];exact (by (with_reducible repeat first|apply bN|apply bD|apply bA);refine bZ ?_ NB170_174.1 _;(with_reducible repeat first|apply bN|apply bD|apply bA);refine bZ ?_ NB170_174.1 _;(with_reducible repeat first|apply bN|apply bD|apply bA);refine bZ ?_ NB170_174.1 _;(with_reducible repeat first|apply bN|apply bD|apply bA);exact K170.1))⟩;have n2_ : Aside0 (w37.heap[G174]? = some (.cells #[.int .i64 a0_0,.float .f64 0,.float .f64 0] 24 (0,0))):=⟨(by rw [hw];exact (by (with_reducible repeat first|apply bN|apply bD|apply bA);refine blk_put (cs:=#[.int .i64 a0_0,.float .f64 0,.float .f64 0]) ?_ 2 _ rfl;(with_reducible repeat first|apply bN|apply bD|apply bA);refine blk_put (cs:=#[.int .i64 a0_0,.float .f64 0,.float .f64 0]) ?_ 1 _ rfl;(with_reducible repeat first|apply bN|apply bD|apply bA);refine blk_put (cs:=#[.int .i64 0,.float .f64 0,.float .f64 0]) ?_ 0 _ rfl;(with_reducible repeat first|apply bN|apply bD|apply bA);exact K174.1))⟩;have n3_ : Aside0 (Below w.heap.size w w37):=⟨(by rw [hw];exact (by repeat (first|(with_reducible first|exact HB.1|apply bwA|apply bwN|apply bw1|refine bS ?_ GE169.1|refine bS ?_ GE170.1|refine bS ?_ GE174.1)|exact HB.1)))⟩;clear hw;clear K169;clear K170;clear K174;clear HB;have K169:=n0_;have K170:=n1_;have K174:=n2_;have HB:=n3_;clear n0_ n1_ n2_ n3_;have hcz38_0 : w37.cell? ⟨G169,0,none⟩ = some (.int .i64 a0_0):=(bC K169.1 0).trans rfl;have hcz38_1 : w37.cell? ⟨G169,1,none⟩ = some (.float .f64 a0_1):=(bC K169.1 1).trans rfl;have hcz38_2 : w37.cell? ⟨G169,2,none⟩ = some (.float .f64 a0_2):=(bC K169.1 2).trans rfl;have hfz38_0:=bF K169.1 0;have hfz38_1:=bF K169.1 1;have hfz38_2:=bF K169.1 2;have hcz39_0 : w37.cell? ⟨G174,0,none⟩ = some (.int .i64 a0_0):=(bC K174.1 0).trans rfl;have hcz39_1 : w37.cell? ⟨G174,1,none⟩ = some (.float .f64 0):=(bC K174.1 1).trans rfl;have hcz39_2 : w37.cell? ⟨G174,2,none⟩ = some (.float .f64 0):=(bC K174.1 2).trans rfl;have hfz39_0:=bF K174.1 0;have hfz39_1:=bF K174.1 1;have hfz39_2:=bF K174.1 2)|((with_reducible refine gate_store (t:=22) (p:=73) rfl ?_);refine store_event (t:=22) (p:=73) (v:=?vo_w40) (w1:=(((w37.setCell ⟨G174,0,none⟩ (.int .i64 (wrap64 (a0_0 + 1)))).setCell ⟨G174,2,none⟩ (.float .f64 (fadd (fmul 4604930618986332160 a0_2) (fmul 4598175219545276416 (fsub t172 a0_1))))).setCell ⟨G174,1,none⟩ (.float .f64 (fadd (fmul 4606056518893174784 a0_1) (fmul 4593671619917905920 t172))))) ?hg ?ho ?hn ?hr ?_;(case ho => rfl);(case hg => rfl);(case hn => rfl);(case hr => first|(go_simp;done)|(go_simp;rfl));intro w40 hw;have n0_ : Aside0 (w40.heap[G169]? = some (.cells #[.int .i64 a0_0,.float .f64 a0_1,.float .f64 a0_2] 24 (0,0))):=⟨(by rw [hw];exact (by (with_reducible repeat first|apply bN|apply bD|apply bA);refine bZ ?_ NB169_174.1 _;(with_reducible repeat first|apply bN|apply bD|apply bA);refine bZ ?_ NB169_174.1 _;(with_reducible repeat first|apply bN|apply bD|apply bA);refine bZ ?_ NB169_174.1 _;(with_reducible repeat first|apply bN|apply bD|apply bA);exact K169.1))⟩;have n1_ : Aside0 (w40.heap[G170]? = some (.cells #[.int .i64 0,.float .f64 0,.float .f64 0] 24 (0,0))):=⟨(by rw [hw];exact (by (with_reducible repeat first|apply bN|apply bD|apply bA);refine bZ ?_ NB170_174.1 _;(with_reducible repeat first|apply bN|apply bD|apply bA);refine bZ ?_ NB170_174.1 _;(with_reducible repeat first|apply bN|apply bD|apply bA);refine bZ ?_ NB170_174.1 _;(with_reducible repeat first|apply bN|apply bD|apply bA);exact K170.1))⟩;have n2_ : Aside0 (w40.heap[G174]? = some (.cells #[.int .i64 (wrap64 (a0_0 + 1)),.float .f64 (fadd (fmul 4606056518893174784 a0_1) (fmul 4593671619917905920 t172)),.float .f64 (fadd (fmul 4604930618986332160 a0_2) (fmul 4598175219545276416 (fsub t172 a0_1)))] 24 (0,0))):=⟨(by rw [hw];exact (by (with_reducible repeat first|apply bN|apply bD|apply bA);refine blk_put (cs:=#[.int .i64 (wrap64 (a0_0 + 1)),.float .f64 0,.float .f64 (fadd (fmul 4604930618986332160 a0_2) (fmul 4598175219545276416 (fsub t172 a0_1)))]) ?_ 1 _ rfl;(with_reducible repeat first|apply bN|apply bD|apply bA);refine blk_put (cs:=#[.int .i64 (wrap64 (a0_0 + 1)),.float .f64 0,.float .f64 0]) ?_ 2 _ rfl;(with_reducible repeat first|apply bN|apply bD|apply bA);refine blk_put (cs:=#[.int .i64 a0_0,.float .f64 0,.float .f64 0]) ?_ 0 _ rfl;(with_reducible repeat first|apply bN|apply bD|apply bA);exact K174.1))⟩;have n3_ : Aside0 (Below w.heap.size w w40):=⟨(by rw [hw];exact (by repeat (first|(with_reducible first|exact HB.1|apply bwA|apply bwN|apply bw1|refine bS ?_ GE169.1|refine bS ?_ GE170.1|refine bS ?_ GE174.1)|exact HB.1)))⟩;clear hw;clear K169;clear K170;clear K174;clear HB;have K169:=n0_;have K170:=n1_;have K174:=n2_;have HB:=n3_;clear n0_ n1_ n2_ n3_;have hcz41_0 : w40.cell? ⟨G174,0,none⟩ = some (.int .i64 (wrap64 (a0_0 + 1))):=(bC K174.1 0).trans rfl;have hcz41_1 : w40.cell? ⟨G174,1,none⟩ = some (.float .f64 (fadd (fmul 4606056518893174784 a0_1) (fmul 4593671619917905920 t172))):=(bC K174.1 1).trans rfl;have hcz41_2 : w40.cell? ⟨G174,2,none⟩ = some (.float .f64 (fadd (fmul 4604930618986332160 a0_2) (fmul 4598175219545276416 (fsub t172 a0_1)))):=(bC K174.1 2).trans rfl;have hfz41_0:=bF K174.1 0;have hfz41_1:=bF K174.1 1;have hfz41_2:=bF K174.1 2;have hcz42_0 : w40.cell? ⟨G170,0,none⟩ = some (.int .i64 0):=(bC K170.1 0).trans rfl;have hcz42_1 : w40.cell? ⟨G170,1,none⟩ = some (.float .f64 0):=(bC K170.1 1).trans rfl;have hcz42_2 : w40.cell? ⟨G170,2,none⟩ = some (.float .f64 0):=(bC K170.1 2).trans rfl;have hfz42_0:=bF K170.1 0;have hfz42_1:=bF K170.1 1;have hfz42_2:=bF K170.1 2)|((with_reducible refine gate_store (t:=24) (p:=4) rfl ?_);refine store_event (t:=24) (p:=4) (v:=?vo_w43) (w1:=(((w40.setCell ⟨G170,0,none⟩ (.int .i64 (wrap64 (a0_0 + 1)))).setCell ⟨G170,1,none⟩ (.float .f64 (fadd (fmul 4606056518893174784 a0_1) (fmul 4593671619917905920 t172)))).setCell ⟨G170,2,none⟩ (.float .f64 (fadd (fmul 4604930618986332160 a0_2) (fmul 4598175219545276416 (fsub t172 a0_1)))))) ?hg ?ho ?hn ?hr ?_;(case ho => rfl);(case hg => rfl);(case hn => rfl);(case hr => first|(go_simp;done)|(go_simp;rfl));intro w43 hw;have n0_ : Aside0 (w43.heap[G169]? = some (.cells #[.int .i64 a0_0,.float .f64 a0_1,.float .f64 a0_2] 24 (0,0))):=⟨(by rw [hw];exact (by (with_reducible repeat first|apply bN|apply bD|apply bA);refine bZ ?_ NB169_170.1 _;(with_reducible repeat first|apply bN|apply bD|apply bA);refine bZ ?_ NB169_170.1 _;(with_reducible repeat first|apply bN|apply bD|apply bA);refine bZ ?_ NB169_170.1 _;(with_reducible repeat first|apply bN|apply bD|apply bA);exact K169.1))⟩;have n1_ : Aside0 (w43.heap[G170]? = some (.cells #[.int .i64 (wrap64 (a0_0 + 1)),.float .f64 (fadd (fmul 4606056518893174784 a0_1) (fmul 4593671619917905920 t172)),.float .f64 (fadd (fmul 4604930618986332160 a0_2) (fmul 4598175219545276416 (fsub t172 a0_1)))] 24 (0,0))):=⟨(by rw [hw];exact (by (with_reducible repeat first|apply bN|apply bD|apply bA);refine blk_put (cs:=#[.int .i64 (wrap64 (a0_0 + 1)),.float .f64 (fadd (fmul 4606056518893174784 a0_1) (fmul 4593671619917905920 t172)),.float .f64 0]) ?_ 2 _ rfl;(with_reducible repeat first|apply bN|apply bD|apply bA);refine blk_put (cs:=#[.int .i64 (wrap64 (a0_0 + 1)),.float .f64 0,.float .f64 0]) ?_ 1 _ rfl;(with_reducible repeat first|apply bN|apply bD|apply bA);refine blk_put (cs:=#[.int .i64 0,.float .f64 0,.float .f64 0]) ?_ 0 _ rfl;(with_reducible repeat first|apply bN|apply bD|apply bA);exact K170.1))⟩;have n2_ : Aside0 (w43.heap[G174]? = some (.cells #[.int .i64 (wrap64 (a0_0 + 1)),.float .f64 (fadd (fmul 4606056518893174784 a0_1) (fmul 4593671619917905920 t172)),.float .f64 (fadd (fmul 4604930618986332160 a0_2) (fmul 4598175219545276416 (fsub t172 a0_1)))] 24 (0,0))):=⟨(by rw [hw];exact (by (with_reducible repeat first|apply bN|apply bD|apply bA);refine bZ ?_ NB174_170.1 _;(with_reducible repeat first|apply bN|apply bD|apply bA);refine bZ ?_ NB174_170.1 _;(with_reducible repeat first|apply bN|apply bD|apply bA);refine bZ ?_ NB174_170.1 _;(with_reducible repeat first|apply bN|apply bD|apply bA);exact K174.1))⟩;have n3_ : Aside0 (Below w.heap.size w w43):=⟨(by rw [hw];exact (by repeat (first|(with_reducible first|exact HB.1|apply bwA|apply bwN|apply bw1|refine bS ?_ GE169.1|refine bS ?_ GE170.1|refine bS ?_ GE174.1)|exact HB.1)))⟩;clear hw;clear K169;clear K170;clear K174;clear HB;have K169:=n0_;have K170:=n1_;have K174:=n2_;have HB:=n3_;clear n0_ n1_ n2_ n3_))
              refine bodyPost_ret (results_ct rfl _ _ G170 24 #[.int .i64 (wrap64 (a0_0 + 1)),.float .f64 (fadd (fmul 4606056518893174784 a0_1) (fmul 4593671619917905920 t172)),.float .f64 (fadd (fmul 4604930618986332160 a0_2) (fmul 4598175219545276416 (fsub t172 a0_1)))] (0,0) _ rfl (by (with_reducible repeat first|apply bN|apply bD|apply bA);exact K170.1) Try.underlying24 rfl (by kernel_rfl)) rfl ?_
              exact ⟨by first|rfl|(simp [errW_none,errW_some] <;> rfl)|(simp [*,errW_none,errW_some] <;> rfl),by repeat (first|(with_reducible first|exact HB.1|apply bwA|apply bwN|apply bw1|refine bS ?_ GE169.1|refine bS ?_ GE170.1|refine bS ?_ GE174.1)|exact HB.1)⟩
             ·rw [if_neg c26] at H
              exact absurd H (by simp)
            ·rw [if_neg c25] at H
             exact absurd H (by simp)
           ·rw [if_neg c24] at H
            exact absurd H (by simp)
          ·rw [if_neg c23] at H
           exact absurd H (by simp)
         ·rw [if_neg c22] at H
          exact absurd H (by simp)
        ·rw [if_neg c21] at H
         exact absurd H (by simp)
       ·rw [if_neg c20] at H
        exact absurd H (by simp)
      ·rw [if_neg c19] at H
       have c19b0 : (flt (fsub a0_1 t172) 0) = false:=by simpa using c19
       clear c19
       by_cases c44 : (fmulOk 4604930618986332160 a0_2) = true
       ·rw [if_pos c44] at H
        have c44b0:=eq_true c44
        have c44b1 : decide ((fmulOk 4604930618986332160 a0_2) = true) = true:=decide_eq_true c44
        clear c44
        by_cases c45 : (fmulOk 4598175219545276416 (fsub a0_1 t172)) = true
        ·rw [if_pos c45] at H
         have c45b0:=eq_true c45
         have c45b1 : decide ((fmulOk 4598175219545276416 (fsub a0_1 t172)) = true) = true:=decide_eq_true c45
         clear c45
         by_cases c46 : (faddOk (fmul 4604930618986332160 a0_2) (fmul 4598175219545276416 (fsub a0_1 t172))) = true
         ·rw [if_pos c46] at H
          have c46b0:=eq_true c46
          have c46b1 : decide ((faddOk (fmul 4604930618986332160 a0_2) (fmul 4598175219545276416 (fsub a0_1 t172))) = true) = true:=decide_eq_true c46
          clear c46
          by_cases c47 : (fmulOk 4606056518893174784 a0_1) = true
          ·rw [if_pos c47] at H
           have c47b0:=eq_true c47
           have c47b1 : decide ((fmulOk 4606056518893174784 a0_1) = true) = true:=decide_eq_true c47
           clear c47
           by_cases c48 : (fmulOk 4593671619917905920 t172) = true
           ·rw [if_pos c48] at H
            have c48b0:=eq_true c48
            have c48b1 : decide ((fmulOk 4593671619917905920 t172) = true) = true:=decide_eq_true c48
            clear c48
            by_cases c49 : (faddOk (fmul 4606056518893174784 a0_1) (fmul 4593671619917905920 t172)) = true
            ·rw [if_pos c49] at H
             have c49b0:=eq_true c49
             have c49b1 : decide ((faddOk (fmul 4606056518893174784 a0_1) (fmul 4593671619917905920 t172)) = true) = true:=decide_eq_true c49
             clear c49
             simp only [Option.some.injEq,Prod.mk.injEq] at H
             obtain ⟨rfl,rfl,rfl,rfl⟩:=H
             go_enter Try.func10,Try.ntmps10
             go_wp2_with (first|((with_reducible refine gate_dst (N:=2) rfl ?_);refine box_event ?hg (N:=2) ?hd (cs:=#[.int .i64 a0_0,.float .f64 a0_1,.float .f64 a0_2]) (t:=24) ?hr ?_;(case hd => rfl);(case hg => rfl);(case hr => first|(go_simp;done)|(go_simp;rfl));intro G169 hg w50 hbox hb;have n0_:=Aside0.mk (below_step (by repeat (first|(with_reducible first|exact HB.1|apply bwA|apply bwN|apply bw1)|exact HB.1)) hb);have n1_:=Aside0.mk (hbox);have n2_:=Aside0.mk ((by rw [hg];exact (below_size (by repeat (first|(with_reducible first|exact HB.1|apply bwA|apply bwN|apply bw1)|exact HB.1))) : w.heap.size ≤ G169));have n3_:=Aside0.mk ((by rw [hg];exact (below_size (by repeat (first|(with_reducible first|exact HB.1|apply bwA|apply bwN|apply bw1)|exact HB.1))) : w.heap.size ≤ G169));clear HB;have HB:=n0_;have K169:=n1_;have GW169:=n2_;have GE169:=n3_;clear n0_ n1_ n2_ n3_;clear hb hbox hg)|((with_reducible refine gate_dst (N:=4) rfl ?_);refine box_event ?hg (N:=4) ?hd (cs:=#[.int .i64 0,.float .f64 0,.float .f64 0]) (t:=24) ?hr ?_;(case hd => rfl);(case hg => rfl);(case hr => first|(go_simp;done)|(go_simp;rfl));intro G170 hg w51 hbox hb;have n0_:=Aside0.mk (bB (g:=G169) (o:=.cells #[.int .i64 a0_0,.float .f64 a0_1,.float .f64 a0_2] 24 (0,0)) (by (with_reducible repeat first|apply bN|apply bD|apply bA);exact K169.1) hb);have n1_:=Aside0.mk (below_step (by repeat (first|(with_reducible first|exact HB.1|apply bwA|apply bwN|apply bw1|refine bS ?_ GE169.1)|exact HB.1)) hb);have n2_:=Aside0.mk (hbox);have n3_:=Aside0.mk ((by rw [hg];exact (below_size (by repeat (first|(with_reducible first|exact HB.1|apply bwA|apply bwN|apply bw1|refine bS ?_ GE169.1)|exact HB.1))) : w.heap.size ≤ G170));have n4_:=Aside0.mk ((by rw [hg];exact (below_size (by repeat (first|(with_reducible first|exact HB.1|apply bwA|apply bwN|apply bw1|refine bS ?_ GE169.1)|exact HB.1))) : w.heap.size ≤ G170));have n5_:=Aside0.mk ((by rw [hg];exact Nat.ne_of_lt (blk_lt (g:=G169) (o:=.cells #[.int .i64 a0_0,.float .f64 a0_1,.float .f64 a0_2] 24 (0,0)) (by (with_reducible repeat first|apply bN|apply bD|apply bA);exact K169.1)) : G169 ≠ G170));have n6_:=Aside0.mk ((by rw [hg];exact Nat.ne_of_gt (blk_lt (g:=G169) (o:=.cells #[.int .i64 a0_0,.float .f64 a0_1,.float .f64 a0_2] 24 (0,0)) (by (with_reducible repeat first|apply bN|apply bD|apply bA);exact K169.1)) : G170 ≠ G169));clear K169;clear HB;have K169:=n0_;have HB:=n1_;have K170:=n2_;have GW170:=n3_;have GE170:=n4_;have NB169_170:=n5_;have NB170_169:=n6_;clear n0_ n1_ n2_ n3_ n4_ n5_ n6_;clear hb hbox hg;have hnb52:=NB169_170.1;have hnc52:=NB170_169.1;have hcz53_0 : w51.cell? ⟨G169,0,none⟩ = some (.int .i64 a0_0):=(bC K169.1 0).trans rfl;have hcz53_1 : w51.cell? ⟨G169,1,none⟩ = some (.float .f64 a0_1):=(bC K169.1 1).trans rfl;have hcz53_2 : w51.cell? ⟨G169,2,none⟩ = some (.float .f64 a0_2):=(bC K169.1 2).trans rfl;have hfz53_0:=bF K169.1 0;have hfz53_1:=bF K169.1 1;have hfz53_2:=bF K169.1 2)|((with_reducible refine gate_callee (f:=13) rfl ?_);refine goesL_ (some 16) rfl rfl Try.func13 (by kernel_rfl) rfl #[.agg #[.int .i64 a0_0,.float .f64 a0_1,.float .f64 a0_2]] rfl (by (try simp only [List.map_toArray,List.map_cons,List.map_nil]);first|done|rfl|(simp only [List.length_drop,List.length_take];rfl)) ?_;(with_reducible refine (beaconref05_Check.calls k a0_0 a0_1 a0_2 t171 _ A3.out).mono ?_);rintro e w54 ⟨rfl,hb⟩;refine ⟨_,rfl,?_⟩;have n0_:=Aside0.mk (bB (g:=G169) (o:=.cells #[.int .i64 a0_0,.float .f64 a0_1,.float .f64 a0_2] 24 (0,0)) (by (with_reducible repeat first|apply bN|apply bD|apply bA);exact K169.1) hb);have n1_:=Aside0.mk (bB (g:=G170) (o:=.cells #[.int .i64 0,.float .f64 0,.float .f64 0] 24 (0,0)) (by (with_reducible repeat first|apply bN|apply bD|apply bA);exact K170.1) hb);have n2_:=Aside0.mk (below_step (by repeat (first|(with_reducible first|exact HB.1|apply bwA|apply bwN|apply bw1|refine bS ?_ GE169.1|refine bS ?_ GE170.1)|exact HB.1)) hb);clear K169;clear K170;clear HB;have K169:=n0_;have K170:=n1_;have HB:=n2_;clear n0_ n1_ n2_;(try clear hb);(try clear hb2);(try clear hk);(try clear hi))|((with_reducible refine gate_callee (f:=26) rfl ?_);refine goesL_ (some 23) rfl rfl Try.func26 (by kernel_rfl) rfl #[.float .f64 a1] rfl (by (try simp only [List.map_toArray,List.map_cons,List.map_nil]);first|done|rfl|(simp only [List.length_drop,List.length_take];rfl)) ?_;(with_reducible refine (beaconref05_sample.calls k a1 t172 true _ A5.out).mono ?_);rintro e w' ⟨rfl,⟨nd,rfl⟩⟩;refine ⟨_,rfl,?_⟩;(try (rw [drewN_self w54];generalize hq_ : World.drewN w54 _ = w54;have n0_ : Aside0 (w54.heap[G169]? = some (.cells #[.int .i64 a0_0,.float .f64 a0_1,.float .f64 a0_2] 24 (0,0))):=⟨by rw [← hq_];exact (by (with_reducible repeat first|apply bN|apply bD|apply bA);exact K169.1)⟩;have n1_ : Aside0 (w54.heap[G170]? = some (.cells #[.int .i64 0,.float .f64 0,.float .f64 0] 24 (0,0))):=⟨by rw [← hq_];exact (by (with_reducible repeat first|apply bN|apply bD|apply bA);exact K170.1)⟩;have n2_ : Aside0 (Below w.heap.size w w54):=⟨by rw [← hq_];exact (by repeat (first|(with_reducible first|exact HB.1|apply bwA|apply bwN|apply bw1|refine bS ?_ GE169.1|refine bS ?_ GE170.1)|exact HB.1))⟩;clear K169 K170 HB hq_;have K169:=n0_;have K170:=n1_;have HB:=n2_;clear n0_ n1_ n2_));have hcz55_0 : w54.cell? ⟨G169,0,none⟩ = some (.int .i64 a0_0):=(bC K169.1 0).trans rfl;have hcz55_1 : w54.cell? ⟨G169,1,none⟩ = some (.float .f64 a0_1):=(bC K169.1 1).trans rfl;have hcz55_2 : w54.cell? ⟨G169,2,none⟩ = some (.float .f64 a0_2):=(bC K169.1 2).trans rfl;have hfz55_0:=bF K169.1 0;have hfz55_1:=bF K169.1 1;have hfz55_2:=bF K169.1 2)|((with_reducible refine gate_dst (N:=9) rfl ?_);refine box_event ?hg (N:=9) ?hd (cs:=#[.int .i64 0,.float .f64 0,.float .f64 0]) (t:=24) ?hr ?_;(case hd => rfl);(case hg => rfl);(case hr => first|(go_simp;done)|(go_simp;rfl));intro G174 hg w56 hbox hb;have n0_:=Aside0.mk (bB (g:=G169) (o:=.cells #[.int .i64 a0_0,.float .f64 a0_1,.float .f64 a0_2] 24 (0,0)) (by (with_reducible repeat first|apply bN|apply bD|apply bA);exact K169.1) hb);have n1_:=Aside0.mk (bB (g:=G170) (o:=.cells #[.int .i64 0,.float .f64 0,.float .f64 0] 24 (0,0)) (by (with_reducible repeat first|apply bN|apply bD|apply bA);exact K170.1) hb);have n2_:=Aside0.mk (below_step (by repeat (first|(with_reducible first|exact HB.1|apply bwA|apply bwN|apply bw1|refine bS ?_ GE169.1|refine bS ?_ GE170.1)|exact HB.1)) hb);have n3_:=Aside0.mk (hbox);have n4_:=Aside0.mk ((by rw [hg];exact (below_size (by repeat (first|(with_reducible first|exact HB.1|apply bwA|apply bwN|apply bw1|refine bS ?_ GE169.1|refine bS ?_ GE170.1)|exact HB.1))) : w.heap.size ≤ G174));have n5_:=Aside0.mk ((by rw [hg];exact (below_size (by repeat (first|(with_reducible first|exact HB.1|apply bwA|apply bwN|apply bw1|refine bS ?_ GE169.1|refine bS ?_ GE170.1)|exact HB.1))) : w.heap.size ≤ G174));have n6_:=Aside0.mk ((by rw [hg];exact Nat.ne_of_lt (blk_lt (g:=G169) (o:=.cells #[.int .i64 a0_0,.float .f64 a0_1,.float .f64 a0_2] 24 (0,0)) (by (with_reducible repeat first|apply bN|apply bD|apply bA);exact K169.1)) : G169 ≠ G174));have n7_:=Aside0.mk ((by rw [hg];exact Nat.ne_of_gt (blk_lt (g:=G169) (o:=.cells #[.int .i64 a0_0,.float .f64 a0_1,.float .f64 a0_2] 24 (0,0)) (by (with_reducible repeat first|apply bN|apply bD|apply bA);exact K169.1)) : G174 ≠ G169));have n8_:=Aside0.mk ((by rw [hg];exact Nat.ne_of_lt (blk_lt (g:=G170) (o:=.cells #[.int .i64 0,.float .f64 0,.float .f64 0] 24 (0,0)) (by (with_reducible repeat first|apply bN|apply bD|apply bA);exact K170.1)) : G170 ≠ G174));have n9_:=Aside0.mk ((by rw [hg];exact Nat.ne_of_gt (blk_lt (g:=G170) (o:=.cells #[.int .i64 0,.float .f64 0,.float .f64 0] 24 (0,0)) (by (with_reducible repeat first|apply bN|apply bD|apply bA);exact K170.1)) : G174 ≠ G170));clear K169;clear K170;clear HB;have K169:=n0_;have K170:=n1_;have HB:=n2_;have K174:=n3_;have GW174:=n4_;have GE174:=n5_;have NB169_174:=n6_;have NB174_169:=n7_;have NB170_174:=n8_;have NB174_170:=n9_;clear n0_ n1_ n2_ n3_ n4_ n5_ n6_ n7_ n8_ n9_;clear hb hbox hg;have hnb57:=NB174_169.1;have hnc57:=NB169_174.1;have hnb58:=NB174_170.1;have hnc58:=NB170_174.1;have hcz59_0 : w56.cell? ⟨G174,0,none⟩ = some (.int .i64 0):=(bC K174.1 0).trans rfl;have hcz59_1 : w56.cell? ⟨G174,1,none⟩ = some (.float .f64 0):=(bC K174.1 1).trans rfl;have hcz59_2 : w56.cell? ⟨G174,2,none⟩ = some (.float .f64 0):=(bC K174.1 2).trans rfl;have hfz59_0:=bF K174.1 0;have hfz59_1:=bF K174.1 1;have hfz59_2:=bF K174.1 2)|((with_reducible refine gate_store (t:=24) (p:=9) rfl ?_);refine store_event (t:=24) (p:=9) (v:=?vo_w60) (w1:=(((w56.setCell ⟨G174,0,none⟩ (.int .i64 a0_0)).setCell ⟨G174,1,none⟩ (.float .f64 0)).setCell ⟨G174,2,none⟩ (.float .f64 0))) ?hg ?ho ?hn ?hr ?_;(case ho => rfl);(case hg => rfl);(case hn => rfl);(case hr => first|(go_simp;done)|(go_simp;rfl));intro w60 hw;have n0_ : Aside0 (w60.heap[G169]? = some (.cells #[.int .i64 a0_0,.float .f64 a0_1,.float .f64 a0_2] 24 (0,0))):=⟨(by rw [hw];exact (by (with_reducible repeat first|apply bN|apply bD|apply bA);refine bZ ?_ NB169_174.1 _;(with_reducible repeat first|apply bN|apply bD|apply bA);refine bZ ?_ NB169_174.1 _;(with_reducible repeat first|apply bN|apply bD|apply bA);refine bZ ?_ NB169_174.1 _;(with_reducible repeat first|apply bN|apply bD|apply bA);exact K169.1))⟩;have n1_ : Aside0 (w60.heap[G170]? = some (.cells #[.int .i64 0,.float .f64 0,.float .f64 0] 24 (0,0))):=⟨(by rw [hw];exact (by (with_reducible repeat first|apply bN|apply bD|apply bA);refine bZ ?_ NB170_174.1 _;(with_reducible repeat first|apply bN|apply bD|apply bA);refine bZ ?_ NB170_174.1 _;(with_reducible repeat first|apply bN|apply bD|apply bA);refine bZ ?_ NB170_174.1 _;(with_reducible repeat first|apply bN|apply bD|apply bA);exact K170.1))⟩;have n2_ : Aside0 (w60.heap[G174]? = some (.cells #[.int .i64 a0_0,.float .f64 0,.float .f64 0] 24 (0,0))):=⟨(by rw [hw];exact (by (with_reducible repeat first|apply bN|apply bD|apply bA);refine blk_put (cs:=#[.int .i64 a0_0,.float .f64 0,.float .f64 0]) ?_ 2 _ rfl;(with_reducible repeat first|apply bN|apply bD|apply bA);refine blk_put (cs:=#[.int .i64 a0_0,.float .f64 0,.float .f64 0]) ?_ 1 _ rfl;(with_reducible repeat first|apply bN|apply bD|apply bA);refine blk_put (cs:=#[.int .i64 0,.float .f64 0,.float .f64 0]) ?_ 0 _ rfl;(with_reducible repeat first|apply bN|apply bD|apply bA);exact K174.1))⟩;have n3_ : Aside0 (Below w.heap.size w w60):=⟨(by rw [hw];exact (by repeat (first|(with_reducible first|exact HB.1|apply bwA|apply bwN|apply bw1|refine bS ?_ GE169.1|refine bS ?_ GE170.1|refine bS ?_ GE174.1)|exact HB.1)))⟩;clear hw;clear K169;clear K170;clear K174;clear HB;have K169:=n0_;have K170:=n1_;have K174:=n2_;have HB:=n3_;clear n0_ n1_ n2_ n3_;have hcz61_0 : w60.cell? ⟨G169,0,none⟩ = some (.int .i64 a0_0):=(bC K169.1 0).trans rfl;have hcz61_1 : w60.cell? ⟨G169,1,none⟩ = some (.float .f64 a0_1):=(bC K169.1 1).trans rfl;have hcz61_2 : w60.cell? ⟨G169,2,none⟩ = some (.float .f64 a0_2):=(bC K169.1 2).trans rfl;have hfz61_0:=bF K169.1 0;have hfz61_1:=bF K169.1 1;have hfz61_2:=bF K169.1 2;have hcz62_0 : w60.cell? ⟨G174,0,none⟩ = some (.int .i64 a0_0):=(bC K174.1 0).trans rfl;have hcz62_1 : w60.cell? ⟨G174,1,none⟩ = some (.float .f64 0):=(bC K174.1 1).trans rfl;have hcz62_2 : w60.cell? ⟨G174,2,none⟩ = some (.float .f64 0):=(bC K174.1 2).trans rfl;have hfz62_0:=bF K174.1 0;have hfz62_1:=bF K174.1 1;have hfz62_2:=bF K174.1 2)|((with_reducible refine gate_store (t:=22) (p:=73) rfl ?_);refine store_event (t:=22) (p:=73) (v:=?vo_w63) (w1:=(((w60.setCell ⟨G174,0,none⟩ (.int .i64 (wrap64 (a0_0 + 1)))).setCell ⟨G174,2,none⟩ (.float .f64 (fadd (fmul 4604930618986332160 a0_2) (fmul 4598175219545276416 (fsub a0_1 t172))))).setCell ⟨G174,1,none⟩ (.float .f64 (fadd (fmul 4606056518893174784 a0_1) (fmul 4593671619917905920 t172))))) ?hg ?ho ?hn ?hr ?_;(case ho => rfl);(case hg => rfl);(case hn => rfl);(case hr => first|(go_simp;done)|(go_simp;rfl));intro w63 hw;have n0_ : Aside0 (w63.heap[G169]? = some (.cells #[.int .i64 a0_0,.float .f64 a0_1,.float .f64 a0_2] 24 (0,0))):=⟨(by rw [hw];exact (by (with_reducible repeat first|apply bN|apply bD|apply bA);refine bZ ?_ NB169_174.1 _;(with_reducible repeat first|apply bN|apply bD|apply bA);refine bZ ?_ NB169_174.1 _;(with_reducible repeat first|apply bN|apply bD|apply bA);refine bZ ?_ NB169_174.1 _;(with_reducible repeat first|apply bN|apply bD|apply bA);exact K169.1))⟩;have n1_ : Aside0 (w63.heap[G170]? = some (.cells #[.int .i64 0,.float .f64 0,.float .f64 0] 24 (0,0))):=⟨(by rw [hw];exact (by (with_reducible repeat first|apply bN|apply bD|apply bA);refine bZ ?_ NB170_174.1 _;(with_reducible repeat first|apply bN|apply bD|apply bA);refine bZ ?_ NB170_174.1 _;(with_reducible repeat first|apply bN|apply bD|apply bA);refine bZ ?_ NB170_174.1 _;(with_reducible repeat first|apply bN|apply bD|apply bA);exact K170.1))⟩;have n2_ : Aside0 (w63.heap[G174]? = some (.cells #[.int .i64 (wrap64 (a0_0 + 1)),.float .f64 (fadd (fmul 4606056518893174784 a0_1) (fmul 4593671619917905920 t172)),.float .f64 (fadd (fmul 4604930618986332160 a0_2) (fmul 4598175219545276416 (fsub a0_1 t172)))] 24 (0,0))):=⟨(by rw [hw];exact (by (with_reducible repeat first|apply bN|apply bD|apply bA);refine blk_put (cs:=#[.int .i64 (wrap64 (a0_0 + 1)),.float .f64 0,.float .f64 (fadd (fmul 4604930618986332160 a0_2) (fmul 4598175219545276416 (fsub a0_1 t172)))]) ?_ 1 _ rfl;(with_reducible repeat first|apply bN|apply bD|apply bA);refine blk_put (cs:=#[.int .i64 (wrap64 (a0_0 + 1)),.float .f64 0,.float .f64 0]) ?_ 2 _ rfl;(with_reducible repeat first|apply bN|apply bD|apply bA);refine blk_put (cs:=#[.int .i64 a0_0,.float .f64 0,.float .f64 0]) ?_ 0 _ rfl;(with_reducible repeat first|apply bN|apply bD|apply bA);exact K174.1))⟩;have n3_ : Aside0 (Below w.heap.size w w63):=⟨(by rw [hw];exact (by repeat (first|(with_reducible first|exact HB.1|apply bwA|apply bwN|apply bw1|refine bS ?_ GE169.1|refine bS ?_ GE170.1|refine bS ?_ GE174.1)|exact HB.1)))⟩;clear hw;clear K169;clear K170;clear K174;clear HB;have K169:=n0_;have K170:=n1_;have K174:=n2_;have HB:=n3_;clear n0_ n1_ n2_ n3_;have hcz64_0 : w63.cell? ⟨G174,0,none⟩ = some (.int .i64 (wrap64 (a0_0 + 1))):=(bC K174.1 0).trans rfl;have hcz64_1 : w63.cell? ⟨G174,1,none⟩ = some (.float .f64 (fadd (fmul 4606056518893174784 a0_1) (fmul 4593671619917905920 t172))):=(bC K174.1 1).trans rfl;have hcz64_2 : w63.cell? ⟨G174,2,none⟩ = some (.float .f64 (fadd (fmul 4604930618986332160 a0_2) (fmul 4598175219545276416 (fsub a0_1 t172)))):=(bC K174.1 2).trans rfl;have hfz64_0:=bF K174.1 0;have hfz64_1:=bF K174.1 1;have hfz64_2:=bF K174.1 2;have hcz65_0 : w63.cell? ⟨G170,0,none⟩ = some (.int .i64 0):=(bC K170.1 0).trans rfl;have hcz65_1 : w63.cell? ⟨G170,1,none⟩ = some (.float .f64 0):=(bC K170.1 1).trans rfl;have hcz65_2 : w63.cell? ⟨G170,2,none⟩ = some (.float .f64 0):=(bC K170.1 2).trans rfl;have hfz65_0:=bF K170.1 0;have hfz65_1:=bF K170.1 1;have hfz65_2:=bF K170.1 2)|((with_reducible refine gate_store (t:=24) (p:=4) rfl ?_);refine store_event (t:=24) (p:=4) (v:=?vo_w66) (w1:=(((w63.setCell ⟨G170,0,none⟩ (.int .i64 (wrap64 (a0_0 + 1)))).setCell ⟨G170,1,none⟩ (.float .f64 (fadd (fmul 4606056518893174784 a0_1) (fmul 4593671619917905920 t172)))).setCell ⟨G170,2,none⟩ (.float .f64 (fadd (fmul 4604930618986332160 a0_2) (fmul 4598175219545276416 (fsub a0_1 t172)))))) ?hg ?ho ?hn ?hr ?_;(case ho => rfl);(case hg => rfl);(case hn => rfl);(case hr => first|(go_simp;done)|(go_simp;rfl));intro w66 hw;have n0_ : Aside0 (w66.heap[G169]? = some (.cells #[.int .i64 a0_0,.float .f64 a0_1,.float .f64 a0_2] 24 (0,0))):=⟨(by rw [hw];exact (by (with_reducible repeat first|apply bN|apply bD|apply bA);refine bZ ?_ NB169_170.1 _;(with_reducible repeat first|apply bN|apply bD|apply bA);refine bZ ?_ NB169_170.1 _;(with_reducible repeat first|apply bN|apply bD|apply bA);refine bZ ?_ NB169_170.1 _;(with_reducible repeat first|apply bN|apply bD|apply bA);exact K169.1))⟩;have n1_ : Aside0 (w66.heap[G170]? = some (.cells #[.int .i64 (wrap64 (a0_0 + 1)),.float .f64 (fadd (fmul 4606056518893174784 a0_1) (fmul 4593671619917905920 t172)),.float .f64 (fadd (fmul 4604930618986332160 a0_2) (fmul 4598175219545276416 (fsub a0_1 t172)))] 24 (0,0))):=⟨(by rw [hw];exact (by (with_reducible repeat first|apply bN|apply bD|apply bA);refine blk_put (cs:=#[.int .i64 (wrap64 (a0_0 + 1)),.float .f64 (fadd (fmul 4606056518893174784 a0_1) (fmul 4593671619917905920 t172)),.float .f64 0]) ?_ 2 _ rfl;(with_reducible repeat first|apply bN|apply bD|apply bA);refine blk_put (cs:=#[.int .i64 (wrap64 (a0_0 + 1)),.float .f64 0,.float .f64 0]) ?_ 1 _ rfl;(with_reducible repeat first|apply bN|apply bD|apply bA);refine blk_put (cs:=#[.int .i64 0,.float .f64 0,.float .f64 0]) ?_ 0 _ rfl;(with_reducible repeat first|apply bN|apply bD|apply bA);exact K170.1))⟩;have n2_ : Aside0 (w66.heap[G174]? = some (.cells #[.int .i64 (wrap64 (a0_0 + 1)),.float .f64 (fadd (fmul 4606056518893174784 a0_1) (fmul 4593671619917905920 t172)),.float .f64 (fadd (fmul 4604930618986332160 a0_2) (fmul 4598175219545276416 (fsub a0_1 t172)))] 24 (0,0))):=⟨(by rw [hw];exact (by (with_reducible repeat first|apply bN|apply bD|apply bA);refine bZ ?_ NB174_170.1 _;(with_reducible repeat first|apply bN|apply bD|apply bA);refine bZ ?_ NB174_170.1 _;(with_reducible repeat first|apply bN|apply bD|apply bA);refine bZ ?_ NB174_170.1 _;(with_reducible repeat first|apply bN|apply bD|apply bA);exact K174.1))⟩;have n3_ : Aside0 (Below w.heap.size w w66):=⟨(by rw [hw];exact (by repeat (first|(with_reducible first|exact HB.1|apply bwA|apply bwN|apply bw1|refine bS ?_ GE169.1|refine bS ?_ GE170.1|refine bS ?_ GE174.1)|exact HB.1)))⟩;clear hw;clear K169;clear K170;clear K174;clear HB;have K169:=n0_;have K170:=n1_;have K174:=n2_;have HB:=n3_;clear n0_ n1_ n2_ n3_))
             refine bodyPost_ret (results_ct rfl _ _ G170 24 #[.int .i64 (wrap64 (a0_0 + 1)),.float .f64 (fadd (fmul 4606056518893174784 a0_1) (fmul 4593671619917905920 t172)),.float .f64 (fadd (fmul 4604930618986332160 a0_2) (fmul 4598175219545276416 (fsub a0_1 t172)))] (0,0) _ rfl (by (with_reducible repeat first|apply bN|apply bD|apply bA);exact K170.1) Try.underlying24 rfl (by kernel_rfl)) rfl ?_
             exact ⟨by first|rfl|(simp [errW_none,errW_some] <;> rfl)|(simp [*,errW_none,errW_some] <;> rfl),by repeat (first|(with_reducible first|exact HB.1|apply bwA|apply bwN|apply bw1|refine bS ?_ GE169.1|refine bS ?_ GE170.1|refine bS ?_ GE174.1)|exact HB.1)⟩
            ·rw [if_neg c49] at H
             exact absurd H (by simp)
           ·rw [if_neg c48] at H
            exact absurd H (by simp)
          ·rw [if_neg c47] at H
           exact absurd H (by simp)
         ·rw [if_neg c46] at H
          exact absurd H (by simp)
        ·rw [if_neg c45] at H
         exact absurd H (by simp)
       ·rw [if_neg c44] at H
        exact absurd H (by simp)
     ·rw [if_neg c18] at H
      exact absurd H (by simp)
    ·rw [if_neg c17] at H
     have c17b0 : decide (a0_0 < 9223372036854775807) = false:=decide_eq_false c17
     clear c17
     by_cases c67 : (fsubOk a0_1 t172) = true
     ·rw [if_pos c67] at H
      have c67b0:=eq_true c67
      have c67b1 : decide ((fsubOk a0_1 t172) = true) = true:=decide_eq_true c67
      clear c67
      by_cases c68 : (flt (fsub a0_1 t172) 0) = true
      ·rw [if_pos c68] at H
       have c68b0 : (flt (fsub a0_1 t172) 0) = true:=c68
       clear c68
       by_cases c69 : (fsubOk t172 a0_1) = true
       ·rw [if_pos c69] at H
        have c69b0:=eq_true c69
        have c69b1 : decide ((fsubOk t172 a0_1) = true) = true:=decide_eq_true c69
        clear c69
        by_cases c70 : (fmulOk 4604930618986332160 a0_2) = true
        ·rw [if_pos c70] at H
         have c70b0:=eq_true c70
         have c70b1 : decide ((fmulOk 4604930618986332160 a0_2) = true) = true:=decide_eq_true c70
         clear c70
         by_cases c71 : (fmulOk 4598175219545276416 (fsub t172 a0_1)) = true
         ·rw [if_pos c71] at H
          have c71b0:=eq_true c71
          have c71b1 : decide ((fmulOk 4598175219545276416 (fsub t172 a0_1)) = true) = true:=decide_eq_true c71
          clear c71
          by_cases c72 : (faddOk (fmul 4604930618986332160 a0_2) (fmul 4598175219545276416 (fsub t172 a0_1))) = true
          ·rw [if_pos c72] at H
           have c72b0:=eq_true c72
           have c72b1 : decide ((faddOk (fmul 4604930618986332160 a0_2) (fmul 4598175219545276416 (fsub t172 a0_1))) = true) = true:=decide_eq_true c72
           clear c72
           by_cases c73 : (fmulOk 4606056518893174784 a0_1) = true
           ·rw [if_pos c73] at H
            have c73b0:=eq_true c73
            have c73b1 : decide ((fmulOk 4606056518893174784 a0_1) = true) = true:=decide_eq_true c73
            clear c73
            by_cases c74 : (fmulOk 4593671619917905920 t172) = true
            ·rw [if_pos c74] at H
             have c74b0:=eq_true c74
             have c74b1 : decide ((fmulOk 4593671619917905920 t172) = true) = true:=decide_eq_true c74
             clear c74
             by_cases c75 : (faddOk (fmul 4606056518893174784 a0_1) (fmul 4593671619917905920 t172)) = true
             ·rw [if_pos c75] at H
              have c75b0:=eq_true c75
              have c75b1 : decide ((faddOk (fmul 4606056518893174784 a0_1) (fmul 4593671619917905920 t172)) = true) = true:=decide_eq_true c75
              clear c75
              simp only [Option.some.injEq,Prod.mk.injEq] at H
              obtain ⟨rfl,rfl,rfl,rfl⟩:=H
              go_enter Try.func10,Try.ntmps10
              go_wp2_with (first|((with_reducible refine gate_dst (N:=2) rfl ?_);refine box_event ?hg (N:=2) ?hd (cs:=#[.int .i64 a0_0,.float .f64 a0_1,.float .f64 a0_2]) (t:=24) ?hr ?_;(case hd => rfl);(case hg => rfl);(case hr => first|(go_simp;done)|(go_simp;rfl));intro G169 hg w76 hbox hb;have n0_:=Aside0.mk (below_step (by repeat (first|(with_reducible first|exact HB.1|apply bwA|apply bwN|apply bw1)|exact HB.1)) hb);have n1_:=Aside0.mk (hbox);have n2_:=Aside0.mk ((by rw [hg];exact (below_size (by repeat (first|(with_reducible first|exact HB.1|apply bwA|apply bwN|apply bw1)|exact HB.1))) : w.heap.size ≤ G169));have n3_:=Aside0.mk ((by rw [hg];exact (below_size (by repeat (first|(with_reducible first|exact HB.1|apply bwA|apply bwN|apply bw1)|exact HB.1))) : w.heap.size ≤ G169));clear HB;have HB:=n0_;have K169:=n1_;have GW169:=n2_;have GE169:=n3_;clear n0_ n1_ n2_ n3_;clear hb hbox hg)|((with_reducible refine gate_dst (N:=4) rfl ?_);refine box_event ?hg (N:=4) ?hd (cs:=#[.int .i64 0,.float .f64 0,.float .f64 0]) (t:=24) ?hr ?_;(case hd => rfl);(case hg => rfl);(case hr => first|(go_simp;done)|(go_simp;rfl));intro G170 hg w77 hbox hb;have n0_:=Aside0.mk (bB (g:=G169) (o:=.cells #[.int .i64 a0_0,.float .f64 a0_1,.float .f64 a0_2] 24 (0,0)) (by (with_reducible repeat first|apply bN|apply bD|apply bA);exact K169.1) hb);have n1_:=Aside0.mk (below_step (by repeat (first|(with_reducible first|exact HB.1|apply bwA|apply bwN|apply bw1|refine bS ?_ GE169.1)|exact HB.1)) hb);have n2_:=Aside0.mk (hbox);have n3_:=Aside0.mk ((by rw [hg];exact (below_size (by repeat (first|(with_reducible first|exact HB.1|apply bwA|apply bwN|apply bw1|refine bS ?_ GE169.1)|exact HB.1))) : w.heap.size ≤ G170));have n4_:=Aside0.mk ((by rw [hg];exact (below_size (by repeat (first|(with_reducible first|exact HB.1|apply bwA|apply bwN|apply bw1|refine bS ?_ GE169.1)|exact HB.1))) : w.heap.size ≤ G170));have n5_:=Aside0.mk ((by rw [hg];exact Nat.ne_of_lt (blk_lt (g:=G169) (o:=.cells #[.int .i64 a0_0,.float .f64 a0_1,.float .f64 a0_2] 24 (0,0)) (by (with_reducible repeat first|apply bN|apply bD|apply bA);exact K169.1)) : G169 ≠ G170));have n6_:=Aside0.mk ((by rw [hg];exact Nat.ne_of_gt (blk_lt (g:=G169) (o:=.cells #[.int .i64 a0_0,.float .f64 a0_1,.float .f64 a0_2] 24 (0,0)) (by (with_reducible repeat first|apply bN|apply bD|apply bA);exact K169.1)) : G170 ≠ G169));clear K169;clear HB;have K169:=n0_;have HB:=n1_;have K170:=n2_;have GW170:=n3_;have GE170:=n4_;have NB169_170:=n5_;have NB170_169:=n6_;clear n0_ n1_ n2_ n3_ n4_ n5_ n6_;clear hb hbox hg;have hnb78:=NB169_170.1;have hnc78:=NB170_169.1;have hcz79_0 : w77.cell? ⟨G169,0,none⟩ = some (.int .i64 a0_0):=(bC K169.1 0).trans rfl;have hcz79_1 : w77.cell? ⟨G169,1,none⟩ = some (.float .f64 a0_1):=(bC K169.1 1).trans rfl;have hcz79_2 : w77.cell? ⟨G169,2,none⟩ = some (.float .f64 a0_2):=(bC K169.1 2).trans rfl;have hfz79_0:=bF K169.1 0;have hfz79_1:=bF K169.1 1;have hfz79_2:=bF K169.1 2)|((with_reducible refine gate_callee (f:=13) rfl ?_);refine goesL_ (some 16) rfl rfl Try.func13 (by kernel_rfl) rfl #[.agg #[.int .i64 a0_0,.float .f64 a0_1,.float .f64 a0_2]] rfl (by (try simp only [List.map_toArray,List.map_cons,List.map_nil]);first|done|rfl|(simp only [List.length_drop,List.length_take];rfl)) ?_;(with_reducible refine (beaconref05_Check.calls k a0_0 a0_1 a0_2 t171 _ A3.out).mono ?_);rintro e w80 ⟨rfl,hb⟩;refine ⟨_,rfl,?_⟩;have n0_:=Aside0.mk (bB (g:=G169) (o:=.cells #[.int .i64 a0_0,.float .f64 a0_1,.float .f64 a0_2] 24 (0,0)) (by (with_reducible repeat first|apply bN|apply bD|apply bA);exact K169.1) hb);have n1_:=Aside0.mk (bB (g:=G170) (o:=.cells #[.int .i64 0,.float .f64 0,.float .f64 0] 24 (0,0)) (by (with_reducible repeat first|apply bN|apply bD|apply bA);exact K170.1) hb);have n2_:=Aside0.mk (below_step (by repeat (first|(with_reducible first|exact HB.1|apply bwA|apply bwN|apply bw1|refine bS ?_ GE169.1|refine bS ?_ GE170.1)|exact HB.1)) hb);clear K169;clear K170;clear HB;have K169:=n0_;have K170:=n1_;have HB:=n2_;clear n0_ n1_ n2_;(try clear hb);(try clear hb2);(try clear hk);(try clear hi))|((with_reducible refine gate_callee (f:=26) rfl ?_);refine goesL_ (some 23) rfl rfl Try.func26 (by kernel_rfl) rfl #[.float .f64 a1] rfl (by (try simp only [List.map_toArray,List.map_cons,List.map_nil]);first|done|rfl|(simp only [List.length_drop,List.length_take];rfl)) ?_;(with_reducible refine (beaconref05_sample.calls k a1 t172 true _ A5.out).mono ?_);rintro e w' ⟨rfl,⟨nd,rfl⟩⟩;refine ⟨_,rfl,?_⟩;(try (rw [drewN_self w80];generalize hq_ : World.drewN w80 _ = w80;have n0_ : Aside0 (w80.heap[G169]? = some (.cells #[.int .i64 a0_0,.float .f64 a0_1,.float .f64 a0_2] 24 (0,0))):=⟨by rw [← hq_];exact (by (with_reducible repeat first|apply bN|apply bD|apply bA);exact K169.1)⟩;have n1_ : Aside0 (w80.heap[G170]? = some (.cells #[.int .i64 0,.float .f64 0,.float .f64 0] 24 (0,0))):=⟨by rw [← hq_];exact (by (with_reducible repeat first|apply bN|apply bD|apply bA);exact K170.1)⟩;have n2_ : Aside0 (Below w.heap.size w w80):=⟨by rw [← hq_];exact (by repeat (first|(with_reducible first|exact HB.1|apply bwA|apply bwN|apply bw1|refine bS ?_ GE169.1|refine bS ?_ GE170.1)|exact HB.1))⟩;clear K169 K170 HB hq_;have K169:=n0_;have K170:=n1_;have HB:=n2_;clear n0_ n1_ n2_));have hcz81_0 : w80.cell? ⟨G169,0,none⟩ = some (.int .i64 a0_0):=(bC K169.1 0).trans rfl;have hcz81_1 : w80.cell? ⟨G169,1,none⟩ = some (.float .f64 a0_1):=(bC K169.1 1).trans rfl;have hcz81_2 : w80.cell? ⟨G169,2,none⟩ = some (.float .f64 a0_2):=(bC K169.1 2).trans rfl;have hfz81_0:=bF K169.1 0;have hfz81_1:=bF K169.1 1;have hfz81_2:=bF K169.1 2)|((with_reducible refine gate_dst (N:=9) rfl ?_);refine box_event ?hg (N:=9) ?hd (cs:=#[.int .i64 0,.float .f64 0,.float .f64 0]) (t:=24) ?hr ?_;(case hd => rfl);(case hg => rfl);(case hr => first|(go_simp;done)|(go_simp;rfl));intro G174 hg w82 hbox hb;have n0_:=Aside0.mk (bB (g:=G169) (o:=.cells #[.int .i64 a0_0,.float .f64 a0_1,.float .f64 a0_2] 24 (0,0)) (by (with_reducible repeat first|apply bN|apply bD|apply bA);exact K169.1) hb);have n1_:=Aside0.mk (bB (g:=G170) (o:=.cells #[.int .i64 0,.float .f64 0,.float .f64 0] 24 (0,0)) (by (with_reducible repeat first|apply bN|apply bD|apply bA);exact K170.1) hb);have n2_:=Aside0.mk (below_step (by repeat (first|(with_reducible first|exact HB.1|apply bwA|apply bwN|apply bw1|refine bS ?_ GE169.1|refine bS ?_ GE170.1)|exact HB.1)) hb);have n3_:=Aside0.mk (hbox);have n4_:=Aside0.mk ((by rw [hg];exact (below_size (by repeat (first|(with_reducible first|exact HB.1|apply bwA|apply bwN|apply bw1|refine bS ?_ GE169.1|refine bS ?_ GE170.1)|exact HB.1))) : w.heap.size ≤ G174));have n5_:=Aside0.mk ((by rw [hg];exact (below_size (by repeat (first|(with_reducible first|exact HB.1|apply bwA|apply bwN|apply bw1|refine bS ?_ GE169.1|refine bS ?_ GE170.1)|exact HB.1))) : w.heap.size ≤ G174));have n6_:=Aside0.mk ((by rw [hg];exact Nat.ne_of_lt (blk_lt (g:=G169) (o:=.cells #[.int .i64 a0_0,.float .f64 a0_1,.float .f64 a0_2] 24 (0,0)) (by (with_reducible repeat first|apply bN|apply bD|apply bA);exact K169.1)) : G169 ≠ G174));have n7_:=Aside0.mk ((by rw [hg];exact Nat.ne_of_gt (blk_lt (g:=G169) (o:=.cells #[.int .i64 a0_0,.float .f64 a0_1,.float .f64 a0_2] 24 (0,0)) (by (with_reducible repeat first|apply bN|apply bD|apply bA);exact K169.1)) : G174 ≠ G169));have n8_:=Aside0.mk ((by rw [hg];exact Nat.ne_of_lt (blk_lt (g:=G170) (o:=.cells #[.int .i64 0,.float .f64 0,.float .f64 0] 24 (0,0)) (by (with_reducible repeat first|apply bN|apply bD|apply bA);exact K170.1)) : G170 ≠ G174));have n9_:=Aside0.mk ((by rw [hg];exact Nat.ne_of_gt (blk_lt (g:=G170) (o:=.cells #[.int .i64 0,.float .f64 0,.float .f64 0] 24 (0,0)) (by (with_reducible repeat first|apply bN|apply bD|apply bA);exact K170.1)) : G174 ≠ G170));clear K169;clear K170;clear HB;have K169:=n0_;have K170:=n1_;have HB:=n2_;have K174:=n3_;have GW174:=n4_;have GE174:=n5_;have NB169_174:=n6_;have NB174_169:=n7_;have NB170_174:=n8_;have NB174_170:=n9_;clear n0_ n1_ n2_ n3_ n4_ n5_ n6_ n7_ n8_ n9_;clear hb hbox hg;have hnb83:=NB174_169.1;have hnc83:=NB169_174.1;have hnb84:=NB174_170.1;have hnc84:=NB170_174.1;have hcz85_0 : w82.cell? ⟨G174,0,none⟩ = some (.int .i64 0):=(bC K174.1 0).trans rfl;have hcz85_1 : w82.cell? ⟨G174,1,none⟩ = some (.float .f64 0):=(bC K174.1 1).trans rfl;have hcz85_2 : w82.cell? ⟨G174,2,none⟩ = some (.float .f64 0):=(bC K174.1 2).trans rfl;have hfz85_0:=bF K174.1 0;have hfz85_1:=bF K174.1 1;have hfz85_2:=bF K174.1 2)|((with_reducible refine gate_store (t:=24) (p:=9) rfl ?_);refine store_event (t:=24) (p:=9) (v:=?vo_w86) (w1:=(((w82.setCell ⟨G174,0,none⟩ (.int .i64 a0_0)).setCell ⟨G174,1,none⟩ (.float .f64 0)).setCell ⟨G174,2,none⟩ (.float .f64 0))) ?hg ?ho ?hn ?hr ?_;(case ho => rfl);(case hg => rfl);(case hn => rfl);(case hr => first|(go_simp;done)|(go_simp;rfl));intro w86 hw;have n0_ : Aside0 (w86.heap[G169]? = some (.cells #[.int .i64 a0_0,.float .f64 a0_1,.float .f64 a0_2] 24 (0,0))):=⟨(by rw [hw];exact (by (with_reducible repeat first|apply bN|apply bD|apply bA);refine bZ ?_ NB169_174.1 _;(with_reducible repeat first|apply bN|apply bD|apply bA);refine bZ ?_ NB169_174.1 _;(with_reducible repeat first|apply bN|apply bD|apply bA);refine bZ ?_ NB169_174.1 _;(with_reducible repeat first|apply bN|apply bD|apply bA);exact K169.1))⟩;have n1_ : Aside0 (w86.heap[G170]? = some (.cells #[.int .i64 0,.float .f64 0,.float .f64 0] 24 (0,0))):=⟨(by rw [hw];exact (by (with_reducible repeat first|apply bN|apply bD|apply bA);refine bZ ?_ NB170_174.1 _;(with_reducible repeat first|apply bN|apply bD|apply bA);refine bZ ?_ NB170_174.1 _;(with_reducible repeat first|apply bN|apply bD|apply bA);refine bZ ?_ NB170_174.1 _;(with_reducible repeat first|apply bN|apply bD|apply bA);exact K170.1))⟩;have n2_ : Aside0 (w86.heap[G174]? = some (.cells #[.int .i64 a0_0,.float .f64 0,.float .f64 0] 24 (0,0))):=⟨(by rw [hw];exact (by (with_reducible repeat first|apply bN|apply bD|apply bA);refine blk_put (cs:=#[.int .i64 a0_0,.float .f64 0,.float .f64 0]) ?_ 2 _ rfl;(with_reducible repeat first|apply bN|apply bD|apply bA);refine blk_put (cs:=#[.int .i64 a0_0,.float .f64 0,.float .f64 0]) ?_ 1 _ rfl;(with_reducible repeat first|apply bN|apply bD|apply bA);refine blk_put (cs:=#[.int .i64 0,.float .f64 0,.float .f64 0]) ?_ 0 _ rfl;(with_reducible repeat first|apply bN|apply bD|apply bA);exact K174.1))⟩;have n3_ : Aside0 (Below w.heap.size w w86):=⟨(by rw [hw];exact (by repeat (first|(with_reducible first|exact HB.1|apply bwA|apply bwN|apply bw1|refine bS ?_ GE169.1|refine bS ?_ GE170.1|refine bS ?_ GE174.1)|exact HB.1)))⟩;clear hw;clear K169;clear K170;clear K174;clear HB;have K169:=n0_;have K170:=n1_;have K174:=n2_;have HB:=n3_;clear n0_ n1_ n2_ n3_;have hcz87_0 : w86.cell? ⟨G169,0,none⟩ = some (.int .i64 a0_0):=(bC K169.1 0).trans rfl;have hcz87_1 : w86.cell? ⟨G169,1,none⟩ = some (.float .f64 a0_1):=(bC K169.1 1).trans rfl;have hcz87_2 : w86.cell? ⟨G169,2,none⟩ = some (.float .f64 a0_2):=(bC K169.1 2).trans rfl;have hfz87_0:=bF K169.1 0;have hfz87_1:=bF K169.1 1;have hfz87_2:=bF K169.1 2;have hcz88_0 : w86.cell? ⟨G174,0,none⟩ = some (.int .i64 a0_0):=(bC K174.1 0).trans rfl;have hcz88_1 : w86.cell? ⟨G174,1,none⟩ = some (.float .f64 0):=(bC K174.1 1).trans rfl;have hcz88_2 : w86.cell? ⟨G174,2,none⟩ = some (.float .f64 0):=(bC K174.1 2).trans rfl;have hfz88_0:=bF K174.1 0;have hfz88_1:=bF K174.1 1;have hfz88_2:=bF K174.1 2;have hcz89_0 : w86.cell? ⟨G170,0,none⟩ = some (.int .i64 0):=(bC K170.1 0).trans rfl;have hcz89_1 : w86.cell? ⟨G170,1,none⟩ = some (.float .f64 0):=(bC K170.1 1).trans rfl;have hcz89_2 : w86.cell? ⟨G170,2,none⟩ = some (.float .f64 0):=(bC K170.1 2).trans rfl;have hfz89_0:=bF K170.1 0;have hfz89_1:=bF K170.1 1;have hfz89_2:=bF K170.1 2)|((with_reducible refine gate_store (t:=24) (p:=4) rfl ?_);refine store_event (t:=24) (p:=4) (v:=?vo_w90) (w1:=(((((w86.setCell ⟨G174,2,none⟩ (.float .f64 (fadd (fmul 4604930618986332160 a0_2) (fmul 4598175219545276416 (fsub t172 a0_1))))).setCell ⟨G174,1,none⟩ (.float .f64 (fadd (fmul 4606056518893174784 a0_1) (fmul 4593671619917905920 t172)))).setCell ⟨G170,0,none⟩ (.int .i64 a0_0)).setCell ⟨G170,1,none⟩ (.float .f64 (fadd (fmul 4606056518893174784 a0_1) (fmul 4593671619917905920 t172)))).setCell ⟨G170,2,none⟩ (.float .f64 (fadd (fmul 4604930618986332160 a0_2) (fmul 4598175219545276416 (fsub t172 a0_1)))))) ?hg ?ho ?hn ?hr ?_;(case ho => rfl);(case hg => rfl);(case hn => rfl);(case hr => first|(go_simp;done)|(go_simp;rfl));intro w90 hw;have n0_ : Aside0 (w90.heap[G169]? = some (.cells #[.int .i64 a0_0,.float .f64 a0_1,.float .f64 a0_2] 24 (0,0))):=⟨(by rw [hw];exact (by (with_reducible repeat first|apply bN|apply bD|apply bA);refine bZ ?_ NB169_170.1 _;(with_reducible repeat first|apply bN|apply bD|apply bA);refine bZ ?_ NB169_170.1 _;(with_reducible repeat first|apply bN|apply bD|apply bA);refine bZ ?_ NB169_170.1 _;(with_reducible repeat first|apply bN|apply bD|apply bA);refine bZ ?_ NB169_174.1 _;(with_reducible repeat first|apply bN|apply bD|apply bA);refine bZ ?_ NB169_174.1 _;(with_reducible repeat first|apply bN|apply bD|apply bA);exact K169.1))⟩;have n1_ : Aside0 (w90.heap[G170]? = some (.cells #[.int .i64 a0_0,.float .f64 (fadd (fmul 4606056518893174784 a0_1) (fmul 4593671619917905920 t172)),.float .f64 (fadd (fmul 4604930618986332160 a0_2) (fmul 4598175219545276416 (fsub t172 a0_1)))] 24 (0,0))):=⟨(by rw [hw];exact (by (with_reducible repeat first|apply bN|apply bD|apply bA);refine blk_put (cs:=#[.int .i64 a0_0,.float .f64 (fadd (fmul 4606056518893174784 a0_1) (fmul 4593671619917905920 t172)),.float .f64 0]) ?_ 2 _ rfl;(with_reducible repeat first|apply bN|apply bD|apply bA);refine blk_put (cs:=#[.int .i64 a0_0,.float .f64 0,.float .f64 0]) ?_ 1 _ rfl;(with_reducible repeat first|apply bN|apply bD|apply bA);refine blk_put (cs:=#[.int .i64 0,.float .f64 0,.float .f64 0]) ?_ 0 _ rfl;(with_reducible repeat first|apply bN|apply bD|apply bA);refine bZ ?_ NB170_174.1 _;(with_reducible repeat first|apply bN|apply bD|apply bA);refine bZ ?_ NB170_174.1 _;(with_reducible repeat first|apply bN|apply bD|apply bA);exact K170.1))⟩;have n2_ : Aside0 (w90.heap[G174]? = some (.cells #[.int .i64 a0_0,.float .f64 (fadd (fmul 4606056518893174784 a0_1) (fmul 4593671619917905920 t172)),.float .f64 (fadd (fmul 4604930618986332160 a0_2) (fmul 4598175219545276416 (fsub t172 a0_1)))] 24 (0,0))):=⟨(by rw [hw];exact (by (with_reducible repeat first|apply bN|apply bD|apply bA);refine bZ ?_ NB174_170.1 _;(with_reducible repeat first|apply bN|apply bD|apply bA);refine bZ ?_ NB174_170.1 _;(with_reducible repeat first|apply bN|apply bD|apply bA);refine bZ ?_ NB174_170.1 _;(with_reducible repeat first|apply bN|apply bD|apply bA);refine blk_put (cs:=#[.int .i64 a0_0,.float .f64 0,.float .f64 (fadd (fmul 4604930618986332160 a0_2) (fmul 4598175219545276416 (fsub t172 a0_1)))]) ?_ 1 _ rfl;(with_reducible repeat first|apply bN|apply bD|apply bA);refine blk_put (cs:=#[.int .i64 a0_0,.float .f64 0,.float .f64 0]) ?_ 2 _ rfl;(with_reducible repeat first|apply bN|apply bD|apply bA);exact K174.1))⟩;have n3_ : Aside0 (Below w.heap.size w w90):=⟨(by rw [hw];exact (by repeat (first|(with_reducible first|exact HB.1|apply bwA|apply bwN|apply bw1|refine bS ?_ GE169.1|refine bS ?_ GE170.1|refine bS ?_ GE174.1)|exact HB.1)))⟩;clear hw;clear K169;clear K170;clear K174;clear HB;have K169:=n0_;have K170:=n1_;have K174:=n2_;have HB:=n3_;clear n0_ n1_ n2_ n3_))
              refine bodyPost_ret (results_ct rfl _ _ G170 24 #[.int .i64 a0_0,.float .f64 (fadd (fmul 4606056518893174784 a0_1) (fmul 4593671619917905920 t172)),.float .f64 (fadd (fmul 4604930618986332160 a0_2) (fmul 4598175219545276416 (fsub t172 a0_1)))] (0,0) _ rfl (by (with_reducible repeat first|apply bN|apply bD|apply bA);exact K170.1) Try.underlying24 rfl (by kernel_rfl)) rfl ?_
              exact ⟨by first|rfl|(simp [errW_none,errW_some] <;> rfl)|(simp [*,errW_none,errW_some] <;> rfl),by repeat (first|(with_reducible first|exact HB.1|apply bwA|apply bwN|apply bw1|refine bS ?_ GE169.1|refine bS ?_ GE170.1|refine bS ?_ GE174.1)|exact HB.1)⟩
             ·rw [if_neg c75] at H
              exact absurd H (by simp)
            ·rw [if_neg c74] at H
             exact absurd H (by simp)
           ·rw [if_neg c73] at H
            exact absurd H (by simp)
          ·rw [if_neg c72] at H
           exact absurd H (by simp)
         ·rw [if_neg c71] at H
          exact absurd H (by simp)
        ·rw [if_neg c70] at H
         exact absurd H (by simp)
       ·rw [if_neg c69] at H
        exact absurd H (by simp)
      ·rw [if_neg c68] at H
       have c68b0 : (flt (fsub a0_1 t172) 0) = false:=by simpa using c68
       clear c68
       by_cases c91 : (fmulOk 4604930618986332160 a0_2) = true
       ·rw [if_pos c91] at H
        have c91b0:=eq_true c91
        have c91b1 : decide ((fmulOk 4604930618986332160 a0_2) = true) = true:=decide_eq_true c91
        clear c91
        by_cases c92 : (fmulOk 4598175219545276416 (fsub a0_1 t172)) = true
        ·rw [if_pos c92] at H
         have c92b0:=eq_true c92
         have c92b1 : decide ((fmulOk 4598175219545276416 (fsub a0_1 t172)) = true) = true:=decide_eq_true c92
         clear c92
         by_cases c93 : (faddOk (fmul 4604930618986332160 a0_2) (fmul 4598175219545276416 (fsub a0_1 t172))) = true
         ·rw [if_pos c93] at H
          have c93b0:=eq_true c93
          have c93b1 : decide ((faddOk (fmul 4604930618986332160 a0_2) (fmul 4598175219545276416 (fsub a0_1 t172))) = true) = true:=decide_eq_true c93
          clear c93
          by_cases c94 : (fmulOk 4606056518893174784 a0_1) = true
          ·rw [if_pos c94] at H
           have c94b0:=eq_true c94
           have c94b1 : decide ((fmulOk 4606056518893174784 a0_1) = true) = true:=decide_eq_true c94
           clear c94
           by_cases c95 : (fmulOk 4593671619917905920 t172) = true
           ·rw [if_pos c95] at H
            have c95b0:=eq_true c95
            have c95b1 : decide ((fmulOk 4593671619917905920 t172) = true) = true:=decide_eq_true c95
            clear c95
            by_cases c96 : (faddOk (fmul 4606056518893174784 a0_1) (fmul 4593671619917905920 t172)) = true
            ·rw [if_pos c96] at H
             have c96b0:=eq_true c96
             have c96b1 : decide ((faddOk (fmul 4606056518893174784 a0_1) (fmul 4593671619917905920 t172)) = true) = true:=decide_eq_true c96
             clear c96
             simp only [Option.some.injEq,Prod.mk.injEq] at H
             obtain ⟨rfl,rfl,rfl,rfl⟩:=H
             go_enter Try.func10,Try.ntmps10
             go_wp2_with (first|((with_reducible refine gate_dst (N:=2) rfl ?_);refine box_event ?hg (N:=2) ?hd (cs:=#[.int .i64 a0_0,.float .f64 a0_1,.float .f64 a0_2]) (t:=24) ?hr ?_;(case hd => rfl);(case hg => rfl);(case hr => first|(go_simp;done)|(go_simp;rfl));intro G169 hg w97 hbox hb;have n0_:=Aside0.mk (below_step (by repeat (first|(with_reducible first|exact HB.1|apply bwA|apply bwN|apply bw1)|exact HB.1)) hb);have n1_:=Aside0.mk (hbox);have n2_:=Aside0.mk ((by rw [hg];exact (below_size (by repeat (first|(with_reducible first|exact HB.1|apply bwA|apply bwN|apply bw1)|exact HB.1))) : w.heap.size ≤ G169));have n3_:=Aside0.mk ((by rw [hg];exact (below_size (by repeat (first|(with_reducible first|exact HB.1|apply bwA|apply bwN|apply bw1)|exact HB.1))) : w.heap.size ≤ G169));clear HB;have HB:=n0_;have K169:=n1_;have GW169:=n2_;have GE169:=n3_;clear n0_ n1_ n2_ n3_;clear hb hbox hg)|((with_reducible refine gate_dst (N:=4) rfl ?_);refine box_event ?hg (N:=4) ?hd (cs:=#[.int .i64 0,.float .f64 0,.float .f64 0]) (t:=24) ?hr ?_;(case hd => rfl);(case hg => rfl);(case hr => first|(go_simp;done)|(go_simp;rfl));intro G170 hg w98 hbox hb;have n0_:=Aside0.mk (bB (g:=G169) (o:=.cells #[.int .i64 a0_0,.float .f64 a0_1,.float .f64 a0_2] 24 (0,0)) (by (with_reducible repeat first|apply bN|apply bD|apply bA);exact K169.1) hb);have n1_:=Aside0.mk (below_step (by repeat (first|(with_reducible first|exact HB.1|apply bwA|apply bwN|apply bw1|refine bS ?_ GE169.1)|exact HB.1)) hb);have n2_:=Aside0.mk (hbox);have n3_:=Aside0.mk ((by rw [hg];exact (below_size (by repeat (first|(with_reducible first|exact HB.1|apply bwA|apply bwN|apply bw1|refine bS ?_ GE169.1)|exact HB.1))) : w.heap.size ≤ G170));have n4_:=Aside0.mk ((by rw [hg];exact (below_size (by repeat (first|(with_reducible first|exact HB.1|apply bwA|apply bwN|apply bw1|refine bS ?_ GE169.1)|exact HB.1))) : w.heap.size ≤ G170));have n5_:=Aside0.mk ((by rw [hg];exact Nat.ne_of_lt (blk_lt (g:=G169) (o:=.cells #[.int .i64 a0_0,.float .f64 a0_1,.float .f64 a0_2] 24 (0,0)) (by (with_reducible repeat first|apply bN|apply bD|apply bA);exact K169.1)) : G169 ≠ G170));have n6_:=Aside0.mk ((by rw [hg];exact Nat.ne_of_gt (blk_lt (g:=G169) (o:=.cells #[.int .i64 a0_0,.float .f64 a0_1,.float .f64 a0_2] 24 (0,0)) (by (with_reducible repeat first|apply bN|apply bD|apply bA);exact K169.1)) : G170 ≠ G169));clear K169;clear HB;have K169:=n0_;have HB:=n1_;have K170:=n2_;have GW170:=n3_;have GE170:=n4_;have NB169_170:=n5_;have NB170_169:=n6_;clear n0_ n1_ n2_ n3_ n4_ n5_ n6_;clear hb hbox hg;have hnb99:=NB169_170.1;have hnc99:=NB170_169.1;have hcz100_0 : w98.cell? ⟨G169,0,none⟩ = some (.int .i64 a0_0):=(bC K169.1 0).trans rfl;have hcz100_1 : w98.cell? ⟨G169,1,none⟩ = some (.float .f64 a0_1):=(bC K169.1 1).trans rfl;have hcz100_2 : w98.cell? ⟨G169,2,none⟩ = some (.float .f64 a0_2):=(bC K169.1 2).trans rfl;have hfz100_0:=bF K169.1 0;have hfz100_1:=bF K169.1 1;have hfz100_2:=bF K169.1 2)|((with_reducible refine gate_callee (f:=13) rfl ?_);refine goesL_ (some 16) rfl rfl Try.func13 (by kernel_rfl) rfl #[.agg #[.int .i64 a0_0,.float .f64 a0_1,.float .f64 a0_2]] rfl (by (try simp only [List.map_toArray,List.map_cons,List.map_nil]);first|done|rfl|(simp only [List.length_drop,List.length_take];rfl)) ?_;(with_reducible refine (beaconref05_Check.calls k a0_0 a0_1 a0_2 t171 _ A3.out).mono ?_);rintro e w101 ⟨rfl,hb⟩;refine ⟨_,rfl,?_⟩;have n0_:=Aside0.mk (bB (g:=G169) (o:=.cells #[.int .i64 a0_0,.float .f64 a0_1,.float .f64 a0_2] 24 (0,0)) (by (with_reducible repeat first|apply bN|apply bD|apply bA);exact K169.1) hb);have n1_:=Aside0.mk (bB (g:=G170) (o:=.cells #[.int .i64 0,.float .f64 0,.float .f64 0] 24 (0,0)) (by (with_reducible repeat first|apply bN|apply bD|apply bA);exact K170.1) hb);have n2_:=Aside0.mk (below_step (by repeat (first|(with_reducible first|exact HB.1|apply bwA|apply bwN|apply bw1|refine bS ?_ GE169.1|refine bS ?_ GE170.1)|exact HB.1)) hb);clear K169;clear K170;clear HB;have K169:=n0_;have K170:=n1_;have HB:=n2_;clear n0_ n1_ n2_;(try clear hb);(try clear hb2);(try clear hk);(try clear hi))|((with_reducible refine gate_callee (f:=26) rfl ?_);refine goesL_ (some 23) rfl rfl Try.func26 (by kernel_rfl) rfl #[.float .f64 a1] rfl (by (try simp only [List.map_toArray,List.map_cons,List.map_nil]);first|done|rfl|(simp only [List.length_drop,List.length_take];rfl)) ?_;(with_reducible refine (beaconref05_sample.calls k a1 t172 true _ A5.out).mono ?_);rintro e w' ⟨rfl,⟨nd,rfl⟩⟩;refine ⟨_,rfl,?_⟩;(try (rw [drewN_self w101];generalize hq_ : World.drewN w101 _ = w101;have n0_ : Aside0 (w101.heap[G169]? = some (.cells #[.int .i64 a0_0,.float .f64 a0_1,.float .f64 a0_2] 24 (0,0))):=⟨by rw [← hq_];exact (by (with_reducible repeat first|apply bN|apply bD|apply bA);exact K169.1)⟩;have n1_ : Aside0 (w101.heap[G170]? = some (.cells #[.int .i64 0,.float .f64 0,.float .f64 0] 24 (0,0))):=⟨by rw [← hq_];exact (by (with_reducible repeat first|apply bN|apply bD|apply bA);exact K170.1)⟩;have n2_ : Aside0 (Below w.heap.size w w101):=⟨by rw [← hq_];exact (by repeat (first|(with_reducible first|exact HB.1|apply bwA|apply bwN|apply bw1|refine bS ?_ GE169.1|refine bS ?_ GE170.1)|exact HB.1))⟩;clear K169 K170 HB hq_;have K169:=n0_;have K170:=n1_;have HB:=n2_;clear n0_ n1_ n2_));have hcz102_0 : w101.cell? ⟨G169,0,none⟩ = some (.int .i64 a0_0):=(bC K169.1 0).trans rfl;have hcz102_1 : w101.cell? ⟨G169,1,none⟩ = some (.float .f64 a0_1):=(bC K169.1 1).trans rfl;have hcz102_2 : w101.cell? ⟨G169,2,none⟩ = some (.float .f64 a0_2):=(bC K169.1 2).trans rfl;have hfz102_0:=bF K169.1 0;have hfz102_1:=bF K169.1 1;have hfz102_2:=bF K169.1 2)|((with_reducible refine gate_dst (N:=9) rfl ?_);refine box_event ?hg (N:=9) ?hd (cs:=#[.int .i64 0,.float .f64 0,.float .f64 0]) (t:=24) ?hr ?_;(case hd => rfl);(case hg => rfl);(case hr => first|(go_simp;done)|(go_simp;rfl));intro G174 hg w103 hbox hb;have n0_:=Aside0.mk (bB (g:=G169) (o:=.cells #[.int .i64 a0_0,.float .f64 a0_1,.float .f64 a0_2] 24 (0,0)) (by (with_reducible repeat first|apply bN|apply bD|apply bA);exact K169.1) hb);have n1_:=Aside0.mk (bB (g:=G170) (o:=.cells #[.int .i64 0,.float .f64 0,.float .f64 0] 24 (0,0)) (by (with_reducible repeat first|apply bN|apply bD|apply bA);exact K170.1) hb);have n2_:=Aside0.mk (below_step (by repeat (first|(with_reducible first|exact HB.1|apply bwA|apply bwN|apply bw1|refine bS ?_ GE169.1|refine bS ?_ GE170.1)|exact HB.1)) hb);have n3_:=Aside0.mk (hbox);have n4_:=Aside0.mk ((by rw [hg];exact (below_size (by repeat (first|(with_reducible first|exact HB.1|apply bwA|apply bwN|apply bw1|refine bS ?_ GE169.1|refine bS ?_ GE170.1)|exact HB.1))) : w.heap.size ≤ G174));have n5_:=Aside0.mk ((by rw [hg];exact (below_size (by repeat (first|(with_reducible first|exact HB.1|apply bwA|apply bwN|apply bw1|refine bS ?_ GE169.1|refine bS ?_ GE170.1)|exact HB.1))) : w.heap.size ≤ G174));have n6_:=Aside0.mk ((by rw [hg];exact Nat.ne_of_lt (blk_lt (g:=G169) (o:=.cells #[.int .i64 a0_0,.float .f64 a0_1,.float .f64 a0_2] 24 (0,0)) (by (with_reducible repeat first|apply bN|apply bD|apply bA);exact K169.1)) : G169 ≠ G174));have n7_:=Aside0.mk ((by rw [hg];exact Nat.ne_of_gt (blk_lt (g:=G169) (o:=.cells #[.int .i64 a0_0,.float .f64 a0_1,.float .f64 a0_2] 24 (0,0)) (by (with_reducible repeat first|apply bN|apply bD|apply bA);exact K169.1)) : G174 ≠ G169));have n8_:=Aside0.mk ((by rw [hg];exact Nat.ne_of_lt (blk_lt (g:=G170) (o:=.cells #[.int .i64 0,.float .f64 0,.float .f64 0] 24 (0,0)) (by (with_reducible repeat first|apply bN|apply bD|apply bA);exact K170.1)) : G170 ≠ G174));have n9_:=Aside0.mk ((by rw [hg];exact Nat.ne_of_gt (blk_lt (g:=G170) (o:=.cells #[.int .i64 0,.float .f64 0,.float .f64 0] 24 (0,0)) (by (with_reducible repeat first|apply bN|apply bD|apply bA);exact K170.1)) : G174 ≠ G170));clear K169;clear K170;clear HB;have K169:=n0_;have K170:=n1_;have HB:=n2_;have K174:=n3_;have GW174:=n4_;have GE174:=n5_;have NB169_174:=n6_;have NB174_169:=n7_;have NB170_174:=n8_;have NB174_170:=n9_;clear n0_ n1_ n2_ n3_ n4_ n5_ n6_ n7_ n8_ n9_;clear hb hbox hg;have hnb104:=NB174_169.1;have hnc104:=NB169_174.1;have hnb105:=NB174_170.1;have hnc105:=NB170_174.1;have hcz106_0 : w103.cell? ⟨G174,0,none⟩ = some (.int .i64 0):=(bC K174.1 0).trans rfl;have hcz106_1 : w103.cell? ⟨G174,1,none⟩ = some (.float .f64 0):=(bC K174.1 1).trans rfl;have hcz106_2 : w103.cell? ⟨G174,2,none⟩ = some (.float .f64 0):=(bC K174.1 2).trans rfl;have hfz106_0:=bF K174.1 0;have hfz106_1:=bF K174.1 1;have hfz106_2:=bF K174.1 2)|((with_reducible refine gate_store (t:=24) (p:=9) rfl ?_);refine store_event (t:=24) (p:=9) (v:=?vo_w107) (w1:=(((w103.setCell ⟨G174,0,none⟩ (.int .i64 a0_0)).setCell ⟨G174,1,none⟩ (.float .f64 0)).setCell ⟨G174,2,none⟩ (.float .f64 0))) ?hg ?ho ?hn ?hr ?_;(case ho => rfl);(case hg => rfl);(case hn => rfl);(case hr => first|(go_simp;done)|(go_simp;rfl));intro w107 hw;have n0_ : Aside0 (w107.heap[G169]? = some (.cells #[.int .i64 a0_0,.float .f64 a0_1,.float .f64 a0_2] 24 (0,0))):=⟨(by rw [hw];exact (by (with_reducible repeat first|apply bN|apply bD|apply bA);refine bZ ?_ NB169_174.1 _;(with_reducible repeat first|apply bN|apply bD|apply bA);refine bZ ?_ NB169_174.1 _;(with_reducible repeat first|apply bN|apply bD|apply bA);refine bZ ?_ NB169_174.1 _;(with_reducible repeat first|apply bN|apply bD|apply bA);exact K169.1))⟩;have n1_ : Aside0 (w107.heap[G170]? = some (.cells #[.int .i64 0,.float .f64 0,.float .f64 0] 24 (0,0))):=⟨(by rw [hw];exact (by (with_reducible repeat first|apply bN|apply bD|apply bA);refine bZ ?_ NB170_174.1 _;(with_reducible repeat first|apply bN|apply bD|apply bA);refine bZ ?_ NB170_174.1 _;(with_reducible repeat first|apply bN|apply bD|apply bA);refine bZ ?_ NB170_174.1 _;(with_reducible repeat first|apply bN|apply bD|apply bA);exact K170.1))⟩;have n2_ : Aside0 (w107.heap[G174]? = some (.cells #[.int .i64 a0_0,.float .f64 0,.float .f64 0] 24 (0,0))):=⟨(by rw [hw];exact (by (with_reducible repeat first|apply bN|apply bD|apply bA);refine blk_put (cs:=#[.int .i64 a0_0,.float .f64 0,.float .f64 0]) ?_ 2 _ rfl;(with_reducible repeat first|apply bN|apply bD|apply bA);refine blk_put (cs:=#[.int .i64 a0_0,.float .f64 0,.float .f64 0]) ?_ 1 _ rfl;(with_reducible repeat first|apply bN|apply bD|apply bA);refine blk_put (cs:=#[.int .i64 0,.float .f64 0,.float .f64 0]) ?_ 0 _ rfl;(with_reducible repeat first|apply bN|apply bD|apply bA);exact K174.1))⟩;have n3_ : Aside0 (Below w.heap.size w w107):=⟨(by rw [hw];exact (by repeat (first|(with_reducible first|exact HB.1|apply bwA|apply bwN|apply bw1|refine bS ?_ GE169.1|refine bS ?_ GE170.1|refine bS ?_ GE174.1)|exact HB.1)))⟩;clear hw;clear K169;clear K170;clear K174;clear HB;have K169:=n0_;have K170:=n1_;have K174:=n2_;have HB:=n3_;clear n0_ n1_ n2_ n3_;have hcz108_0 : w107.cell? ⟨G169,0,none⟩ = some (.int .i64 a0_0):=(bC K169.1 0).trans rfl;have hcz108_1 : w107.cell? ⟨G169,1,none⟩ = some (.float .f64 a0_1):=(bC K169.1 1).trans rfl;have hcz108_2 : w107.cell? ⟨G169,2,none⟩ = some (.float .f64 a0_2):=(bC K169.1 2).trans rfl;have hfz108_0:=bF K169.1 0;have hfz108_1:=bF K169.1 1;have hfz108_2:=bF K169.1 2;have hcz109_0 : w107.cell? ⟨G174,0,none⟩ = some (.int .i64 a0_0):=(bC K174.1 0).trans rfl;have hcz109_1 : w107.cell? ⟨G174,1,none⟩ = some (.float .f64 0):=(bC K174.1 1).trans rfl;have hcz109_2 : w107.cell? ⟨G174,2,none⟩ = some (.float .f64 0):=(bC K174.1 2).trans rfl;have hfz109_0:=bF K174.1 0;have hfz109_1:=bF K174.1 1;have hfz109_2:=bF K174.1 2;have hcz110_0 : w107.cell? ⟨G170,0,none⟩ = some (.int .i64 0):=(bC K170.1 0).trans rfl;have hcz110_1 : w107.cell? ⟨G170,1,none⟩ = some (.float .f64 0):=(bC K170.1 1).trans rfl;have hcz110_2 : w107.cell? ⟨G170,2,none⟩ = some (.float .f64 0):=(bC K170.1 2).trans rfl;have hfz110_0:=bF K170.1 0;have hfz110_1:=bF K170.1 1;have hfz110_2:=bF K170.1 2)|((with_reducible refine gate_store (t:=24) (p:=4) rfl ?_);refine store_event (t:=24) (p:=4) (v:=?vo_w111) (w1:=(((((w107.setCell ⟨G174,2,none⟩ (.float .f64 (fadd (fmul 4604930618986332160 a0_2) (fmul 4598175219545276416 (fsub a0_1 t172))))).setCell ⟨G174,1,none⟩ (.float .f64 (fadd (fmul 4606056518893174784 a0_1) (fmul 4593671619917905920 t172)))).setCell ⟨G170,0,none⟩ (.int .i64 a0_0)).setCell ⟨G170,1,none⟩ (.float .f64 (fadd (fmul 4606056518893174784 a0_1) (fmul 4593671619917905920 t172)))).setCell ⟨G170,2,none⟩ (.float .f64 (fadd (fmul 4604930618986332160 a0_2) (fmul 4598175219545276416 (fsub a0_1 t172)))))) ?hg ?ho ?hn ?hr ?_;(case ho => rfl);(case hg => rfl);(case hn => rfl);(case hr => first|(go_simp;done)|(go_simp;rfl));intro w111 hw;have n0_ : Aside0 (w111.heap[G169]? = some (.cells #[.int .i64 a0_0,.float .f64 a0_1,.float .f64 a0_2] 24 (0,0))):=⟨(by rw [hw];exact (by (with_reducible repeat first|apply bN|apply bD|apply bA);refine bZ ?_ NB169_170.1 _;(with_reducible repeat first|apply bN|apply bD|apply bA);refine bZ ?_ NB169_170.1 _;(with_reducible repeat first|apply bN|apply bD|apply bA);refine bZ ?_ NB169_170.1 _;(with_reducible repeat first|apply bN|apply bD|apply bA);refine bZ ?_ NB169_174.1 _;(with_reducible repeat first|apply bN|apply bD|apply bA);refine bZ ?_ NB169_174.1 _;(with_reducible repeat first|apply bN|apply bD|apply bA);exact K169.1))⟩;have n1_ : Aside0 (w111.heap[G170]? = some (.cells #[.int .i64 a0_0,.float .f64 (fadd (fmul 4606056518893174784 a0_1) (fmul 4593671619917905920 t172)),.float .f64 (fadd (fmul 4604930618986332160 a0_2) (fmul 4598175219545276416 (fsub a0_1 t172)))] 24 (0,0))):=⟨(by rw [hw];exact (by (with_reducible repeat first|apply bN|apply bD|apply bA);refine blk_put (cs:=#[.int .i64 a0_0,.float .f64 (fadd (fmul 4606056518893174784 a0_1) (fmul 4593671619917905920 t172)),.float .f64 0]) ?_ 2 _ rfl;(with_reducible repeat first|apply bN|apply bD|apply bA);refine blk_put (cs:=#[.int .i64 a0_0,.float .f64 0,.float .f64 0]) ?_ 1 _ rfl;(with_reducible repeat first|apply bN|apply bD|apply bA);refine blk_put (cs:=#[.int .i64 0,.float .f64 0,.float .f64 0]) ?_ 0 _ rfl;(with_reducible repeat first|apply bN|apply bD|apply bA);refine bZ ?_ NB170_174.1 _;(with_reducible repeat first|apply bN|apply bD|apply bA);refine bZ ?_ NB170_174.1 _;(with_reducible repeat first|apply bN|apply bD|apply bA);exact K170.1))⟩;have n2_ : Aside0 (w111.heap[G174]? = some (.cells #[.int .i64 a0_0,.float .f64 (fadd (fmul 4606056518893174784 a0_1) (fmul 4593671619917905920 t172)),.float .f64 (fadd (fmul 4604930618986332160 a0_2) (fmul 4598175219545276416 (fsub a0_1 t172)))] 24 (0,0))):=⟨(by rw [hw];exact (by (with_reducible repeat first|apply bN|apply bD|apply bA);refine bZ ?_ NB174_170.1 _;(with_reducible repeat first|apply bN|apply bD|apply bA);refine bZ ?_ NB174_170.1 _;(with_reducible repeat first|apply bN|apply bD|apply bA);refine bZ ?_ NB174_170.1 _;(with_reducible repeat first|apply bN|apply bD|apply bA);refine blk_put (cs:=#[.int .i64 a0_0,.float .f64 0,.float .f64 (fadd (fmul 4604930618986332160 a0_2) (fmul 4598175219545276416 (fsub a0_1 t172)))]) ?_ 1 _ rfl;(with_reducible repeat first|apply bN|apply bD|apply bA);refine blk_put (cs:=#[.int .i64 a0_0,.float .f64 0,.float .f64 0]) ?_ 2 _ rfl;(with_reducible repeat first|apply bN|apply bD|apply bA);exact K174.1))⟩;have n3_ : Aside0 (Below w.heap.size w w111):=⟨(by rw [hw];exact (by repeat (first|(with_reducible first|exact HB.1|apply bwA|apply bwN|apply bw1|refine bS ?_ GE169.1|refine bS ?_ GE170.1|refine bS ?_ GE174.1)|exact HB.1)))⟩;clear hw;clear K169;clear K170;clear K174;clear HB;have K169:=n0_;have K170:=n1_;have K174:=n2_;have HB:=n3_;clear n0_ n1_ n2_ n3_))
             refine bodyPost_ret (results_ct rfl _ _ G170 24 #[.int .i64 a0_0,.float .f64 (fadd (fmul 4606056518893174784 a0_1) (fmul 4593671619917905920 t172)),.float .f64 (fadd (fmul 4604930618986332160 a0_2) (fmul 4598175219545276416 (fsub a0_1 t172)))] (0,0) _ rfl (by (with_reducible repeat first|apply bN|apply bD|apply bA);exact K170.1) Try.underlying24 rfl (by kernel_rfl)) rfl ?_
             exact ⟨by first|rfl|(simp [errW_none,errW_some] <;> rfl)|(simp [*,errW_none,errW_some] <;> rfl),by repeat (first|(with_reducible first|exact HB.1|apply bwA|apply bwN|apply bw1|refine bS ?_ GE169.1|refine bS ?_ GE170.1|refine bS ?_ GE174.1)|exact HB.1)⟩
            ·rw [if_neg c96] at H
             exact absurd H (by simp)
           ·rw [if_neg c95] at H
            exact absurd H (by simp)
          ·rw [if_neg c94] at H
           exact absurd H (by simp)
         ·rw [if_neg c93] at H
          exact absurd H (by simp)
        ·rw [if_neg c92] at H
         exact absurd H (by simp)
       ·rw [if_neg c91] at H
        exact absurd H (by simp)
     ·rw [if_neg c67] at H
      exact absurd H (by simp)
  ·replace c6:=Bool.eq_false_iff.mpr c6
   subst c6
   have H1 : (some (0,0,0,50)) = some (r1,r2,r3,r4):=by rw [if_neg (show ¬ (false = true) by decide)] at H;exact H
   clear H
   have H:=H1
   clear H1
   simp only [Option.some.injEq,Prod.mk.injEq] at H
   obtain ⟨rfl,rfl,rfl,rfl⟩:=H
   go_enter Try.func10,Try.ntmps10
   go_wp2_with (first|((with_reducible refine gate_dst (N:=2) rfl ?_);refine box_event ?hg (N:=2) ?hd (cs:=#[.int .i64 a0_0,.float .f64 a0_1,.float .f64 a0_2]) (t:=24) ?hr ?_;(case hd => rfl);(case hg => rfl);(case hr => first|(go_simp;done)|(go_simp;rfl));intro G169 hg w112 hbox hb;have n0_:=Aside0.mk (below_step (by repeat (first|(with_reducible first|exact HB.1|apply bwA|apply bwN|apply bw1)|exact HB.1)) hb);have n1_:=Aside0.mk (hbox);have n2_:=Aside0.mk ((by rw [hg];exact (below_size (by repeat (first|(with_reducible first|exact HB.1|apply bwA|apply bwN|apply bw1)|exact HB.1))) : w.heap.size ≤ G169));have n3_:=Aside0.mk ((by rw [hg];exact (below_size (by repeat (first|(with_reducible first|exact HB.1|apply bwA|apply bwN|apply bw1)|exact HB.1))) : w.heap.size ≤ G169));clear HB;have HB:=n0_;have K169:=n1_;have GW169:=n2_;have GE169:=n3_;clear n0_ n1_ n2_ n3_;clear hb hbox hg)|((with_reducible refine gate_dst (N:=4) rfl ?_);refine box_event ?hg (N:=4) ?hd (cs:=#[.int .i64 0,.float .f64 0,.float .f64 0]) (t:=24) ?hr ?_;(case hd => rfl);(case hg => rfl);(case hr => first|(go_simp;done)|(go_simp;rfl));intro G170 hg w113 hbox hb;have n0_:=Aside0.mk (bB (g:=G169) (o:=.cells #[.int .i64 a0_0,.float .f64 a0_1,.float .f64 a0_2] 24 (0,0)) (by (with_reducible repeat first|apply bN|apply bD|apply bA);exact K169.1) hb);have n1_:=Aside0.mk (below_step (by repeat (first|(with_reducible first|exact HB.1|apply bwA|apply bwN|apply bw1|refine bS ?_ GE169.1)|exact HB.1)) hb);have n2_:=Aside0.mk (hbox);have n3_:=Aside0.mk ((by rw [hg];exact (below_size (by repeat (first|(with_reducible first|exact HB.1|apply bwA|apply bwN|apply bw1|refine bS ?_ GE169.1)|exact HB.1))) : w.heap.size ≤ G170));have n4_:=Aside0.mk ((by rw [hg];exact (below_size (by repeat (first|(with_reducible first|exact HB.1|apply bwA|apply bwN|apply bw1|refine bS ?_ GE169.1)|exact HB.1))) : w.heap.size ≤ G170));have n5_:=Aside0.mk ((by rw [hg];exact Nat.ne_of_lt (blk_lt (g:=G169) (o:=.cells #[.int .i64 a0_0,.float .f64 a0_1,.float .f64 a0_2] 24 (0,0)) (by (with_reducible repeat first|apply bN|apply bD|apply bA);exact K169.1)) : G169 ≠ G170));have n6_:=Aside0.mk ((by rw [hg];exact Nat.ne_of_gt (blk_lt (g:=G169) (o:=.cells #[.int .i64 a0_0,.float .f64 a0_1,.float .f64 a0_2] 24 (0,0)) (by (with_reducible repeat first|apply bN|apply bD|apply bA);exact K169.1)) : G170 ≠ G169));clear K169;clear HB;have K169:=n0_;have HB:=n1_;have K170:=n2_;have GW170:=n3_;have GE170:=n4_;have NB169_170:=n5_;have NB170_169:=n6_;clear n0_ n1_ n2_ n3_ n4_ n5_ n6_;clear hb hbox hg;have hnb114:=NB169_170.1;have hnc114:=NB170_169.1;have hcz115_0 : w113.cell? ⟨G169,0,none⟩ = some (.int .i64 a0_0):=(bC K169.1 0).trans rfl;have hcz115_1 : w113.cell? ⟨G169,1,none⟩ = some (.float .f64 a0_1):=(bC K169.1 1).trans rfl;have hcz115_2 : w113.cell? ⟨G169,2,none⟩ = some (.float .f64 a0_2):=(bC K169.1 2).trans rfl;have hfz115_0:=bF K169.1 0;have hfz115_1:=bF K169.1 1;have hfz115_2:=bF K169.1 2)|((with_reducible refine gate_callee (f:=13) rfl ?_);refine goesL_ (some 16) rfl rfl Try.func13 (by kernel_rfl) rfl #[.agg #[.int .i64 a0_0,.float .f64 a0_1,.float .f64 a0_2]] rfl (by (try simp only [List.map_toArray,List.map_cons,List.map_nil]);first|done|rfl|(simp only [List.length_drop,List.length_take];rfl)) ?_;(with_reducible refine (beaconref05_Check.calls k a0_0 a0_1 a0_2 t171 _ A3.out).mono ?_);rintro e w116 ⟨rfl,hb⟩;refine ⟨_,rfl,?_⟩;have n0_:=Aside0.mk (bB (g:=G169) (o:=.cells #[.int .i64 a0_0,.float .f64 a0_1,.float .f64 a0_2] 24 (0,0)) (by (with_reducible repeat first|apply bN|apply bD|apply bA);exact K169.1) hb);have n1_:=Aside0.mk (bB (g:=G170) (o:=.cells #[.int .i64 0,.float .f64 0,.float .f64 0] 24 (0,0)) (by (with_reducible repeat first|apply bN|apply bD|apply bA);exact K170.1) hb);have n2_:=Aside0.mk (below_step (by repeat (first|(with_reducible first|exact HB.1|apply bwA|apply bwN|apply bw1|refine bS ?_ GE169.1|refine bS ?_ GE170.1)|exact HB.1)) hb);clear K169;clear K170;clear HB;have K169:=n0_;have K170:=n1_;have HB:=n2_;clear n0_ n1_ n2_;(try clear hb);(try clear hb2);(try clear hk);(try clear hi))|((with_reducible refine gate_callee (f:=26) rfl ?_);refine goesL_ (some 23) rfl rfl Try.func26 (by kernel_rfl) rfl #[.float .f64 a1] rfl (by (try simp only [List.map_toArray,List.map_cons,List.map_nil]);first|done|rfl|(simp only [List.length_drop,List.length_take];rfl)) ?_;(with_reducible refine (beaconref05_sample.calls k a1 t172 false _ A5.out).mono ?_);rintro e w' ⟨rfl,⟨nd,rfl⟩⟩;refine ⟨_,rfl,?_⟩;(try (rw [drewN_self w116];generalize hq_ : World.drewN w116 _ = w116;have n0_ : Aside0 (w116.heap[G169]? = some (.cells #[.int .i64 a0_0,.float .f64 a0_1,.float .f64 a0_2] 24 (0,0))):=⟨by rw [← hq_];exact (by (with_reducible repeat first|apply bN|apply bD|apply bA);exact K169.1)⟩;have n1_ : Aside0 (w116.heap[G170]? = some (.cells #[.int .i64 0,.float .f64 0,.float .f64 0] 24 (0,0))):=⟨by rw [← hq_];exact (by (with_reducible repeat first|apply bN|apply bD|apply bA);exact K170.1)⟩;have n2_ : Aside0 (Below w.heap.size w w116):=⟨by rw [← hq_];exact (by repeat (first|(with_reducible first|exact HB.1|apply bwA|apply bwN|apply bw1|refine bS ?_ GE169.1|refine bS ?_ GE170.1)|exact HB.1))⟩;clear K169 K170 HB hq_;have K169:=n0_;have K170:=n1_;have HB:=n2_;clear n0_ n1_ n2_));have hcz117_0 : w116.cell? ⟨G170,0,none⟩ = some (.int .i64 0):=(bC K170.1 0).trans rfl;have hcz117_1 : w116.cell? ⟨G170,1,none⟩ = some (.float .f64 0):=(bC K170.1 1).trans rfl;have hcz117_2 : w116.cell? ⟨G170,2,none⟩ = some (.float .f64 0):=(bC K170.1 2).trans rfl;have hfz117_0:=bF K170.1 0;have hfz117_1:=bF K170.1 1;have hfz117_2:=bF K170.1 2)|((with_reducible refine gate_store (t:=24) (p:=4) rfl ?_);refine store_event (t:=24) (p:=4) (v:=?vo_w118) (w1:=(((w116.setCell ⟨G170,0,none⟩ (.int .i64 0)).setCell ⟨G170,1,none⟩ (.float .f64 0)).setCell ⟨G170,2,none⟩ (.float .f64 0))) ?hg ?ho ?hn ?hr ?_;(case ho => rfl);(case hg => rfl);(case hn => rfl);(case hr => first|(go_simp;done)|(go_simp;rfl));intro w118 hw;have n0_ : Aside0 (w118.heap[G169]? = some (.cells #[.int .i64 a0_0,.float .f64 a0_1,.float .f64 a0_2] 24 (0,0))):=⟨(by rw [hw];exact (by (with_reducible repeat first|apply bN|apply bD|apply bA);refine bZ ?_ NB169_170.1 _;(with_reducible repeat first|apply bN|apply bD|apply bA);refine bZ ?_ NB169_170.1 _;(with_reducible repeat first|apply bN|apply bD|apply bA);refine bZ ?_ NB169_170.1 _;(with_reducible repeat first|apply bN|apply bD|apply bA);exact K169.1))⟩;have n1_ : Aside0 (w118.heap[G170]? = some (.cells #[.int .i64 0,.float .f64 0,.float .f64 0] 24 (0,0))):=⟨(by rw [hw];exact (by (with_reducible repeat first|apply bN|apply bD|apply bA);refine blk_put (cs:=#[.int .i64 0,.float .f64 0,.float .f64 0]) ?_ 2 _ rfl;(with_reducible repeat first|apply bN|apply bD|apply bA);refine blk_put (cs:=#[.int .i64 0,.float .f64 0,.float .f64 0]) ?_ 1 _ rfl;(with_reducible repeat first|apply bN|apply bD|apply bA);refine blk_put (cs:=#[.int .i64 0,.float .f64 0,.float .f64 0]) ?_ 0 _ rfl;(with_reducible repeat first|apply bN|apply bD|apply bA);exact K170.1))⟩;have n2_ : Aside0 (Below w.heap.size w w118):=⟨(by rw [hw];exact (by repeat (first|(with_reducible first|exact HB.1|apply bwA|apply bwN|apply bw1|refine bS ?_ GE169.1|refine bS ?_ GE170.1)|exact HB.1)))⟩;clear hw;clear K169;clear K170;clear HB;have K169:=n0_;have K170:=n1_;have HB:=n2_;clear n0_ n1_ n2_))
   refine bodyPost_ret (results_ct rfl _ _ G170 24 #[.int .i64 0,.float .f64 0,.float .f64 0] (0,0) _ rfl (by (with_reducible repeat first|apply bN|apply bD|apply bA);exact K170.1) Try.underlying24 rfl (by kernel_rfl)) rfl ?_
   exact ⟨by first|rfl|(simp [errW_none,errW_some] <;> rfl)|(simp [*,errW_none,errW_some] <;> rfl),by repeat (first|(with_reducible first|exact HB.1|apply bwA|apply bwN|apply bw1|refine bS ?_ GE169.1|refine bS ?_ GE170.1)|exact HB.1)⟩
 ·rw [if_neg c4] at H
  have c4b0 : (t171 == 0) = false:=beq_eq_false_iff_ne.mpr c4
  have c4b1 : (t171 != 0) = true:=bne_iff_ne.mpr c4
  simp only [Option.some.injEq,Prod.mk.injEq] at H
  obtain ⟨rfl,rfl,rfl,rfl⟩:=H
  go_enter Try.func10,Try.ntmps10
  go_wp2_with (first|((with_reducible refine gate_dst (N:=2) rfl ?_);refine box_event ?hg (N:=2) ?hd (cs:=#[.int .i64 a0_0,.float .f64 a0_1,.float .f64 a0_2]) (t:=24) ?hr ?_;(case hd => rfl);(case hg => rfl);(case hr => first|(go_simp;done)|(go_simp;rfl));intro G169 hg w119 hbox hb;have n0_:=Aside0.mk (below_step (by repeat (first|(with_reducible first|exact HB.1|apply bwA|apply bwN|apply bw1)|exact HB.1)) hb);have n1_:=Aside0.mk (hbox);have n2_:=Aside0.mk ((by rw [hg];exact (below_size (by repeat (first|(with_reducible first|exact HB.1|apply bwA|apply bwN|apply bw1)|exact HB.1))) : w.heap.size ≤ G169));have n3_:=Aside0.mk ((by rw [hg];exact (below_size (by repeat (first|(with_reducible first|exact HB.1|apply bwA|apply bwN|apply bw1)|exact HB.1))) : w.heap.size ≤ G169));clear HB;have HB:=n0_;have K169:=n1_;have GW169:=n2_;have GE169:=n3_;clear n0_ n1_ n2_ n3_;clear hb hbox hg)|((with_reducible refine gate_dst (N:=4) rfl ?_);refine box_event ?hg (N:=4) ?hd (cs:=#[.int .i64 0,.float .f64 0,.float .f64 0]) (t:=24) ?hr ?_;(case hd => rfl);(case hg => rfl);(case hr => first|(go_simp;done)|(go_simp;rfl));intro G170 hg w120 hbox hb;have n0_:=Aside0.mk (bB (g:=G169) (o:=.cells #[.int .i64 a0_0,.float .f64 a0_1,.float .f64 a0_2] 24 (0,0)) (by (with_reducible repeat first|apply bN|apply bD|apply bA);exact K169.1) hb);have n1_:=Aside0.mk (below_step (by repeat (first|(with_reducible first|exact HB.1|apply bwA|apply bwN|apply bw1|refine bS ?_ GE169.1)|exact HB.1)) hb);have n2_:=Aside0.mk (hbox);have n3_:=Aside0.mk ((by rw [hg];exact (below_size (by repeat (first|(with_reducible first|exact HB.1|apply bwA|apply bwN|apply bw1|refine bS ?_ GE169.1)|exact HB.1))) : w.heap.size ≤ G170));have n4_:=Aside0.mk ((by rw [hg];exact (below_size (by repeat (first|(with_reducible first|exact HB.1|apply bwA|apply bwN|apply bw1|refine bS ?_ GE169.1)|exact HB.1))) : w.heap.size ≤ G170));have n5_:=Aside0.mk ((by rw [hg];exact Nat.ne_of_lt (blk_lt (g:=G169) (o:=.cells #[.int .i64 a0_0,.float .f64 a0_1,.float .f64 a0_2] 24 (0,0)) (by (with_reducible repeat first|apply bN|apply bD|apply bA);exact K169.1)) : G169 ≠ G170));have n6_:=Aside0.mk ((by rw [hg];exact Nat.ne_of_gt (blk_lt (g:=G169) (o:=.cells #[.int .i64 a0_0,.float .f64 a0_1,.float .f64 a0_2] 24 (0,0)) (by (with_reducible repeat first|apply bN|apply bD|apply bA);exact K169.1)) : G170 ≠ G169));clear K169;clear HB;have K169:=n0_;have HB:=n1_;have K170:=n2_;have GW170:=n3_;have GE170:=n4_;have NB169_170:=n5_;have NB170_169:=n6_;clear n0_ n1_ n2_ n3_ n4_ n5_ n6_;clear hb hbox hg;have hnb121:=NB169_170.1;have hnc121:=NB170_169.1;have hcz122_0 : w120.cell? ⟨G169,0,none⟩ = some (.int .i64 a0_0):=(bC K169.1 0).trans rfl;have hcz122_1 : w120.cell? ⟨G169,1,none⟩ = some (.float .f64 a0_1):=(bC K169.1 1).trans rfl;have hcz122_2 : w120.cell? ⟨G169,2,none⟩ = some (.float .f64 a0_2):=(bC K169.1 2).trans rfl;have hfz122_0:=bF K169.1 0;have hfz122_1:=bF K169.1 1;have hfz122_2:=bF K169.1 2)|((with_reducible refine gate_callee (f:=13) rfl ?_);refine goesL_ (some 16) rfl rfl Try.func13 (by kernel_rfl) rfl #[.agg #[.int .i64 a0_0,.float .f64 a0_1,.float .f64 a0_2]] rfl (by (try simp only [List.map_toArray,List.map_cons,List.map_nil]);first|done|rfl|(simp only [List.length_drop,List.length_take];rfl)) ?_;(with_reducible refine (beaconref05_Check.calls k a0_0 a0_1 a0_2 t171 _ A3.out).mono ?_);rintro e w123 ⟨rfl,hb⟩;refine ⟨_,rfl,?_⟩;have n0_:=Aside0.mk (bB (g:=G169) (o:=.cells #[.int .i64 a0_0,.float .f64 a0_1,.float .f64 a0_2] 24 (0,0)) (by (with_reducible repeat first|apply bN|apply bD|apply bA);exact K169.1) hb);have n1_:=Aside0.mk (bB (g:=G170) (o:=.cells #[.int .i64 0,.float .f64 0,.float .f64 0] 24 (0,0)) (by (with_reducible repeat first|apply bN|apply bD|apply bA);exact K170.1) hb);have n2_:=Aside0.mk (below_step (by repeat (first|(with_reducible first|exact HB.1|apply bwA|apply bwN|apply bw1|refine bS ?_ GE169.1|refine bS ?_ GE170.1)|exact HB.1)) hb);clear K169;clear K170;clear HB;have K169:=n0_;have K170:=n1_;have HB:=n2_;clear n0_ n1_ n2_;(try clear hb);(try clear hb2);(try clear hk);(try clear hi);have hcz124_0 : w123.cell? ⟨G170,0,none⟩ = some (.int .i64 0):=(bC K170.1 0).trans rfl;have hcz124_1 : w123.cell? ⟨G170,1,none⟩ = some (.float .f64 0):=(bC K170.1 1).trans rfl;have hcz124_2 : w123.cell? ⟨G170,2,none⟩ = some (.float .f64 0):=(bC K170.1 2).trans rfl;have hfz124_0:=bF K170.1 0;have hfz124_1:=bF K170.1 1;have hfz124_2:=bF K170.1 2)|((with_reducible refine gate_store (t:=24) (p:=4) rfl ?_);refine store_event (t:=24) (p:=4) (v:=?vo_w125) (w1:=(((w123.setCell ⟨G170,0,none⟩ (.int .i64 0)).setCell ⟨G170,1,none⟩ (.float .f64 0)).setCell ⟨G170,2,none⟩ (.float .f64 0))) ?hg ?ho ?hn ?hr ?_;(case ho => rfl);(case hg => rfl);(case hn => rfl);(case hr => first|(go_simp;done)|(go_simp;rfl));intro w125 hw;have n0_ : Aside0 (w125.heap[G169]? = some (.cells #[.int .i64 a0_0,.float .f64 a0_1,.float .f64 a0_2] 24 (0,0))):=⟨(by rw [hw];exact (by (with_reducible repeat first|apply bN|apply bD|apply bA);refine bZ ?_ NB169_170.1 _;(with_reducible repeat first|apply bN|apply bD|apply bA);refine bZ ?_ NB169_170.1 _;(with_reducible repeat first|apply bN|apply bD|apply bA);refine bZ ?_ NB169_170.1 _;(with_reducible repeat first|apply bN|apply bD|apply bA);exact K169.1))⟩;have n1_ : Aside0 (w125.heap[G170]? = some (.cells #[.int .i64 0,.float .f64 0,.float .f64 0] 24 (0,0))):=⟨(by rw [hw];exact (by (with_reducible repeat first|apply bN|apply bD|apply bA);refine blk_put (cs:=#[.int .i64 0,.float .f64 0,.float .f64 0]) ?_ 2 _ rfl;(with_reducible repeat first|apply bN|apply bD|apply bA);refine blk_put (cs:=#[.int .i64 0,.float .f64 0,.float .f64 0]) ?_ 1 _ rfl;(with_reducible repeat first|apply bN|apply bD|apply bA);refine blk_put (cs:=#[.int .i64 0,.float .f64 0,.float .f64 0]) ?_ 0 _ rfl;(with_reducible repeat first|apply bN|apply bD|apply bA);exact K170.1))⟩;have n2_ : Aside0 (Below w.heap.size w w125):=⟨(by rw [hw];exact (by repeat (first|(with_reducible first|exact HB.1|apply bwA|apply bwN|apply bw1|refine bS ?_ GE169.1|refine bS ?_ GE170.1)|exact HB.1)))⟩;clear hw;clear K169;clear K170;clear HB;have K169:=n0_;have K170:=n1_;have HB:=n2_;clear n0_ n1_ n2_))
  refine bodyPost_ret (results_ct rfl _ _ G170 24 #[.int .i64 0,.float .f64 0,.float .f64 0] (0,0) _ rfl (by (with_reducible repeat first|apply bN|apply bD|apply bA);exact K170.1) Try.underlying24 rfl (by kernel_rfl)) rfl ?_
  exact ⟨by first|rfl|(simp [errW_none,errW_some] <;> rfl)|(simp [*,errW_none,errW_some] <;> rfl),by repeat (first|(with_reducible first|exact HB.1|apply bwA|apply bwN|apply bw1|refine bS ?_ GE169.1|refine bS ?_ GE170.1)|exact HB.1)⟩

/-! ### beaconref01_nan: function 41 -/
def beaconref01_nan.f (a0 : Nat) : Option (Bool) := some (!(feq a0 a0))
set_option maxHeartbeats 2500000 in
set_option maxRecDepth 100000 in
theorem beaconref01_nan.calls (a0 : Nat) (r : Bool) (w : World) (h : beaconref01_nan.f a0 = some r) :
  Calls Try.prog 41 #[.float .f64 a0] w fun e w' => e = .returned (.bool r) ∧ Drawn0 w w':=by
 have H : (some (!(feq a0 a0))) = some r:=h
 clear h
 obtain rfl:=Option.some.inj H
 go_enter Try.func41,Try.ntmps41
 go_wp2
 go_ret
 exact ⟨by first|rfl|(simp;done)|(simp [*];done),by repeat (first|exact Drawn0.refl _|apply Drawn0.step)⟩

/-! ### beaconref01_inf: function 42 -/
def beaconref01_inf.f (a0 : Nat) : Option (Bool) := if (flt 9218868437227405311 a0) = true then (some true) else (some (flt a0 18442240474082181119))
set_option maxHeartbeats 2500000 in
set_option maxRecDepth 100000 in
theorem beaconref01_inf.calls (a0 : Nat) (r : Bool) (w : World) (h : beaconref01_inf.f a0 = some r) :
  Calls Try.prog 42 #[.float .f64 a0] w fun e w' => e = .returned (.bool r) ∧ Drawn0 w w':=by
 have H : (if (flt 9218868437227405311 a0) = true then (some true) else (some (flt a0 18442240474082181119))) = some r:=h
 clear h
 by_cases c2 : (flt 9218868437227405311 a0) = true
 ·rw [if_pos c2] at H
  have c2b0 : (flt 9218868437227405311 a0) = true:=c2
  clear c2
  obtain rfl:=Option.some.inj H
  go_enter Try.func42,Try.ntmps42
  go_wp2
  go_ret
  exact ⟨by first|rfl|(simp;done)|(simp [*];done),by repeat (first|exact Drawn0.refl _|apply Drawn0.step)⟩
 ·rw [if_neg c2] at H
  have c2b0 : (flt 9218868437227405311 a0) = false:=by simpa using c2
  clear c2
  obtain rfl:=Option.some.inj H
  go_enter Try.func42,Try.ntmps42
  go_wp2
  go_ret
  exact ⟨by first|rfl|(simp;done)|(simp [*];done),by repeat (first|exact Drawn0.refl _|apply Drawn0.step)⟩

/-! ### beaconref01_sign: function 43 -/
def beaconref01_sign.f (a0 : Nat) : Option (Bool) := some (((fbits a0) / 9223372036854775808) == 1)
set_option maxHeartbeats 2500000 in
set_option maxRecDepth 100000 in
theorem beaconref01_sign.calls (a0 : Nat) (r : Bool) (w : World) (h : beaconref01_sign.f a0 = some r) :
  Calls Try.prog 43 #[.float .f64 a0] w fun e w' => e = .returned (.bool r) ∧ Drawn0 w w':=by
 have H : (some (((fbits a0) / 9223372036854775808) == 1)) = some r:=h
 clear h
 obtain rfl:=Option.some.inj H
 go_enter Try.func43,Try.ntmps43
 go_wp2
 go_ret
 exact ⟨by first|rfl|(simp;done)|(simp [*];done),by repeat (first|exact Drawn0.refl _|apply Drawn0.step)⟩

/-! ### beaconref01_quarter: function 44 -/
def beaconref01_quarter.f (a0 : Nat) : Option (Bool) := if (fmulOk a0 4616189618054758400) = true then ((math_Trunc.f (fmul a0 4616189618054758400)).bind fun t175 => (some (feq t175 (fmul a0 4616189618054758400)))) else (none)
set_option maxHeartbeats 2500000 in
set_option maxRecDepth 100000 in
theorem beaconref01_quarter.calls (a0 : Nat) (r : Bool) (w : World) (h : beaconref01_quarter.f a0 = some r) :
  Calls Try.prog 44 #[.float .f64 a0] w fun e w' => e = .returned (.bool r) ∧ Drawn0 w w':=by
 have H : (if (fmulOk a0 4616189618054758400) = true then ((math_Trunc.f (fmul a0 4616189618054758400)).bind fun t175 => (some (feq t175 (fmul a0 4616189618054758400)))) else (none)) = some r:=h
 clear h
 by_cases c2 : (fmulOk a0 4616189618054758400) = true
 ·rw [if_pos c2] at H
  have c2b0:=eq_true c2
  have c2b1 : decide ((fmulOk a0 4616189618054758400) = true) = true:=decide_eq_true c2
  clear c2
  replace H:=Option.bind_eq_some_iff.mp H
  obtain ⟨t175,A30,H⟩:=H
  replace H : (some (feq t175 (fmul a0 4616189618054758400))) = some r:=H
  have A3:=Aside0.mk A30
  clear A30
  obtain rfl:=Option.some.inj H
  go_enter Try.func44,Try.ntmps44
  go_wp2_with (first|((with_reducible refine gate_callee (f:=48) rfl ?_);refine goesL_ (some 5) rfl rfl Try.func48 (by kernel_rfl) rfl #[.float .f64 (fmul a0 4616189618054758400)] rfl (by (try simp only [List.map_toArray,List.map_cons,List.map_nil]);first|done|rfl|(simp only [List.length_drop,List.length_take];rfl)) ?_;(with_reducible refine (math_Trunc.calls (fmul a0 4616189618054758400) t175 _ A3.out).mono ?_);rintro e w' ⟨rfl,⟨nd,rfl⟩⟩;refine ⟨_,rfl,?_⟩))
  go_ret
  exact ⟨by first|rfl|(simp;done)|(simp [*];done),by repeat (first|exact Drawn0.refl _|apply Drawn0.step)⟩
 ·rw [if_neg c2] at H
  exact absurd H (by simp)

end Go.Proofs.Ytajejidnidomgaa.XR
