/- Go functions of this seat as Lean functions, with proofs that the calls come to them. (Written by xprint.py, a program of this session, over the kit's print.) -/
import Derived.Test.YtpcgjdllgdkobaaXAx0
import Derived.Test.YtpcgjdllgdkobaaXAx2
namespace Go.Proofs.Ytpcgjdllgdkobaa.XA
open Go.RowKit Go.Proofs.YtpcgjdllgdkobaaW.PrintWords Go.Proofs.YtpcgjdllgdkobaaW.PrintLast Go.Proofs.YtpcgjdllgdkobaaW.PrintMore
attribute [local go_sem] max2_int min2_int max_two min_two max_three min_three max_four min_four   -- for this text's walks alone
set_option linter.unusedVariables false
set_option linter.unusedSimpArgs false
open List renaming setIfInBounds_toArray → xA, set_cons_zero → xB, set_cons_succ → xC
open Go.Proofs.YtpcgjdllgdkobaaW.PrintWords renaming blk_drewN → bN, blk_drew → bD, blk_alloc → bA, below_set → bS, blk_frozen → bF, blk_cell → bC, cell_far → cF, blk_far → bZ, blk_below → bB, pw_below_drewN → bwN, below_drew1 → bw1, below_alloc → bwA
open Go.Proofs.YtpcgjdllgdkobaaW.PrintZ
open Bool renaming true → T,false → F

/-! ### message_news: function 55 -/
mutual
def message_news.j0 : Nat → Bool → Int → Int → Nat → Nat → Int → Option (Bool)
 | 0, _, _, _, _, _, _ => none
 | k + 1, x22, x113000, x113001, x113002, x113003, x113004 => if x22 = true then (some false) else (if x113001 = 1 then (message_news.j1 k true x113000 x113001 x113002 x113003 x113004) else ((math_IsInf.f x113002 1).bind fun t116 => (message_news.j1 k t116 x113000 x113001 x113002 x113003 x113004)))
def message_news.j1 : Nat → Bool → Int → Int → Nat → Nat → Int → Option (Bool)
 | 0, _, _, _, _, _, _ => none
 | k + 1, x30, x113000, x113001, x113002, x113003, x113004 => if x30 = true then (if (fbits x113003) = 0 then (some (x113004 == 0)) else (some false)) else ((math_IsInf.f x113003 1).bind fun t117 => (if t117 = true then (some (x113004 == 0)) else ((message_distance.f k x113003).bind fun t118 => (if t118 = true then ((message_number.f x113004).bind fun t119 => (some t119)) else (some false)))))
end
def message_news.f (k : Nat) (a0_0 : Int) (a0_1 : Int) (a0_2 : Nat) (a0_3 : Nat) (a0_4 : Int) : Option (Bool) := (message_number.f a0_0).bind fun t113 => (if t113 = true then (if a0_1 = 1 then ((message_distance.f k a0_2).bind fun t114 => (message_news.j0 k (!t114) a0_0 a0_1 a0_2 a0_3 a0_4)) else (if a0_1 = 2 then ((message_distance.f k a0_2).bind fun t115 => (message_news.j0 k (!t115) a0_0 a0_1 a0_2 a0_3 a0_4)) else (message_news.j0 k true a0_0 a0_1 a0_2 a0_3 a0_4))) else (message_news.j0 k true a0_0 a0_1 a0_2 a0_3 a0_4))
theorem message_news.mono_l : ∀ k, (∀ y0 y1 y2 y3 y4 y5, LeO (message_news.j0 k y0 y1 y2 y3 y4 y5) (message_news.j0 (k + 1) y0 y1 y2 y3 y4 y5)) ∧ (∀ y0 y1 y2 y3 y4 y5, LeO (message_news.j1 k y0 y1 y2 y3 y4 y5) (message_news.j1 (k + 1) y0 y1 y2 y3 y4 y5))
 | 0 => ⟨fun _ _ _ _ _ _ r h => by simp [message_news.j0] at h, fun _ _ _ _ _ _ r h => by simp [message_news.j1] at h⟩
 | k + 1 => by
  obtain ⟨ih0,ih1⟩:=message_news.mono_l k
  refine ⟨?_,?_⟩
  ·intro y0 y1 y2 y3 y4 y5
   unfold message_news.j0
   repeat' first
   | (with_reducible exact ih0 _ _ _ _ _ _)
   | (with_reducible exact ih1 _ _ _ _ _ _)
   | (with_reducible exact message_distance.mono _ _)
   | (with_reducible exact LeO.refl _)
   | (with_reducible exact LeO.none _)
   | (with_reducible refine LeO.ite ?_ ?_)
   | (with_reducible refine LeO.bind ?_ (fun _ => ?_))
   | exact ih0 _ _ _ _ _ _
   | exact ih1 _ _ _ _ _ _
   | exact message_distance.mono _ _
   | exact LeO.none _
   | refine LeO.ite ?_ ?_
   | refine LeO.bind ?_ (fun _ => ?_)
  ·intro y0 y1 y2 y3 y4 y5
   unfold message_news.j1
   repeat' first
   | (with_reducible exact ih0 _ _ _ _ _ _)
   | (with_reducible exact ih1 _ _ _ _ _ _)
   | (with_reducible exact message_distance.mono _ _)
   | (with_reducible exact LeO.refl _)
   | (with_reducible exact LeO.none _)
   | (with_reducible refine LeO.ite ?_ ?_)
   | (with_reducible refine LeO.bind ?_ (fun _ => ?_))
   | exact ih0 _ _ _ _ _ _
   | exact ih1 _ _ _ _ _ _
   | exact message_distance.mono _ _
   | exact LeO.none _
   | refine LeO.ite ?_ ?_
   | refine LeO.bind ?_ (fun _ => ?_)
theorem message_news.mono : ∀ a0 a1 a2 a3 a4 k, LeO (message_news.f k a0 a1 a2 a3 a4) (message_news.f (k + 1) a0 a1 a2 a3 a4) := by
 intro a0 a1 a2 a3 a4 k
 obtain ⟨ih0,ih1⟩:=message_news.mono_l k
 unfold message_news.f
 repeat' first
   | (with_reducible exact ih0 _ _ _ _ _ _)
   | (with_reducible exact ih1 _ _ _ _ _ _)
   | (with_reducible exact message_distance.mono _ _)
   | (with_reducible exact LeO.refl _)
   | (with_reducible exact LeO.none _)
   | (with_reducible refine LeO.ite ?_ ?_)
   | (with_reducible refine LeO.bind ?_ (fun _ => ?_))
   | exact ih0 _ _ _ _ _ _
   | exact ih1 _ _ _ _ _ _
   | exact message_distance.mono _ _
   | exact LeO.none _
   | refine LeO.ite ?_ ?_
   | refine LeO.bind ?_ (fun _ => ?_)
set_option maxHeartbeats 8000000 in
set_option maxRecDepth 100000 in
theorem message_news.calls (k : Nat) (a0_0 : Int) (a0_1 : Int) (a0_2 : Nat) (a0_3 : Nat) (a0_4 : Int) (r : Bool) (w : World) (h : message_news.f k a0_0 a0_1 a0_2 a0_3 a0_4 = some r) :
  Calls Try.prog 55 #[.agg #[.int .i64 a0_0,.int .i64 a0_1,.float .f64 a0_2,.float .f64 a0_3,.int .i64 a0_4]] w fun e w' => e = .returned (.bool r) ∧ Below w.heap.size w w':=by
 have hu61:=Try.underlying61;have HB:=zA (Below.refl w.heap.size w);have H : ((message_number.f a0_0).bind fun t113 => (if t113 = true then (if a0_1 = 1 then ((message_distance.f k a0_2).bind fun t114 => (message_news.j0 k (!t114) a0_0 a0_1 a0_2 a0_3 a0_4)) else (if a0_1 = 2 then ((message_distance.f k a0_2).bind fun t115 => (message_news.j0 k (!t115) a0_0 a0_1 a0_2 a0_3 a0_4)) else (message_news.j0 k true a0_0 a0_1 a0_2 a0_3 a0_4))) else (message_news.j0 k true a0_0 a0_1 a0_2 a0_3 a0_4))) = some r:=h;clear h;have HC2:=zA H;clear H;go_enter Try.func55,Try.ntmps55
 go_upto_region 1 with (first|((with_reducible refine gate_dst (N:=1) rfl ?_);refine zb (N:=1) (cs:=#[.int .i64 a0_0,.int .i64 a0_1,.float .f64 a0_2,.float .f64 a0_3,.int .i64 a0_4]) (t:=61) ?_;intro G112 hg w3 hbox hb;have K112:=zA (hbox);have GW112:=zN HB hg;have GE112:=zN HB hg;replace HB:=zS HB hb;clear hb hbox hg))
 (try simp only [Act.put,xA,xB,xC]);go_cut [22] (fun v22 wc => ∃ (kq : Nat) (x22_1 : Bool),v22 = .bool x22_1 ∧ Aside0 (message_news.j0 kq x22_1 a0_0 a0_1 a0_2 a0_3 a0_4 = some r) ∧ Aside0 (kq ≤ k) ∧ Aside0 (wc.heap[G112]? = some (.cells #[.int .i64 a0_0,.int .i64 a0_1,.float .f64 a0_2,.float .f64 a0_3,.int .i64 a0_4] 61 (0,0))) ∧ Aside0 (Below w.heap.size w wc))
 case first =>
  have H:=HC2.out;clear HC2;replace H:=Option.bind_eq_some_iff.mp H;obtain ⟨t113,A40,H⟩:=H;(try dsimp only at H);have A4:=zA A40;clear A40;by_cases c5 : t113 = true
  ·subst c5;rw [if_pos rfl] at H;by_cases c6 : a0_1 = 1
   ·rw [if_pos c6] at H;have c6b0 : (a0_1 == 1) = true:=beq_iff_eq.mpr c6;have c6b1 : (a0_1 != 1) = false:=bne_eq_false_iff_eq.mpr c6;clear c6;(first|rw [c6b0]|(simp only [i64_w,i32_w];rw [c6b0])|skip)
    replace H:=Option.bind_eq_some_iff.mp H;obtain ⟨t114,A70,H⟩:=H;(try dsimp only at H);have A7:=zA A70;clear A70;have H':=zA H;clear H;obtain ⟨_,_,_,_,_,_,_,_,_,_⟩:=zc5 K112;go_wp2_with (first|((with_reducible refine gate_callee (f:=61) rfl ?_);refine zg (some 5) Try.func61 #[.int .i64 a0_0] ?_;(with_reducible refine (message_number.calls a0_0 true _ A4.out).mono ?_);rintro e w' ⟨rfl,⟨nd,rfl⟩⟩;refine ⟨_,rfl,?_⟩)|(go_at_call 62;(with_reducible refine (message_distance.calls k a0_2 t114 _ A7.out).mono ?_);rintro e w' ⟨rfl,⟨nd,rfl⟩⟩))
    go_meet
    case rel => exact ⟨_,(!t114),ze,H',⟨zo⟩,⟨z1 K112.1⟩,⟨zH HB⟩⟩
   ·rw [if_neg c6] at H;have c6b0 : (a0_1 == 1) = false:=beq_eq_false_iff_ne.mpr c6;have c6b1 : (a0_1 != 1) = true:=bne_iff_ne.mpr c6;(first|rw [c6b0]|(simp only [i64_w,i32_w];rw [c6b0])|skip)
    by_cases c9 : a0_1 = 2
    ·rw [if_pos c9] at H;have c9b0 : (a0_1 == 2) = true:=beq_iff_eq.mpr c9;have c9b1 : (a0_1 != 2) = false:=bne_eq_false_iff_eq.mpr c9;clear c9;replace H:=Option.bind_eq_some_iff.mp H;obtain ⟨t115,A100,H⟩:=H;(try dsimp only at H);have A10:=zA A100;clear A100;have H':=zA H;clear H;obtain ⟨_,_,_,_,_,_,_,_,_,_⟩:=zc5 K112;go_wp2_with (first|((with_reducible refine gate_callee (f:=61) rfl ?_);refine zg (some 5) Try.func61 #[.int .i64 a0_0] ?_;(with_reducible refine (message_number.calls a0_0 true _ A4.out).mono ?_);rintro e w' ⟨rfl,⟨nd,rfl⟩⟩;refine ⟨_,rfl,?_⟩)|(go_at_call 62;(with_reducible refine (message_distance.calls k a0_2 t115 _ A10.out).mono ?_);rintro e w' ⟨rfl,⟨nd,rfl⟩⟩))
     go_meet
     case rel => exact ⟨_,(!t115),ze,H',⟨zo⟩,⟨z1 K112.1⟩,⟨zH HB⟩⟩
    ·rw [if_neg c9] at H;have c9b0 : (a0_1 == 2) = false:=beq_eq_false_iff_ne.mpr c9;have c9b1 : (a0_1 != 2) = true:=bne_iff_ne.mpr c9;have H':=zA H;clear H;obtain ⟨_,_,_,_,_,_,_,_,_,_⟩:=zc5 K112;go_wp2_with (first|((with_reducible refine gate_callee (f:=61) rfl ?_);refine zg (some 5) Try.func61 #[.int .i64 a0_0] ?_;(with_reducible refine (message_number.calls a0_0 true _ A4.out).mono ?_);rintro e w' ⟨rfl,⟨nd,rfl⟩⟩;refine ⟨_,rfl,?_⟩))
     go_meet
     case rel => exact ⟨_,(true),ze,H',⟨zo⟩,⟨z1 K112.1⟩,⟨zH HB⟩⟩
  ·replace c5:=Bool.eq_false_iff.mpr c5;subst c5;rw [if_neg (show ¬ (false = true) by decide)] at H;have H':=zA H;clear H;obtain ⟨_,_,_,_,_,_,_,_,_,_⟩:=zc5 K112;go_wp2_with (first|((with_reducible refine gate_callee (f:=61) rfl ?_);refine zg (some 5) Try.func61 #[.int .i64 a0_0] ?_;(with_reducible refine (message_number.calls a0_0 false _ A4.out).mono ?_);rintro e w' ⟨rfl,⟨nd,rfl⟩⟩;refine ⟨_,rfl,?_⟩))
   go_meet
   case rel => exact ⟨_,(true),ze,H',⟨zo⟩,⟨z1 K112.1⟩,⟨zH HB⟩⟩
 case rest =>
  clear HC2;obtain ⟨kq,x22_1,rfl,HA,HJ1,K112,HB⟩:=hcut;cases kq with
  | zero => exact absurd HA.out (by simp [message_news.j0])
  | succ kj1 =>
   have H:=HA.out;clear HA;simp only [message_news.j0] at H;by_cases c14 : x22_1 = true
   ·subst c14;rw [if_pos rfl] at H;obtain rfl:=Option.some.inj H;go_wp2
    go_ret
    exact ⟨zE,zH HB⟩
   ·replace c14:=Bool.eq_false_iff.mpr c14;subst c14;rw [if_neg (show ¬ (false = true) by decide)] at H;have HC15:=zA H;clear H;go_upto_region 3 with (fail)
    go_cut [30] (fun v30 wc => ∃ (kq : Nat) (x30_14 : Bool),v30 = .bool x30_14 ∧ Aside0 (message_news.j1 kq x30_14 a0_0 a0_1 a0_2 a0_3 a0_4 = some r) ∧ Aside0 (kq ≤ kj1) ∧ Aside0 (wc.heap[G112]? = some (.cells #[.int .i64 a0_0,.int .i64 a0_1,.float .f64 a0_2,.float .f64 a0_3,.int .i64 a0_4] 61 (0,0))) ∧ Aside0 (Below w.heap.size w wc))
    case first =>
     have H:=HC15.out;clear HC15;by_cases c16 : a0_1 = 1
     ·rw [if_pos c16] at H;have c16b0 : (a0_1 == 1) = true:=beq_iff_eq.mpr c16;have c16b1 : (a0_1 != 1) = false:=bne_eq_false_iff_eq.mpr c16;clear c16;(first|rw [c16b0]|(simp only [i64_w,i32_w];rw [c16b0])|skip)
      have H':=zA H;clear H;obtain ⟨_,_,_,_,_,_,_,_,_,_⟩:=zc5 K112;go_wp2
      go_meet
      case rel => exact ⟨_,(true),ze,H',⟨by have:=HJ1.out;first|omega|exact Nat.le_refl _⟩,⟨z1 K112.1⟩,⟨zH HB⟩⟩
     ·rw [if_neg c16] at H;have c16b0 : (a0_1 == 1) = false:=beq_eq_false_iff_ne.mpr c16;have c16b1 : (a0_1 != 1) = true:=bne_iff_ne.mpr c16;(first|rw [c16b0]|(simp only [i64_w,i32_w];rw [c16b0])|skip)
      replace H:=Option.bind_eq_some_iff.mp H;obtain ⟨t116,A180,H⟩:=H;(try dsimp only at H);have A18:=zA A180;clear A180;have H':=zA H;clear H;obtain ⟨_,_,_,_,_,_,_,_,_,_⟩:=zc5 K112;go_wp2_with (first|(go_at_call 38;(with_reducible refine (math_IsInf.calls a0_2 1 t116 _ A18.out).mono ?_);rintro e w' ⟨rfl,⟨nd,rfl⟩⟩))
      go_meet
      case rel => exact ⟨_,(t116),ze,H',⟨by have:=HJ1.out;first|omega|exact Nat.le_refl _⟩,⟨z1 K112.1⟩,⟨zH HB⟩⟩
    case rest =>
     clear HC15;try clear c14
     obtain ⟨kq,x30_14,rfl,HA,HJ14,K112,HB⟩:=hcut;cases kq with
     | zero => exact absurd HA.out (by simp [message_news.j1])
     | succ kj14 =>
      have H:=HA.out;clear HA;simp only [message_news.j1] at H;by_cases c20 : x30_14 = true
      ·subst c20;rw [if_pos rfl] at H;by_cases c21 : (fbits a0_3) = 0
       ·rw [if_pos c21] at H;have c21b0 : ((fbits a0_3) == 0) = true:=beq_iff_eq.mpr c21;have c21b1 : ((fbits a0_3) != 0) = false:=bne_eq_false_iff_eq.mpr c21;clear c21;obtain rfl:=Option.some.inj H;obtain ⟨_,_,_,_,_,_,_,_,_,_⟩:=zc5 K112;go_wp2
        go_ret
        exact ⟨zE,zH HB⟩
       ·rw [if_neg c21] at H;have c21b0 : ((fbits a0_3) == 0) = false:=beq_eq_false_iff_ne.mpr c21;have c21b1 : ((fbits a0_3) != 0) = true:=bne_iff_ne.mpr c21;obtain rfl:=Option.some.inj H;obtain ⟨_,_,_,_,_,_,_,_,_,_⟩:=zc5 K112;go_wp2
        go_ret
        exact ⟨zE,zH HB⟩
      ·replace c20:=Bool.eq_false_iff.mpr c20;subst c20;rw [if_neg (show ¬ (false = true) by decide)] at H;replace H:=Option.bind_eq_some_iff.mp H;obtain ⟨t117,A240,H⟩:=H;(try dsimp only at H);have A24:=zA A240;clear A240;by_cases c25 : t117 = true
       ·subst c25;rw [if_pos rfl] at H;obtain rfl:=Option.some.inj H;obtain ⟨_,_,_,_,_,_,_,_,_,_⟩:=zc5 K112;go_wp2_with (first|((with_reducible refine gate_callee (f:=38) rfl ?_);refine zg (some 42) Try.func38 #[.float .f64 a0_3,.int .i64 1] ?_;(with_reducible refine (math_IsInf.calls a0_3 1 true _ A24.out).mono ?_);rintro e w' ⟨rfl,⟨nd,rfl⟩⟩;refine ⟨_,rfl,?_⟩))
        go_ret
        exact ⟨zE,zH HB⟩
       ·replace c25:=Bool.eq_false_iff.mpr c25;subst c25;rw [if_neg (show ¬ (false = true) by decide)] at H;replace H:=Option.bind_eq_some_iff.mp H;obtain ⟨t118,A270,H⟩:=H;(try dsimp only at H);have A27:=zA A270;clear A270;by_cases c28 : t118 = true
        ·subst c28;rw [if_pos rfl] at H;replace H:=Option.bind_eq_some_iff.mp H;obtain ⟨t119,A290,H⟩:=H;(try dsimp only at H);have A29:=zA A290;clear A290;obtain rfl:=Option.some.inj H;obtain ⟨_,_,_,_,_,_,_,_,_,_⟩:=zc5 K112;go_wp2_with (first|((with_reducible refine gate_callee (f:=38) rfl ?_);refine zg (some 42) Try.func38 #[.float .f64 a0_3,.int .i64 1] ?_;(with_reducible refine (math_IsInf.calls a0_3 1 false _ A24.out).mono ?_);rintro e w' ⟨rfl,⟨nd,rfl⟩⟩;refine ⟨_,rfl,?_⟩)|((with_reducible refine gate_callee (f:=62) rfl ?_);refine zg (some 48) Try.func62 #[.float .f64 a0_3] ?_;(with_reducible refine (message_distance.calls kj14 a0_3 true _ A27.out).mono ?_);rintro e w' ⟨rfl,⟨nd,rfl⟩⟩;refine ⟨_,rfl,?_⟩)|(go_at_call 61;(with_reducible refine (message_number.calls a0_4 t119 _ A29.out).mono ?_);rintro e w' ⟨rfl,⟨nd,rfl⟩⟩))
         go_ret
         exact ⟨zE,zH HB⟩
        ·replace c28:=Bool.eq_false_iff.mpr c28;subst c28;rw [if_neg (show ¬ (false = true) by decide)] at H;obtain rfl:=Option.some.inj H;obtain ⟨_,_,_,_,_,_,_,_,_,_⟩:=zc5 K112;go_wp2_with (first|((with_reducible refine gate_callee (f:=38) rfl ?_);refine zg (some 42) Try.func38 #[.float .f64 a0_3,.int .i64 1] ?_;(with_reducible refine (math_IsInf.calls a0_3 1 false _ A24.out).mono ?_);rintro e w' ⟨rfl,⟨nd,rfl⟩⟩;refine ⟨_,rfl,?_⟩)|((with_reducible refine gate_callee (f:=62) rfl ?_);refine zg (some 48) Try.func62 #[.float .f64 a0_3] ?_;(with_reducible refine (message_distance.calls kj14 a0_3 false _ A27.out).mono ?_);rintro e w' ⟨rfl,⟨nd,rfl⟩⟩;refine ⟨_,rfl,?_⟩))
         go_ret
         exact ⟨zE,zH HB⟩

/-! ### message_ahead: function 56 -/
def message_ahead.f (a0_0 : Int) (a0_1 : Int) (a0_2 : Nat) (a0_3 : Nat) (a0_4 : Int) (a1_0 : Int) (a1_1 : Int) (a1_2 : Nat) (a1_3 : Nat) (a1_4 : Int) : Option (Bool) := if a0_1 < a1_1 then (some true) else (if a0_1 = a1_1 then (some (decide (a0_0 < a1_0))) else (some false))
set_option maxHeartbeats 8000000 in
set_option maxRecDepth 100000 in
theorem message_ahead.calls (a0_0 : Int) (a0_1 : Int) (a0_2 : Nat) (a0_3 : Nat) (a0_4 : Int) (a1_0 : Int) (a1_1 : Int) (a1_2 : Nat) (a1_3 : Nat) (a1_4 : Int) (r : Bool) (w : World) (h : message_ahead.f a0_0 a0_1 a0_2 a0_3 a0_4 a1_0 a1_1 a1_2 a1_3 a1_4 = some r) :
  Calls Try.prog 56 #[.agg #[.int .i64 a0_0,.int .i64 a0_1,.float .f64 a0_2,.float .f64 a0_3,.int .i64 a0_4],.agg #[.int .i64 a1_0,.int .i64 a1_1,.float .f64 a1_2,.float .f64 a1_3,.int .i64 a1_4]] w fun e w' => e = .returned (.bool r) ∧ Below w.heap.size w w':=by
 have hu61:=Try.underlying61;have HB:=zA (Below.refl w.heap.size w);have H : (if a0_1 < a1_1 then (some true) else (if a0_1 = a1_1 then (some (decide (a0_0 < a1_0))) else (some false))) = some r:=h;clear h;by_cases c3 : a0_1 < a1_1
 ·rw [if_pos c3] at H;have c3b0 : decide (a0_1 < a1_1) = true:=decide_eq_true c3;clear c3;obtain rfl:=Option.some.inj H;go_enter Try.func56,Try.ntmps56
  go_wp2_with (first|((with_reducible refine gate_dst (N:=2) rfl ?_);refine zb (N:=2) (cs:=#[.int .i64 a0_0,.int .i64 a0_1,.float .f64 a0_2,.float .f64 a0_3,.int .i64 a0_4]) (t:=61) ?_;intro G120 hg w4 hbox hb;have K120:=zA (hbox);have GW120:=zN HB hg;have GE120:=zN HB hg;replace HB:=zS HB hb;clear hb hbox hg)|((with_reducible refine gate_dst (N:=3) rfl ?_);refine zb (N:=3) (cs:=#[.int .i64 a1_0,.int .i64 a1_1,.float .f64 a1_2,.float .f64 a1_3,.int .i64 a1_4]) (t:=61) ?_;intro G121 hg w5 hbox hb;have K121:=zA (hbox);have GW121:=zN HB hg;have GE121:=zN HB hg;replace HB:=zS HB hb;have NB120_121:=zL K120 hg;have NB121_120:=zG K120 hg;replace K120:=zB K120 hb;clear hb hbox hg;have:=NB120_121.1;have:=NB121_120.1;obtain ⟨_,_,_,_,_,_,_,_,_,_⟩:=zc5 K120;obtain ⟨_,_,_,_,_,_,_,_,_,_⟩:=zc5 K121))
  go_ret
  exact ⟨zE,zH HB⟩
 ·rw [if_neg c3] at H;have c3b0 : decide (a0_1 < a1_1) = false:=decide_eq_false c3;clear c3;by_cases c9 : a0_1 = a1_1
  ·rw [if_pos c9] at H;have c9b0 : (a0_1 == a1_1) = true:=beq_iff_eq.mpr c9;have c9b1 : (a0_1 != a1_1) = false:=bne_eq_false_iff_eq.mpr c9;clear c9;obtain rfl:=Option.some.inj H;go_enter Try.func56,Try.ntmps56
   go_wp2_with (first|((with_reducible refine gate_dst (N:=2) rfl ?_);refine zb (N:=2) (cs:=#[.int .i64 a0_0,.int .i64 a0_1,.float .f64 a0_2,.float .f64 a0_3,.int .i64 a0_4]) (t:=61) ?_;intro G120 hg w10 hbox hb;have K120:=zA (hbox);have GW120:=zN HB hg;have GE120:=zN HB hg;replace HB:=zS HB hb;clear hb hbox hg)|((with_reducible refine gate_dst (N:=3) rfl ?_);refine zb (N:=3) (cs:=#[.int .i64 a1_0,.int .i64 a1_1,.float .f64 a1_2,.float .f64 a1_3,.int .i64 a1_4]) (t:=61) ?_;intro G121 hg w11 hbox hb;have K121:=zA (hbox);have GW121:=zN HB hg;have GE121:=zN HB hg;replace HB:=zS HB hb;have NB120_121:=zL K120 hg;have NB121_120:=zG K120 hg;replace K120:=zB K120 hb;clear hb hbox hg;have:=NB120_121.1;have:=NB121_120.1;obtain ⟨_,_,_,_,_,_,_,_,_,_⟩:=zc5 K120;obtain ⟨_,_,_,_,_,_,_,_,_,_⟩:=zc5 K121))
   go_ret
   exact ⟨zE,zH HB⟩
  ·rw [if_neg c9] at H;have c9b0 : (a0_1 == a1_1) = false:=beq_eq_false_iff_ne.mpr c9;have c9b1 : (a0_1 != a1_1) = true:=bne_iff_ne.mpr c9;obtain rfl:=Option.some.inj H;go_enter Try.func56,Try.ntmps56
   go_wp2_with (first|((with_reducible refine gate_dst (N:=2) rfl ?_);refine zb (N:=2) (cs:=#[.int .i64 a0_0,.int .i64 a0_1,.float .f64 a0_2,.float .f64 a0_3,.int .i64 a0_4]) (t:=61) ?_;intro G120 hg w15 hbox hb;have K120:=zA (hbox);have GW120:=zN HB hg;have GE120:=zN HB hg;replace HB:=zS HB hb;clear hb hbox hg)|((with_reducible refine gate_dst (N:=3) rfl ?_);refine zb (N:=3) (cs:=#[.int .i64 a1_0,.int .i64 a1_1,.float .f64 a1_2,.float .f64 a1_3,.int .i64 a1_4]) (t:=61) ?_;intro G121 hg w16 hbox hb;have K121:=zA (hbox);have GW121:=zN HB hg;have GE121:=zN HB hg;replace HB:=zS HB hb;have NB120_121:=zL K120 hg;have NB121_120:=zG K120 hg;replace K120:=zB K120 hb;clear hb hbox hg;have:=NB120_121.1;have:=NB121_120.1;obtain ⟨_,_,_,_,_,_,_,_,_,_⟩:=zc5 K120;obtain ⟨_,_,_,_,_,_,_,_,_,_⟩:=zc5 K121))
   go_ret
   exact ⟨zE,zH HB⟩

/-! ### ident_within: function 69 -/
def ident_within.f (a0 : Int) : Option (Bool) := if a0 = 45 then (some true) else (if a0 ≥ 97 then (if a0 ≤ 122 then (some true) else (if a0 ≥ 48 then (some (decide (a0 ≤ 57))) else (some false))) else (if a0 ≥ 48 then (some (decide (a0 ≤ 57))) else (some false)))
set_option maxHeartbeats 8000000 in
set_option maxRecDepth 100000 in
theorem ident_within.calls (a0 : Int) (r : Bool) (w : World) (h : ident_within.f a0 = some r) :
  Calls Try.prog 69 #[.int .u8 a0] w fun e w' => e = .returned (.bool r) ∧ Drawn0 w w':=by
 have H : (if a0 = 45 then (some true) else (if a0 ≥ 97 then (if a0 ≤ 122 then (some true) else (if a0 ≥ 48 then (some (decide (a0 ≤ 57))) else (some false))) else (if a0 ≥ 48 then (some (decide (a0 ≤ 57))) else (some false)))) = some r:=h;clear h;by_cases c2 : a0 = 45
 ·rw [if_pos c2] at H;have c2b0 : (a0 == 45) = true:=beq_iff_eq.mpr c2;have c2b1 : (a0 != 45) = false:=bne_eq_false_iff_eq.mpr c2;clear c2;obtain rfl:=Option.some.inj H;go_enter Try.func69,Try.ntmps69
  go_wp2
  go_ret
  exact ⟨by first|rfl|(simp;done)|(simp [*];done),by repeat (first|exact Drawn0.refl _|apply Drawn0.step)⟩
 ·rw [if_neg c2] at H;have c2b0 : (a0 == 45) = false:=beq_eq_false_iff_ne.mpr c2;have c2b1 : (a0 != 45) = true:=bne_iff_ne.mpr c2;by_cases c3 : a0 ≥ 97
  ·rw [if_pos c3] at H;have c3b0 : decide (97 ≤ a0) = true:=decide_eq_true c3;clear c3;by_cases c4 : a0 ≤ 122
   ·rw [if_pos c4] at H;have c4b0 : decide (a0 ≤ 122) = true:=decide_eq_true c4;clear c4;obtain rfl:=Option.some.inj H;go_enter Try.func69,Try.ntmps69
    go_wp2
    go_ret
    exact ⟨by first|rfl|(simp;done)|(simp [*];done),by repeat (first|exact Drawn0.refl _|apply Drawn0.step)⟩
   ·rw [if_neg c4] at H;have c4b0 : decide (a0 ≤ 122) = false:=decide_eq_false c4;clear c4;by_cases c5 : a0 ≥ 48
    ·rw [if_pos c5] at H;have c5b0 : decide (48 ≤ a0) = true:=decide_eq_true c5;clear c5;obtain rfl:=Option.some.inj H;go_enter Try.func69,Try.ntmps69
     go_wp2
     go_ret
     exact ⟨by first|rfl|(simp;done)|(simp [*];done),by repeat (first|exact Drawn0.refl _|apply Drawn0.step)⟩
    ·rw [if_neg c5] at H;have c5b0 : decide (48 ≤ a0) = false:=decide_eq_false c5;clear c5;obtain rfl:=Option.some.inj H;go_enter Try.func69,Try.ntmps69
     go_wp2
     go_ret
     exact ⟨by first|rfl|(simp;done)|(simp [*];done),by repeat (first|exact Drawn0.refl _|apply Drawn0.step)⟩
  ·rw [if_neg c3] at H;have c3b0 : decide (97 ≤ a0) = false:=decide_eq_false c3;clear c3;by_cases c6 : a0 ≥ 48
   ·rw [if_pos c6] at H;have c6b0 : decide (48 ≤ a0) = true:=decide_eq_true c6;clear c6;obtain rfl:=Option.some.inj H;go_enter Try.func69,Try.ntmps69
    go_wp2
    go_ret
    exact ⟨by first|rfl|(simp;done)|(simp [*];done),by repeat (first|exact Drawn0.refl _|apply Drawn0.step)⟩
   ·rw [if_neg c6] at H;have c6b0 : decide (48 ≤ a0) = false:=decide_eq_false c6;clear c6;obtain rfl:=Option.some.inj H;go_enter Try.func69,Try.ntmps69
    go_wp2
    go_ret
    exact ⟨by first|rfl|(simp;done)|(simp [*];done),by repeat (first|exact Drawn0.refl _|apply Drawn0.step)⟩

end Go.Proofs.Ytpcgjdllgdkobaa.XA
