/- Go functions of this seat as Lean functions, with proofs that the calls come to them. (Written by xprint.py, a program of this session, over the kit's print.) -/
import Derived.Test.YtajejidnidomgaaXRx0
import Derived.Test.YtajejidnidomgaaXRx2
import Derived.Test.YtajejidnidomgaaXRx4
namespace Go.Proofs.Ytajejidnidomgaa.XR
open Go.RowKit Go.Proofs.YtajejidnidomgaaW.PrintWords Go.Proofs.YtajejidnidomgaaW.PrintLast Go.Proofs.YtajejidnidomgaaW.PrintMore
attribute [local go_sem] max2_int min2_int max_two min_two max_three min_three max_four min_four   -- for this text's walks alone
set_option linter.unusedVariables false
set_option linter.unusedSimpArgs false
open Go.Proofs.YtajejidnidomgaaW.PrintWords renaming blk_drewN → bN, blk_drew → bD, blk_alloc → bA, below_set → bS, blk_frozen → bF, blk_cell → bC, cell_far → cF, blk_far → bZ, blk_below → bB, pw_below_drewN → bwN, below_drew1 → bw1, below_alloc → bwA

/-! ### beaconref01_bounded: function 34 -/
def beaconref01_bounded.f (a0 : Nat) (a1 : Nat) : Option (Int) := (beaconref01_nan.f a0).bind fun t176 => (if t176 = true then (some 10) else ((beaconref01_inf.f a0).bind fun t177 => (if t177 = true then (some 11) else ((beaconref01_sign.f a0).bind fun t178 => (if t178 = true then (some 12) else (if (flt a0 4607182418800017408) = true then (some 13) else (if (flt a1 a0) = true then (some 14) else ((beaconref01_quarter.f a0).bind fun t179 => (if t179 = true then (some 0) else (some 15))))))))))
set_option maxHeartbeats 2500000 in
set_option maxRecDepth 100000 in
theorem beaconref01_bounded.calls (a0 : Nat) (a1 : Nat) (r : Int) (w : World) (h : beaconref01_bounded.f a0 a1 = some r) :
  Calls Try.prog 34 #[.float .f64 a0,.float .f64 a1] w fun e w' => e = .returned (.int .i64 r) ∧ Drawn0 w w':=by
 have H : ((beaconref01_nan.f a0).bind fun t176 => (if t176 = true then (some 10) else ((beaconref01_inf.f a0).bind fun t177 => (if t177 = true then (some 11) else ((beaconref01_sign.f a0).bind fun t178 => (if t178 = true then (some 12) else (if (flt a0 4607182418800017408) = true then (some 13) else (if (flt a1 a0) = true then (some 14) else ((beaconref01_quarter.f a0).bind fun t179 => (if t179 = true then (some 0) else (some 15))))))))))) = some r:=h
 clear h
 replace H:=Option.bind_eq_some_iff.mp H
 obtain ⟨t176,A30,H⟩:=H
 replace H : (if t176 = true then (some 10) else ((beaconref01_inf.f a0).bind fun t177 => (if t177 = true then (some 11) else ((beaconref01_sign.f a0).bind fun t178 => (if t178 = true then (some 12) else (if (flt a0 4607182418800017408) = true then (some 13) else (if (flt a1 a0) = true then (some 14) else ((beaconref01_quarter.f a0).bind fun t179 => (if t179 = true then (some 0) else (some 15)))))))))) = some r:=H
 have A3:=Aside0.mk A30
 clear A30
 by_cases c4 : t176 = true
 ·subst c4
  have H1 : (some 10) = some r:=by rw [if_pos rfl] at H;exact H
  clear H
  have H:=H1
  clear H1
  obtain rfl:=Option.some.inj H
  go_enter Try.func34,Try.ntmps34
  go_wp2_with (first|((with_reducible refine gate_callee (f:=41) rfl ?_);refine goesL_ (some 6) rfl rfl Try.func41 (by kernel_rfl) rfl #[.float .f64 a0] rfl (by (try simp only [List.map_toArray,List.map_cons,List.map_nil]);first|done|rfl|(simp only [List.length_drop,List.length_take];rfl)) ?_;(with_reducible refine (beaconref01_nan.calls a0 true _ A3.out).mono ?_);rintro e w' ⟨rfl,⟨nd,rfl⟩⟩;refine ⟨_,rfl,?_⟩))
  go_ret
  exact ⟨by first|rfl|(simp;done)|(simp [*];done),by repeat (first|exact Drawn0.refl _|apply Drawn0.step)⟩
 ·replace c4:=Bool.eq_false_iff.mpr c4
  subst c4
  have H1 : ((beaconref01_inf.f a0).bind fun t177 => (if t177 = true then (some 11) else ((beaconref01_sign.f a0).bind fun t178 => (if t178 = true then (some 12) else (if (flt a0 4607182418800017408) = true then (some 13) else (if (flt a1 a0) = true then (some 14) else ((beaconref01_quarter.f a0).bind fun t179 => (if t179 = true then (some 0) else (some 15))))))))) = some r:=by rw [if_neg (show ¬ (false = true) by decide)] at H;exact H
  clear H
  have H:=H1
  clear H1
  replace H:=Option.bind_eq_some_iff.mp H
  obtain ⟨t177,A50,H⟩:=H
  replace H : (if t177 = true then (some 11) else ((beaconref01_sign.f a0).bind fun t178 => (if t178 = true then (some 12) else (if (flt a0 4607182418800017408) = true then (some 13) else (if (flt a1 a0) = true then (some 14) else ((beaconref01_quarter.f a0).bind fun t179 => (if t179 = true then (some 0) else (some 15)))))))) = some r:=H
  have A5:=Aside0.mk A50
  clear A50
  by_cases c6 : t177 = true
  ·subst c6
   have H1 : (some 11) = some r:=by rw [if_pos rfl] at H;exact H
   clear H
   have H:=H1
   clear H1
   obtain rfl:=Option.some.inj H
   go_enter Try.func34,Try.ntmps34
   go_wp2_with (first|((with_reducible refine gate_callee (f:=41) rfl ?_);refine goesL_ (some 6) rfl rfl Try.func41 (by kernel_rfl) rfl #[.float .f64 a0] rfl (by (try simp only [List.map_toArray,List.map_cons,List.map_nil]);first|done|rfl|(simp only [List.length_drop,List.length_take];rfl)) ?_;(with_reducible refine (beaconref01_nan.calls a0 false _ A3.out).mono ?_);rintro e w' ⟨rfl,⟨nd,rfl⟩⟩;refine ⟨_,rfl,?_⟩)|((with_reducible refine gate_callee (f:=42) rfl ?_);refine goesL_ (some 8) rfl rfl Try.func42 (by kernel_rfl) rfl #[.float .f64 a0] rfl (by (try simp only [List.map_toArray,List.map_cons,List.map_nil]);first|done|rfl|(simp only [List.length_drop,List.length_take];rfl)) ?_;(with_reducible refine (beaconref01_inf.calls a0 true _ A5.out).mono ?_);rintro e w' ⟨rfl,⟨nd,rfl⟩⟩;refine ⟨_,rfl,?_⟩))
   go_ret
   exact ⟨by first|rfl|(simp;done)|(simp [*];done),by repeat (first|exact Drawn0.refl _|apply Drawn0.step)⟩
  ·replace c6:=Bool.eq_false_iff.mpr c6
   subst c6
   have H1 : ((beaconref01_sign.f a0).bind fun t178 => (if t178 = true then (some 12) else (if (flt a0 4607182418800017408) = true then (some 13) else (if (flt a1 a0) = true then (some 14) else ((beaconref01_quarter.f a0).bind fun t179 => (if t179 = true then (some 0) else (some 15))))))) = some r:=by rw [if_neg (show ¬ (false = true) by decide)] at H;exact H
   clear H
   have H:=H1
   clear H1
   replace H:=Option.bind_eq_some_iff.mp H
   obtain ⟨t178,A70,H⟩:=H
   replace H : (if t178 = true then (some 12) else (if (flt a0 4607182418800017408) = true then (some 13) else (if (flt a1 a0) = true then (some 14) else ((beaconref01_quarter.f a0).bind fun t179 => (if t179 = true then (some 0) else (some 15)))))) = some r:=H
   have A7:=Aside0.mk A70
   clear A70
   by_cases c8 : t178 = true
   ·subst c8
    have H1 : (some 12) = some r:=by rw [if_pos rfl] at H;exact H
    clear H
    have H:=H1
    clear H1
    obtain rfl:=Option.some.inj H
    go_enter Try.func34,Try.ntmps34
    go_wp2_with (first|((with_reducible refine gate_callee (f:=41) rfl ?_);refine goesL_ (some 6) rfl rfl Try.func41 (by kernel_rfl) rfl #[.float .f64 a0] rfl (by (try simp only [List.map_toArray,List.map_cons,List.map_nil]);first|done|rfl|(simp only [List.length_drop,List.length_take];rfl)) ?_;(with_reducible refine (beaconref01_nan.calls a0 false _ A3.out).mono ?_);rintro e w' ⟨rfl,⟨nd,rfl⟩⟩;refine ⟨_,rfl,?_⟩)|((with_reducible refine gate_callee (f:=42) rfl ?_);refine goesL_ (some 8) rfl rfl Try.func42 (by kernel_rfl) rfl #[.float .f64 a0] rfl (by (try simp only [List.map_toArray,List.map_cons,List.map_nil]);first|done|rfl|(simp only [List.length_drop,List.length_take];rfl)) ?_;(with_reducible refine (beaconref01_inf.calls a0 false _ A5.out).mono ?_);rintro e w' ⟨rfl,⟨nd,rfl⟩⟩;refine ⟨_,rfl,?_⟩)|((with_reducible refine gate_callee (f:=43) rfl ?_);refine goesL_ (some 10) rfl rfl Try.func43 (by kernel_rfl) rfl #[.float .f64 a0] rfl (by (try simp only [List.map_toArray,List.map_cons,List.map_nil]);first|done|rfl|(simp only [List.length_drop,List.length_take];rfl)) ?_;(with_reducible refine (beaconref01_sign.calls a0 true _ A7.out).mono ?_);rintro e w' ⟨rfl,⟨nd,rfl⟩⟩;refine ⟨_,rfl,?_⟩))
    go_ret
    exact ⟨by first|rfl|(simp;done)|(simp [*];done),by repeat (first|exact Drawn0.refl _|apply Drawn0.step)⟩
   ·replace c8:=Bool.eq_false_iff.mpr c8
    subst c8
    have H1 : (if (flt a0 4607182418800017408) = true then (some 13) else (if (flt a1 a0) = true then (some 14) else ((beaconref01_quarter.f a0).bind fun t179 => (if t179 = true then (some 0) else (some 15))))) = some r:=by rw [if_neg (show ¬ (false = true) by decide)] at H;exact H
    clear H
    have H:=H1
    clear H1
    by_cases c9 : (flt a0 4607182418800017408) = true
    ·rw [if_pos c9] at H
     have c9b0 : (flt a0 4607182418800017408) = true:=c9
     clear c9
     obtain rfl:=Option.some.inj H
     go_enter Try.func34,Try.ntmps34
     go_wp2_with (first|((with_reducible refine gate_callee (f:=41) rfl ?_);refine goesL_ (some 6) rfl rfl Try.func41 (by kernel_rfl) rfl #[.float .f64 a0] rfl (by (try simp only [List.map_toArray,List.map_cons,List.map_nil]);first|done|rfl|(simp only [List.length_drop,List.length_take];rfl)) ?_;(with_reducible refine (beaconref01_nan.calls a0 false _ A3.out).mono ?_);rintro e w' ⟨rfl,⟨nd,rfl⟩⟩;refine ⟨_,rfl,?_⟩)|((with_reducible refine gate_callee (f:=42) rfl ?_);refine goesL_ (some 8) rfl rfl Try.func42 (by kernel_rfl) rfl #[.float .f64 a0] rfl (by (try simp only [List.map_toArray,List.map_cons,List.map_nil]);first|done|rfl|(simp only [List.length_drop,List.length_take];rfl)) ?_;(with_reducible refine (beaconref01_inf.calls a0 false _ A5.out).mono ?_);rintro e w' ⟨rfl,⟨nd,rfl⟩⟩;refine ⟨_,rfl,?_⟩)|((with_reducible refine gate_callee (f:=43) rfl ?_);refine goesL_ (some 10) rfl rfl Try.func43 (by kernel_rfl) rfl #[.float .f64 a0] rfl (by (try simp only [List.map_toArray,List.map_cons,List.map_nil]);first|done|rfl|(simp only [List.length_drop,List.length_take];rfl)) ?_;(with_reducible refine (beaconref01_sign.calls a0 false _ A7.out).mono ?_);rintro e w' ⟨rfl,⟨nd,rfl⟩⟩;refine ⟨_,rfl,?_⟩))
     go_ret
     exact ⟨by first|rfl|(simp;done)|(simp [*];done),by repeat (first|exact Drawn0.refl _|apply Drawn0.step)⟩
    ·rw [if_neg c9] at H
     have c9b0 : (flt a0 4607182418800017408) = false:=by simpa using c9
     clear c9
     by_cases c10 : (flt a1 a0) = true
     ·rw [if_pos c10] at H
      have c10b0 : (flt a1 a0) = true:=c10
      clear c10
      obtain rfl:=Option.some.inj H
      go_enter Try.func34,Try.ntmps34
      go_wp2_with (first|((with_reducible refine gate_callee (f:=41) rfl ?_);refine goesL_ (some 6) rfl rfl Try.func41 (by kernel_rfl) rfl #[.float .f64 a0] rfl (by (try simp only [List.map_toArray,List.map_cons,List.map_nil]);first|done|rfl|(simp only [List.length_drop,List.length_take];rfl)) ?_;(with_reducible refine (beaconref01_nan.calls a0 false _ A3.out).mono ?_);rintro e w' ⟨rfl,⟨nd,rfl⟩⟩;refine ⟨_,rfl,?_⟩)|((with_reducible refine gate_callee (f:=42) rfl ?_);refine goesL_ (some 8) rfl rfl Try.func42 (by kernel_rfl) rfl #[.float .f64 a0] rfl (by (try simp only [List.map_toArray,List.map_cons,List.map_nil]);first|done|rfl|(simp only [List.length_drop,List.length_take];rfl)) ?_;(with_reducible refine (beaconref01_inf.calls a0 false _ A5.out).mono ?_);rintro e w' ⟨rfl,⟨nd,rfl⟩⟩;refine ⟨_,rfl,?_⟩)|((with_reducible refine gate_callee (f:=43) rfl ?_);refine goesL_ (some 10) rfl rfl Try.func43 (by kernel_rfl) rfl #[.float .f64 a0] rfl (by (try simp only [List.map_toArray,List.map_cons,List.map_nil]);first|done|rfl|(simp only [List.length_drop,List.length_take];rfl)) ?_;(with_reducible refine (beaconref01_sign.calls a0 false _ A7.out).mono ?_);rintro e w' ⟨rfl,⟨nd,rfl⟩⟩;refine ⟨_,rfl,?_⟩))
      go_ret
      exact ⟨by first|rfl|(simp;done)|(simp [*];done),by repeat (first|exact Drawn0.refl _|apply Drawn0.step)⟩
     ·rw [if_neg c10] at H
      have c10b0 : (flt a1 a0) = false:=by simpa using c10
      clear c10
      replace H:=Option.bind_eq_some_iff.mp H
      obtain ⟨t179,A110,H⟩:=H
      replace H : (if t179 = true then (some 0) else (some 15)) = some r:=H
      have A11:=Aside0.mk A110
      clear A110
      by_cases c12 : t179 = true
      ·subst c12
       have H1 : (some 0) = some r:=by rw [if_pos rfl] at H;exact H
       clear H
       have H:=H1
       clear H1
       obtain rfl:=Option.some.inj H
       go_enter Try.func34,Try.ntmps34
       go_wp2_with (first|((with_reducible refine gate_callee (f:=41) rfl ?_);refine goesL_ (some 6) rfl rfl Try.func41 (by kernel_rfl) rfl #[.float .f64 a0] rfl (by (try simp only [List.map_toArray,List.map_cons,List.map_nil]);first|done|rfl|(simp only [List.length_drop,List.length_take];rfl)) ?_;(with_reducible refine (beaconref01_nan.calls a0 false _ A3.out).mono ?_);rintro e w' ⟨rfl,⟨nd,rfl⟩⟩;refine ⟨_,rfl,?_⟩)|((with_reducible refine gate_callee (f:=42) rfl ?_);refine goesL_ (some 8) rfl rfl Try.func42 (by kernel_rfl) rfl #[.float .f64 a0] rfl (by (try simp only [List.map_toArray,List.map_cons,List.map_nil]);first|done|rfl|(simp only [List.length_drop,List.length_take];rfl)) ?_;(with_reducible refine (beaconref01_inf.calls a0 false _ A5.out).mono ?_);rintro e w' ⟨rfl,⟨nd,rfl⟩⟩;refine ⟨_,rfl,?_⟩)|((with_reducible refine gate_callee (f:=43) rfl ?_);refine goesL_ (some 10) rfl rfl Try.func43 (by kernel_rfl) rfl #[.float .f64 a0] rfl (by (try simp only [List.map_toArray,List.map_cons,List.map_nil]);first|done|rfl|(simp only [List.length_drop,List.length_take];rfl)) ?_;(with_reducible refine (beaconref01_sign.calls a0 false _ A7.out).mono ?_);rintro e w' ⟨rfl,⟨nd,rfl⟩⟩;refine ⟨_,rfl,?_⟩)|((with_reducible refine gate_callee (f:=44) rfl ?_);refine goesL_ (some 17) rfl rfl Try.func44 (by kernel_rfl) rfl #[.float .f64 a0] rfl (by (try simp only [List.map_toArray,List.map_cons,List.map_nil]);first|done|rfl|(simp only [List.length_drop,List.length_take];rfl)) ?_;(with_reducible refine (beaconref01_quarter.calls a0 true _ A11.out).mono ?_);rintro e w' ⟨rfl,⟨nd,rfl⟩⟩;refine ⟨_,rfl,?_⟩))
       go_ret
       exact ⟨by first|rfl|(simp;done)|(simp [*];done),by repeat (first|exact Drawn0.refl _|apply Drawn0.step)⟩
      ·replace c12:=Bool.eq_false_iff.mpr c12
       subst c12
       have H1 : (some 15) = some r:=by rw [if_neg (show ¬ (false = true) by decide)] at H;exact H
       clear H
       have H:=H1
       clear H1
       obtain rfl:=Option.some.inj H
       go_enter Try.func34,Try.ntmps34
       go_wp2_with (first|((with_reducible refine gate_callee (f:=41) rfl ?_);refine goesL_ (some 6) rfl rfl Try.func41 (by kernel_rfl) rfl #[.float .f64 a0] rfl (by (try simp only [List.map_toArray,List.map_cons,List.map_nil]);first|done|rfl|(simp only [List.length_drop,List.length_take];rfl)) ?_;(with_reducible refine (beaconref01_nan.calls a0 false _ A3.out).mono ?_);rintro e w' ⟨rfl,⟨nd,rfl⟩⟩;refine ⟨_,rfl,?_⟩)|((with_reducible refine gate_callee (f:=42) rfl ?_);refine goesL_ (some 8) rfl rfl Try.func42 (by kernel_rfl) rfl #[.float .f64 a0] rfl (by (try simp only [List.map_toArray,List.map_cons,List.map_nil]);first|done|rfl|(simp only [List.length_drop,List.length_take];rfl)) ?_;(with_reducible refine (beaconref01_inf.calls a0 false _ A5.out).mono ?_);rintro e w' ⟨rfl,⟨nd,rfl⟩⟩;refine ⟨_,rfl,?_⟩)|((with_reducible refine gate_callee (f:=43) rfl ?_);refine goesL_ (some 10) rfl rfl Try.func43 (by kernel_rfl) rfl #[.float .f64 a0] rfl (by (try simp only [List.map_toArray,List.map_cons,List.map_nil]);first|done|rfl|(simp only [List.length_drop,List.length_take];rfl)) ?_;(with_reducible refine (beaconref01_sign.calls a0 false _ A7.out).mono ?_);rintro e w' ⟨rfl,⟨nd,rfl⟩⟩;refine ⟨_,rfl,?_⟩)|((with_reducible refine gate_callee (f:=44) rfl ?_);refine goesL_ (some 17) rfl rfl Try.func44 (by kernel_rfl) rfl #[.float .f64 a0] rfl (by (try simp only [List.map_toArray,List.map_cons,List.map_nil]);first|done|rfl|(simp only [List.length_drop,List.length_take];rfl)) ?_;(with_reducible refine (beaconref01_quarter.calls a0 false _ A11.out).mono ?_);rintro e w' ⟨rfl,⟨nd,rfl⟩⟩;refine ⟨_,rfl,?_⟩))
       go_ret
       exact ⟨by first|rfl|(simp;done)|(simp [*];done),by repeat (first|exact Drawn0.refl _|apply Drawn0.step)⟩

/-! ### beaconref01_Weight: function 19 -/
def beaconref01_Weight.f (a0 : Nat) : Option (Int) := (beaconref01_bounded.f a0 4697254411347427328).bind fun t180 => (some t180)
set_option maxHeartbeats 2500000 in
set_option maxRecDepth 100000 in
theorem beaconref01_Weight.calls (a0 : Nat) (r : Int) (w : World) (h : beaconref01_Weight.f a0 = some r) :
  Calls Try.prog 19 #[.float .f64 a0] w fun e w' => e = .returned (.int .i64 r) ∧ Drawn0 w w':=by
 have H : ((beaconref01_bounded.f a0 4697254411347427328).bind fun t180 => (some t180)) = some r:=h
 clear h
 replace H:=Option.bind_eq_some_iff.mp H
 obtain ⟨t180,A20,H⟩:=H
 replace H : (some t180) = some r:=H
 have A2:=Aside0.mk A20
 clear A20
 obtain rfl:=Option.some.inj H
 go_enter Try.func19,Try.ntmps19
 go_wp2_with (first|((with_reducible refine gate_callee (f:=34) rfl ?_);refine goesL_ (some 4) rfl rfl Try.func34 (by kernel_rfl) rfl #[.float .f64 a0,.float .f64 4697254411347427328] rfl (by (try simp only [List.map_toArray,List.map_cons,List.map_nil]);first|done|rfl|(simp only [List.length_drop,List.length_take];rfl)) ?_;(with_reducible refine (beaconref01_bounded.calls a0 4697254411347427328 t180 _ A2.out).mono ?_);rintro e w' ⟨rfl,⟨nd,rfl⟩⟩;refine ⟨_,rfl,?_⟩))
 go_ret
 exact ⟨by first|rfl|(simp;done)|(simp [*];done),by repeat (first|exact Drawn0.refl _|apply Drawn0.step)⟩

/-! ### beaconref05_Hold: function 16 -/
def beaconref05_Hold.j0 : Nat → Nat → Nat → Bool → Option (Nat × Int)
 | 0, _, _, _ => none
 | k + 1, x0, x1, x14 => if x14 = true then (some (0, 1)) else (if (fsubOk x1 x0) = true then (if (flt (fsub x1 x0) 0) = true then (if (fsubOk x0 x1) = true then (if (fdivOk x0 4620693217682128896) = true then (if (fle (fsub x0 x1) (fdiv x0 4620693217682128896)) = true then (some (x0, 0)) else (some (x1, 0))) else (none)) else (none)) else (if (fdivOk x0 4620693217682128896) = true then (if (fle (fsub x1 x0) (fdiv x0 4620693217682128896)) = true then (some (x0, 0)) else (some (x1, 0))) else (none))) else (none))
def beaconref05_Hold.f (k : Nat) (a0 : Nat) (a1 : Nat) : Option (Nat × Int) := (beaconref01_Weight.f a0).bind fun t181 => (if t181 = 0 then ((beaconref01_Weight.f a1).bind fun t182 => (beaconref05_Hold.j0 k a0 a1 (t182 != 0))) else (beaconref05_Hold.j0 k a0 a1 true))
theorem beaconref05_Hold.mono_l : ∀ k, (∀ y0 y1 y2, LeO (beaconref05_Hold.j0 k y0 y1 y2) (beaconref05_Hold.j0 (k + 1) y0 y1 y2))
 | 0 => fun _ _ _ r h => by simp [beaconref05_Hold.j0] at h
 | k + 1 => by
  have ih0:=beaconref05_Hold.mono_l k
  ·intro y0 y1 y2
   unfold beaconref05_Hold.j0
   repeat' first
   | (with_reducible exact ih0 _ _ _)
   | (with_reducible exact LeO.refl _)
   | (with_reducible exact LeO.none _)
   | (with_reducible refine LeO.ite ?_ ?_)
   | (with_reducible refine LeO.bind ?_ (fun _ => ?_))
   | exact ih0 _ _ _
   | exact LeO.none _
   | refine LeO.ite ?_ ?_
   | refine LeO.bind ?_ (fun _ => ?_)
theorem beaconref05_Hold.mono : ∀ a0 a1 k, LeO (beaconref05_Hold.f k a0 a1) (beaconref05_Hold.f (k + 1) a0 a1) := by
 intro a0 a1 k
 have ih0:=beaconref05_Hold.mono_l k
 unfold beaconref05_Hold.f
 repeat' first
   | (with_reducible exact ih0 _ _ _)
   | (with_reducible exact LeO.refl _)
   | (with_reducible exact LeO.none _)
   | (with_reducible refine LeO.ite ?_ ?_)
   | (with_reducible refine LeO.bind ?_ (fun _ => ?_))
   | exact ih0 _ _ _
   | exact LeO.none _
   | refine LeO.ite ?_ ?_
   | refine LeO.bind ?_ (fun _ => ?_)
set_option maxHeartbeats 2500000 in
set_option maxRecDepth 100000 in
theorem beaconref05_Hold.calls (k : Nat) (a0 : Nat) (a1 : Nat) (r1 : Nat) (r2 : Int) (w : World) (h : beaconref05_Hold.f k a0 a1 = some (r1, r2)) :
  Calls Try.prog 16 #[.float .f64 a0,.float .f64 a1] w fun e w' => e = .returned (.tuple #[.float .f64 r1,.int .i64 r2]) ∧ Drawn0 w w':=by
 have H : ((beaconref01_Weight.f a0).bind fun t181 => (if t181 = 0 then ((beaconref01_Weight.f a1).bind fun t182 => (beaconref05_Hold.j0 k a0 a1 (t182 != 0))) else (beaconref05_Hold.j0 k a0 a1 true))) = some (r1,r2):=h
 clear h
 have HC3:=Aside0.mk H
 clear H
 go_enter Try.func16,Try.ntmps16
 go_upto_region 1 with (fail)
 go_cut [14] (fun v14 wc => ∃ (kq : Nat) (x14_2 : Bool),v14 = .bool x14_2 ∧ Aside0 (beaconref05_Hold.j0 kq a0 a1 x14_2 = some (r1,r2)) ∧ Aside0 (kq ≤ k) ∧ Drawn0 w wc)
 case first =>
  have H:=HC3.out
  clear HC3
  replace H:=Option.bind_eq_some_iff.mp H
  obtain ⟨t181,A40,H⟩:=H
  replace H : (if t181 = 0 then ((beaconref01_Weight.f a1).bind fun t182 => (beaconref05_Hold.j0 k a0 a1 (t182 != 0))) else (beaconref05_Hold.j0 k a0 a1 true)) = some (r1,r2):=H
  have A4:=Aside0.mk A40
  clear A40
  by_cases c5 : t181 = 0
  ·rw [if_pos c5] at H
   have c5b0 : (t181 == 0) = true:=beq_iff_eq.mpr c5
   have c5b1 : (t181 != 0) = false:=bne_eq_false_iff_eq.mpr c5
   clear c5
   (first|rw [c5b0]|(simp only [i64_w,i32_w];rw [c5b0])|skip)
   replace H:=Option.bind_eq_some_iff.mp H
   obtain ⟨t182,A60,H⟩:=H
   replace H : (beaconref05_Hold.j0 k a0 a1 (t182 != 0)) = some (r1,r2):=H
   have A6:=Aside0.mk A60
   clear A60
   have H':=Aside0.mk H
   clear H
   go_wp2_with (first|((with_reducible refine gate_callee (f:=19) rfl ?_);refine goesL_ (some 8) rfl rfl Try.func19 (by kernel_rfl) rfl #[.float .f64 a0] rfl (by (try simp only [List.map_toArray,List.map_cons,List.map_nil]);first|done|rfl|(simp only [List.length_drop,List.length_take];rfl)) ?_;(with_reducible refine (beaconref01_Weight.calls a0 t181 _ A4.out).mono ?_);rintro e w' ⟨rfl,⟨nd,rfl⟩⟩;refine ⟨_,rfl,?_⟩)|(go_at_call 19;(with_reducible refine (beaconref01_Weight.calls a1 t182 _ A6.out).mono ?_);rintro e w' ⟨rfl,⟨nd,rfl⟩⟩))
   go_meet
   case rel => exact ⟨_,((t182 != 0)),(by first|rfl|(simp;done)|(simp [*];done)),H',⟨by first|omega|exact Nat.le_refl _⟩,by repeat (first|exact Drawn0.refl _|apply Drawn0.step)⟩
  ·rw [if_neg c5] at H
   have c5b0 : (t181 == 0) = false:=beq_eq_false_iff_ne.mpr c5
   have c5b1 : (t181 != 0) = true:=bne_iff_ne.mpr c5
   (first|rw [c5b0]|(simp only [i64_w,i32_w];rw [c5b0])|skip)
   have H':=Aside0.mk H
   clear H
   go_wp2_with (first|((with_reducible refine gate_callee (f:=19) rfl ?_);refine goesL_ (some 8) rfl rfl Try.func19 (by kernel_rfl) rfl #[.float .f64 a0] rfl (by (try simp only [List.map_toArray,List.map_cons,List.map_nil]);first|done|rfl|(simp only [List.length_drop,List.length_take];rfl)) ?_;(with_reducible refine (beaconref01_Weight.calls a0 t181 _ A4.out).mono ?_);rintro e w' ⟨rfl,⟨nd,rfl⟩⟩;refine ⟨_,rfl,?_⟩))
   go_meet
   case rel => exact ⟨_,(true),(by first|rfl|(simp;done)|(simp [*];done)),H',⟨by first|omega|exact Nat.le_refl _⟩,by repeat (first|exact Drawn0.refl _|apply Drawn0.step)⟩
 case rest =>
  clear HC3
  try clear c1
  try clear p2
  try clear c5
  try clear c5b0
  try clear c5b1
  obtain ⟨kq,x14_2,rfl,HA,HJ2,⟨mc2,rfl⟩⟩:=hcut
  cases kq with
  | zero => exact absurd HA.out (by simp [beaconref05_Hold.j0])
  | succ kj2 =>
   have H:=HA.out
   clear HA
   simp only [beaconref05_Hold.j0] at H
   by_cases c7 : x14_2 = true
   ·subst c7
    have H1 : (some (0,1)) = some (r1,r2):=by rw [if_pos rfl] at H;exact H
    clear H
    have H:=H1
    clear H1
    simp only [Option.some.injEq,Prod.mk.injEq] at H
    obtain ⟨rfl,rfl⟩:=H
    go_wp2
    go_ret2
    exact ⟨by first|rfl|(simp;done)|(simp [*];done),by repeat (first|exact Drawn0.refl _|apply Drawn0.step)⟩
   ·replace c7:=Bool.eq_false_iff.mpr c7
    subst c7
    have H1 : (if (fsubOk a1 a0) = true then (if (flt (fsub a1 a0) 0) = true then (if (fsubOk a0 a1) = true then (if (fdivOk a0 4620693217682128896) = true then (if (fle (fsub a0 a1) (fdiv a0 4620693217682128896)) = true then (some (a0,0)) else (some (a1,0))) else (none)) else (none)) else (if (fdivOk a0 4620693217682128896) = true then (if (fle (fsub a1 a0) (fdiv a0 4620693217682128896)) = true then (some (a0,0)) else (some (a1,0))) else (none))) else (none)) = some (r1,r2):=by rw [if_neg (show ¬ (false = true) by decide)] at H;exact H
    clear H
    have H:=H1
    clear H1
    by_cases c8 : (fsubOk a1 a0) = true
    ·rw [if_pos c8] at H
     have c8b0:=eq_true c8
     have c8b1 : decide ((fsubOk a1 a0) = true) = true:=decide_eq_true c8
     clear c8
     by_cases c9 : (flt (fsub a1 a0) 0) = true
     ·rw [if_pos c9] at H
      have c9b0 : (flt (fsub a1 a0) 0) = true:=c9
      clear c9
      by_cases c10 : (fsubOk a0 a1) = true
      ·rw [if_pos c10] at H
       have c10b0:=eq_true c10
       have c10b1 : decide ((fsubOk a0 a1) = true) = true:=decide_eq_true c10
       clear c10
       by_cases c11 : (fdivOk a0 4620693217682128896) = true
       ·rw [if_pos c11] at H
        have c11b0:=eq_true c11
        have c11b1 : decide ((fdivOk a0 4620693217682128896) = true) = true:=decide_eq_true c11
        clear c11
        by_cases c12 : (fle (fsub a0 a1) (fdiv a0 4620693217682128896)) = true
        ·rw [if_pos c12] at H
         have c12b0 : (fle (fsub a0 a1) (fdiv a0 4620693217682128896)) = true:=c12
         clear c12
         simp only [Option.some.injEq,Prod.mk.injEq] at H
         obtain ⟨rfl,rfl⟩:=H
         go_wp2
         go_ret2
         exact ⟨by first|rfl|(simp;done)|(simp [*];done),by repeat (first|exact Drawn0.refl _|apply Drawn0.step)⟩
        ·rw [if_neg c12] at H
         have c12b0 : (fle (fsub a0 a1) (fdiv a0 4620693217682128896)) = false:=by simpa using c12
         clear c12
         simp only [Option.some.injEq,Prod.mk.injEq] at H
         obtain ⟨rfl,rfl⟩:=H
         go_wp2
         go_ret2
         exact ⟨by first|rfl|(simp;done)|(simp [*];done),by repeat (first|exact Drawn0.refl _|apply Drawn0.step)⟩
       ·rw [if_neg c11] at H
        exact absurd H (by simp)
      ·rw [if_neg c10] at H
       exact absurd H (by simp)
     ·rw [if_neg c9] at H
      have c9b0 : (flt (fsub a1 a0) 0) = false:=by simpa using c9
      clear c9
      by_cases c13 : (fdivOk a0 4620693217682128896) = true
      ·rw [if_pos c13] at H
       have c13b0:=eq_true c13
       have c13b1 : decide ((fdivOk a0 4620693217682128896) = true) = true:=decide_eq_true c13
       clear c13
       by_cases c14 : (fle (fsub a1 a0) (fdiv a0 4620693217682128896)) = true
       ·rw [if_pos c14] at H
        have c14b0 : (fle (fsub a1 a0) (fdiv a0 4620693217682128896)) = true:=c14
        clear c14
        simp only [Option.some.injEq,Prod.mk.injEq] at H
        obtain ⟨rfl,rfl⟩:=H
        go_wp2
        go_ret2
        exact ⟨by first|rfl|(simp;done)|(simp [*];done),by repeat (first|exact Drawn0.refl _|apply Drawn0.step)⟩
       ·rw [if_neg c14] at H
        have c14b0 : (fle (fsub a1 a0) (fdiv a0 4620693217682128896)) = false:=by simpa using c14
        clear c14
        simp only [Option.some.injEq,Prod.mk.injEq] at H
        obtain ⟨rfl,rfl⟩:=H
        go_wp2
        go_ret2
        exact ⟨by first|rfl|(simp;done)|(simp [*];done),by repeat (first|exact Drawn0.refl _|apply Drawn0.step)⟩
      ·rw [if_neg c13] at H
       exact absurd H (by simp)
    ·rw [if_neg c8] at H
     exact absurd H (by simp)

/-! ### math_Modf: function 55 -/
def math_Modf.f (a0 : Nat) : Option (Nat × Nat) := (math_Trunc.f a0).bind fun t183 => (if (fsubOk a0 t183) = true then ((math_Copysign.f (fsub a0 t183) a0).bind fun t184 => (some (t183, t184))) else (none))
set_option maxHeartbeats 2500000 in
set_option maxRecDepth 100000 in
theorem math_Modf.calls (a0 : Nat) (r1 : Nat) (r2 : Nat) (w : World) (h : math_Modf.f a0 = some (r1, r2)) :
  Calls Try.prog 55 #[.float .f64 a0] w fun e w' => e = .returned (.tuple #[.float .f64 r1,.float .f64 r2]) ∧ Drawn0 w w':=by
 have H : ((math_Trunc.f a0).bind fun t183 => (if (fsubOk a0 t183) = true then ((math_Copysign.f (fsub a0 t183) a0).bind fun t184 => (some (t183,t184))) else (none))) = some (r1,r2):=h
 clear h
 replace H:=Option.bind_eq_some_iff.mp H
 obtain ⟨t183,A20,H⟩:=H
 replace H : (if (fsubOk a0 t183) = true then ((math_Copysign.f (fsub a0 t183) a0).bind fun t184 => (some (t183,t184))) else (none)) = some (r1,r2):=H
 have A2:=Aside0.mk A20
 clear A20
 by_cases c3 : (fsubOk a0 t183) = true
 ·rw [if_pos c3] at H
  have c3b0:=eq_true c3
  have c3b1 : decide ((fsubOk a0 t183) = true) = true:=decide_eq_true c3
  clear c3
  replace H:=Option.bind_eq_some_iff.mp H
  obtain ⟨t184,A40,H⟩:=H
  replace H : (some (t183,t184)) = some (r1,r2):=H
  have A4:=Aside0.mk A40
  clear A40
  simp only [Option.some.injEq,Prod.mk.injEq] at H
  obtain ⟨rfl,rfl⟩:=H
  go_enter Try.func55,Try.ntmps55
  go_wp2_with (first|((with_reducible refine gate_callee (f:=48) rfl ?_);refine goesL_ (some 5) rfl rfl Try.func48 (by kernel_rfl) rfl #[.float .f64 a0] rfl (by (try simp only [List.map_toArray,List.map_cons,List.map_nil]);first|done|rfl|(simp only [List.length_drop,List.length_take];rfl)) ?_;(with_reducible refine (math_Trunc.calls a0 t183 _ A2.out).mono ?_);rintro e w' ⟨rfl,⟨nd,rfl⟩⟩;refine ⟨_,rfl,?_⟩)|((with_reducible refine gate_callee (f:=59) rfl ?_);refine goesL_ (some 10) rfl rfl Try.func59 (by kernel_rfl) rfl #[.float .f64 (fsub a0 t183),.float .f64 a0] rfl (by (try simp only [List.map_toArray,List.map_cons,List.map_nil]);first|done|rfl|(simp only [List.length_drop,List.length_take];rfl)) ?_;(with_reducible refine (math_Copysign.calls (fsub a0 t183) a0 t184 _ A4.out).mono ?_);rintro e w' ⟨rfl,⟨nd,rfl⟩⟩;refine ⟨_,rfl,?_⟩))
  go_ret2
  exact ⟨by first|rfl|(simp;done)|(simp [*];done),by repeat (first|exact Drawn0.refl _|apply Drawn0.step)⟩
 ·rw [if_neg c3] at H
  exact absurd H (by simp)

/-! ### math_floor: function 50 -/
def math_floor.j0 : Nat → Nat → Bool → Option (Nat)
 | 0, _, _ => none
 | k + 1, x0, x16 => if x16 = true then (some x0) else (if (flt x0 0) = true then ((math_Modf.f (fneg x0)).bind fun bt187 => (if (feq bt187.2 0) = true then (some (fneg bt187.1)) else (if (faddOk bt187.1 4607182418800017408) = true then (some (fneg (fadd bt187.1 4607182418800017408))) else (none)))) else ((math_Modf.f x0).bind fun bt189 => (some bt189.1)))
def math_floor.f (k : Nat) (a0 : Nat) : Option (Nat) := if (feq a0 0) = true then (math_floor.j0 k a0 true) else ((math_IsNaN.f a0).bind fun t185 => (if t185 = true then (math_floor.j0 k a0 true) else ((math_IsInf.f a0 0).bind fun t186 => (math_floor.j0 k a0 t186))))
theorem math_floor.mono_l : ∀ k, (∀ y0 y1, LeO (math_floor.j0 k y0 y1) (math_floor.j0 (k + 1) y0 y1))
 | 0 => fun _ _ r h => by simp [math_floor.j0] at h
 | k + 1 => by
  have ih0:=math_floor.mono_l k
  ·intro y0 y1
   unfold math_floor.j0
   repeat' first
   | (with_reducible exact ih0 _ _)
   | (with_reducible exact LeO.refl _)
   | (with_reducible exact LeO.none _)
   | (with_reducible refine LeO.ite ?_ ?_)
   | (with_reducible refine LeO.bind ?_ (fun _ => ?_))
   | exact ih0 _ _
   | exact LeO.none _
   | refine LeO.ite ?_ ?_
   | refine LeO.bind ?_ (fun _ => ?_)
theorem math_floor.mono : ∀ a0 k, LeO (math_floor.f k a0) (math_floor.f (k + 1) a0) := by
 intro a0 k
 have ih0:=math_floor.mono_l k
 unfold math_floor.f
 repeat' first
   | (with_reducible exact ih0 _ _)
   | (with_reducible exact LeO.refl _)
   | (with_reducible exact LeO.none _)
   | (with_reducible refine LeO.ite ?_ ?_)
   | (with_reducible refine LeO.bind ?_ (fun _ => ?_))
   | exact ih0 _ _
   | exact LeO.none _
   | refine LeO.ite ?_ ?_
   | refine LeO.bind ?_ (fun _ => ?_)
set_option maxHeartbeats 2500000 in
set_option maxRecDepth 100000 in
theorem math_floor.calls (k : Nat) (a0 : Nat) (r : Nat) (w : World) (h : math_floor.f k a0 = some r) :
  Calls Try.prog 50 #[.float .f64 a0] w fun e w' => e = .returned (.float .f64 r) ∧ Drawn0 w w':=by
 have H : (if (feq a0 0) = true then (math_floor.j0 k a0 true) else ((math_IsNaN.f a0).bind fun t185 => (if t185 = true then (math_floor.j0 k a0 true) else ((math_IsInf.f a0 0).bind fun t186 => (math_floor.j0 k a0 t186))))) = some r:=h
 clear h
 have HC2:=Aside0.mk H
 clear H
 go_enter Try.func50,Try.ntmps50
 go_upto_region 1 with (fail)
 go_cut [16] (fun v16 wc => ∃ (kq : Nat) (x16_1 : Bool),v16 = .bool x16_1 ∧ Aside0 (math_floor.j0 kq a0 x16_1 = some r) ∧ Aside0 (kq ≤ k) ∧ Drawn0 w wc)
 case first =>
  have H:=HC2.out
  clear HC2
  by_cases c3 : (feq a0 0) = true
  ·rw [if_pos c3] at H
   have c3b0 : (feq a0 0) = true:=c3
   clear c3
   (first|rw [c3b0]|(simp only [i64_w,i32_w];rw [c3b0])|skip)
   have H':=Aside0.mk H
   clear H
   go_wp2
   go_meet
   case rel => exact ⟨_,(true),(by first|rfl|(simp;done)|(simp [*];done)),H',⟨by first|omega|exact Nat.le_refl _⟩,by repeat (first|exact Drawn0.refl _|apply Drawn0.step)⟩
  ·rw [if_neg c3] at H
   have c3b0 : (feq a0 0) = false:=by simpa using c3
   clear c3
   (first|rw [c3b0]|(simp only [i64_w,i32_w];rw [c3b0])|skip)
   replace H:=Option.bind_eq_some_iff.mp H
   obtain ⟨t185,A40,H⟩:=H
   replace H : (if t185 = true then (math_floor.j0 k a0 true) else ((math_IsInf.f a0 0).bind fun t186 => (math_floor.j0 k a0 t186))) = some r:=H
   have A4:=Aside0.mk A40
   clear A40
   by_cases c5 : t185 = true
   ·subst c5
    have H1 : (math_floor.j0 k a0 true) = some r:=by rw [if_pos rfl] at H;exact H
    clear H
    have H:=H1
    clear H1
    have H':=Aside0.mk H
    clear H
    go_wp2_with (first|(go_at_call 37;(with_reducible refine (math_IsNaN.calls a0 true _ A4.out).mono ?_);rintro e w' ⟨rfl,⟨nd,rfl⟩⟩))
    go_meet
    case rel => exact ⟨_,(true),(by first|rfl|(simp;done)|(simp [*];done)),H',⟨by first|omega|exact Nat.le_refl _⟩,by repeat (first|exact Drawn0.refl _|apply Drawn0.step)⟩
   ·replace c5:=Bool.eq_false_iff.mpr c5
    subst c5
    have H1 : ((math_IsInf.f a0 0).bind fun t186 => (math_floor.j0 k a0 t186)) = some r:=by rw [if_neg (show ¬ (false = true) by decide)] at H;exact H
    clear H
    have H:=H1
    clear H1
    replace H:=Option.bind_eq_some_iff.mp H
    obtain ⟨t186,A60,H⟩:=H
    replace H : (math_floor.j0 k a0 t186) = some r:=H
    have A6:=Aside0.mk A60
    clear A60
    have H':=Aside0.mk H
    clear H
    go_wp2_with (first|(go_at_call 37;(with_reducible refine (math_IsNaN.calls a0 false _ A4.out).mono ?_);rintro e w' ⟨rfl,⟨nd,rfl⟩⟩)|(go_at_call 38;(with_reducible refine (math_IsInf.calls a0 0 t186 _ A6.out).mono ?_);rintro e w' ⟨rfl,⟨nd,rfl⟩⟩))
    go_meet
    case rel => exact ⟨_,(t186),(by first|rfl|(simp;done)|(simp [*];done)),H',⟨by first|omega|exact Nat.le_refl _⟩,by repeat (first|exact Drawn0.refl _|apply Drawn0.step)⟩
 case rest =>
  clear HC2
  try clear p2
  try clear c3
  try clear c3b0
  try clear c5
  obtain ⟨kq,x16_1,rfl,HA,HJ1,⟨mc1,rfl⟩⟩:=hcut
  cases kq with
  | zero => exact absurd HA.out (by simp [math_floor.j0])
  | succ kj1 =>
   have H:=HA.out
   clear HA
   simp only [math_floor.j0] at H
   by_cases c7 : x16_1 = true
   ·subst c7
    have H1 : (some a0) = some r:=by rw [if_pos rfl] at H;exact H
    clear H
    have H:=H1
    clear H1
    obtain rfl:=Option.some.inj H
    go_wp2
    go_ret
    exact ⟨by first|rfl|(simp;done)|(simp [*];done),by repeat (first|exact Drawn0.refl _|apply Drawn0.step)⟩
   ·replace c7:=Bool.eq_false_iff.mpr c7
    subst c7
    have H1 : (if (flt a0 0) = true then ((math_Modf.f (fneg a0)).bind fun bt187 => (if (feq bt187.2 0) = true then (some (fneg bt187.1)) else (if (faddOk bt187.1 4607182418800017408) = true then (some (fneg (fadd bt187.1 4607182418800017408))) else (none)))) else ((math_Modf.f a0).bind fun bt189 => (some bt189.1))) = some r:=by rw [if_neg (show ¬ (false = true) by decide)] at H;exact H
    clear H
    have H:=H1
    clear H1
    by_cases c8 : (flt a0 0) = true
    ·rw [if_pos c8] at H
     have c8b0 : (flt a0 0) = true:=c8
     clear c8
     replace H:=Option.bind_eq_some_iff.mp H
     obtain ⟨⟨t187,t188⟩,A90,H⟩:=H
     replace H : (if (feq t188 0) = true then (some (fneg t187)) else (if (faddOk t187 4607182418800017408) = true then (some (fneg (fadd t187 4607182418800017408))) else (none))) = some r:=H
     have A9:=Aside0.mk A90
     clear A90
     by_cases c10 : (feq t188 0) = true
     ·rw [if_pos c10] at H
      have c10b0 : (feq t188 0) = true:=c10
      clear c10
      obtain rfl:=Option.some.inj H
      go_wp2_with (first|((with_reducible refine gate_callee (f:=55) rfl ?_);refine goesL_ (some 23) rfl rfl Try.func55 (by kernel_rfl) rfl #[.float .f64 (fneg a0)] rfl (by (try simp only [List.map_toArray,List.map_cons,List.map_nil]);first|done|rfl|(simp only [List.length_drop,List.length_take];rfl)) ?_;(with_reducible refine (math_Modf.calls (fneg a0) t187 t188 _ A9.out).mono ?_);rintro e w' ⟨rfl,⟨nd,rfl⟩⟩;refine ⟨_,rfl,?_⟩))
      go_ret
      exact ⟨by first|rfl|(simp;done)|(simp [*];done),by repeat (first|exact Drawn0.refl _|apply Drawn0.step)⟩
     ·rw [if_neg c10] at H
      have c10b0 : (feq t188 0) = false:=by simpa using c10
      clear c10
      by_cases c11 : (faddOk t187 4607182418800017408) = true
      ·rw [if_pos c11] at H
       have c11b0:=eq_true c11
       have c11b1 : decide ((faddOk t187 4607182418800017408) = true) = true:=decide_eq_true c11
       clear c11
       obtain rfl:=Option.some.inj H
       go_wp2_with (first|((with_reducible refine gate_callee (f:=55) rfl ?_);refine goesL_ (some 23) rfl rfl Try.func55 (by kernel_rfl) rfl #[.float .f64 (fneg a0)] rfl (by (try simp only [List.map_toArray,List.map_cons,List.map_nil]);first|done|rfl|(simp only [List.length_drop,List.length_take];rfl)) ?_;(with_reducible refine (math_Modf.calls (fneg a0) t187 t188 _ A9.out).mono ?_);rintro e w' ⟨rfl,⟨nd,rfl⟩⟩;refine ⟨_,rfl,?_⟩))
       go_ret
       exact ⟨by first|rfl|(simp;done)|(simp [*];done),by repeat (first|exact Drawn0.refl _|apply Drawn0.step)⟩
      ·rw [if_neg c11] at H
       exact absurd H (by simp)
    ·rw [if_neg c8] at H
     have c8b0 : (flt a0 0) = false:=by simpa using c8
     clear c8
     replace H:=Option.bind_eq_some_iff.mp H
     obtain ⟨⟨t189,t190⟩,A120,H⟩:=H
     replace H : (some t189) = some r:=H
     have A12:=Aside0.mk A120
     clear A120
     obtain rfl:=Option.some.inj H
     go_wp2_with (first|((with_reducible refine gate_callee (f:=55) rfl ?_);refine goesL_ (some 34) rfl rfl Try.func55 (by kernel_rfl) rfl #[.float .f64 a0] rfl (by (try simp only [List.map_toArray,List.map_cons,List.map_nil]);first|done|rfl|(simp only [List.length_drop,List.length_take];rfl)) ?_;(with_reducible refine (math_Modf.calls a0 t189 t190 _ A12.out).mono ?_);rintro e w' ⟨rfl,⟨nd,rfl⟩⟩;refine ⟨_,rfl,?_⟩))
     go_ret
     exact ⟨by first|rfl|(simp;done)|(simp [*];done),by repeat (first|exact Drawn0.refl _|apply Drawn0.step)⟩

/-! ### math_Floor: function 45 -/
def math_Floor.f (a0 : Nat) : Option (Nat) := if (froundOk a0) = true then (some (fround .down a0)) else (none)
set_option maxHeartbeats 2500000 in
set_option maxRecDepth 100000 in
theorem math_Floor.calls (a0 : Nat) (r : Nat) (w : World) (h : math_Floor.f a0 = some r) :
  Calls Try.prog 45 #[.float .f64 a0] w fun e w' => e = .returned (.float .f64 r) ∧ Drawn0 w w':=by
 have H : (if (froundOk a0) = true then (some (fround .down a0)) else (none)) = some r:=h
 clear h
 by_cases c2 : (froundOk a0) = true
 ·rw [if_pos c2] at H
  have c2b0:=eq_true c2
  have c2b1 : decide ((froundOk a0) = true) = true:=decide_eq_true c2
  clear c2
  obtain rfl:=Option.some.inj H
  go_enter Try.func45,Try.ntmps45
  go_wp2
  go_ret
  exact ⟨by first|rfl|(simp;done)|(simp [*];done),by repeat (first|exact Drawn0.refl _|apply Drawn0.step)⟩
 ·rw [if_neg c2] at H
  exact absurd H (by simp)

-- NOT PRINTED: function 51 (math_archMod)

/-! ### math_NaN: function 56 -/
def math_NaN.f  : Option (Nat) := some (ffrom 9221120237041090561)
set_option maxHeartbeats 2500000 in
set_option maxRecDepth 100000 in
theorem math_NaN.calls  (r : Nat) (w : World) (h : math_NaN.f  = some r) :
  Calls Try.prog 56 #[] w fun e w' => e = .returned (.float .f64 r) ∧ Drawn0 w w':=by
 have H : (some (ffrom 9221120237041090561)) = some r:=h
 clear h
 obtain rfl:=Option.some.inj H
 go_enter Try.func56,Try.ntmps56
 go_wp2
 go_ret
 exact ⟨by first|rfl|(simp;done)|(simp [*];done),by repeat (first|exact Drawn0.refl _|apply Drawn0.step)⟩

-- NOT PRINTED: function 60 (math_archFrexp)

/-! ### math_normalize: function 64 -/
def math_normalize.f (a0 : Nat) : Option (Nat × Int) := (math_Abs.f a0).bind fun t191 => (if (flt t191 4503599627370496) = true then (if (fmulOk a0 4841369599423283200) = true then (some (fmul a0 4841369599423283200, (-52))) else (none)) else (some (a0, 0)))
set_option maxHeartbeats 2500000 in
set_option maxRecDepth 100000 in
theorem math_normalize.calls (a0 : Nat) (r1 : Nat) (r2 : Int) (w : World) (h : math_normalize.f a0 = some (r1, r2)) :
  Calls Try.prog 64 #[.float .f64 a0] w fun e w' => e = .returned (.tuple #[.float .f64 r1,.int .i64 r2]) ∧ Drawn0 w w':=by
 have H : ((math_Abs.f a0).bind fun t191 => (if (flt t191 4503599627370496) = true then (if (fmulOk a0 4841369599423283200) = true then (some (fmul a0 4841369599423283200,(-52))) else (none)) else (some (a0,0)))) = some (r1,r2):=h
 clear h
 replace H:=Option.bind_eq_some_iff.mp H
 obtain ⟨t191,A20,H⟩:=H
 replace H : (if (flt t191 4503599627370496) = true then (if (fmulOk a0 4841369599423283200) = true then (some (fmul a0 4841369599423283200,(-52))) else (none)) else (some (a0,0))) = some (r1,r2):=H
 have A2:=Aside0.mk A20
 clear A20
 by_cases c3 : (flt t191 4503599627370496) = true
 ·rw [if_pos c3] at H
  have c3b0 : (flt t191 4503599627370496) = true:=c3
  clear c3
  by_cases c4 : (fmulOk a0 4841369599423283200) = true
  ·rw [if_pos c4] at H
   have c4b0:=eq_true c4
   have c4b1 : decide ((fmulOk a0 4841369599423283200) = true) = true:=decide_eq_true c4
   clear c4
   simp only [Option.some.injEq,Prod.mk.injEq] at H
   obtain ⟨rfl,rfl⟩:=H
   go_enter Try.func64,Try.ntmps64
   go_wp2_with (first|((with_reducible refine gate_callee (f:=25) rfl ?_);refine goesL_ (some 5) rfl rfl Try.func25 (by kernel_rfl) rfl #[.float .f64 a0] rfl (by (try simp only [List.map_toArray,List.map_cons,List.map_nil]);first|done|rfl|(simp only [List.length_drop,List.length_take];rfl)) ?_;(with_reducible refine (math_Abs.calls a0 t191 _ A2.out).mono ?_);rintro e w' ⟨rfl,⟨nd,rfl⟩⟩;refine ⟨_,rfl,?_⟩))
   go_ret2
   exact ⟨by first|rfl|(simp;done)|(simp [*];done),by repeat (first|exact Drawn0.refl _|apply Drawn0.step)⟩
  ·rw [if_neg c4] at H
   exact absurd H (by simp)
 ·rw [if_neg c3] at H
  have c3b0 : (flt t191 4503599627370496) = false:=by simpa using c3
  clear c3
  simp only [Option.some.injEq,Prod.mk.injEq] at H
  obtain ⟨rfl,rfl⟩:=H
  go_enter Try.func64,Try.ntmps64
  go_wp2_with (first|((with_reducible refine gate_callee (f:=25) rfl ?_);refine goesL_ (some 5) rfl rfl Try.func25 (by kernel_rfl) rfl #[.float .f64 a0] rfl (by (try simp only [List.map_toArray,List.map_cons,List.map_nil]);first|done|rfl|(simp only [List.length_drop,List.length_take];rfl)) ?_;(with_reducible refine (math_Abs.calls a0 t191 _ A2.out).mono ?_);rintro e w' ⟨rfl,⟨nd,rfl⟩⟩;refine ⟨_,rfl,?_⟩))
  go_ret2
  exact ⟨by first|rfl|(simp;done)|(simp [*];done),by repeat (first|exact Drawn0.refl _|apply Drawn0.step)⟩

/-! ### math_frexp: function 61 -/
def math_frexp.j0 : Nat → Nat → Bool → Option (Nat × Int)
 | 0, _, _ => none
 | k + 1, x0, x9 => if x9 = true then (some (x0, 0)) else ((math_normalize.f x0).bind fun bt194 => (some (ffrom (Go.bits .or .u64 (Go.bits .andNot .u64 (fbits bt194.1) 9218868437227405312) 4602678819172646912), wrap64 (bt194.2 + (wrap64 ((wrap64 ((wrap64 (Go.bits .and .u64 ((fbits bt194.1) / 4503599627370496) 2047)) - 1023)) + 1))))))
def math_frexp.f (k : Nat) (a0 : Nat) : Option (Nat × Int) := if (feq a0 0) = true then (some (a0, 0)) else ((math_IsInf.f a0 0).bind fun t192 => (if t192 = true then (math_frexp.j0 k a0 true) else ((math_IsNaN.f a0).bind fun t193 => (math_frexp.j0 k a0 t193))))
theorem math_frexp.mono_l : ∀ k, (∀ y0 y1, LeO (math_frexp.j0 k y0 y1) (math_frexp.j0 (k + 1) y0 y1))
 | 0 => fun _ _ r h => by simp [math_frexp.j0] at h
 | k + 1 => by
  have ih0:=math_frexp.mono_l k
  ·intro y0 y1
   unfold math_frexp.j0
   repeat' first
   | (with_reducible exact ih0 _ _)
   | (with_reducible exact LeO.refl _)
   | (with_reducible exact LeO.none _)
   | (with_reducible refine LeO.ite ?_ ?_)
   | (with_reducible refine LeO.bind ?_ (fun _ => ?_))
   | exact ih0 _ _
   | exact LeO.none _
   | refine LeO.ite ?_ ?_
   | refine LeO.bind ?_ (fun _ => ?_)
theorem math_frexp.mono : ∀ a0 k, LeO (math_frexp.f k a0) (math_frexp.f (k + 1) a0) := by
 intro a0 k
 have ih0:=math_frexp.mono_l k
 unfold math_frexp.f
 repeat' first
   | (with_reducible exact ih0 _ _)
   | (with_reducible exact LeO.refl _)
   | (with_reducible exact LeO.none _)
   | (with_reducible refine LeO.ite ?_ ?_)
   | (with_reducible refine LeO.bind ?_ (fun _ => ?_))
   | exact ih0 _ _
   | exact LeO.none _
   | refine LeO.ite ?_ ?_
   | refine LeO.bind ?_ (fun _ => ?_)
set_option maxHeartbeats 2500000 in
set_option maxRecDepth 100000 in
theorem math_frexp.calls (k : Nat) (a0 : Nat) (r1 : Nat) (r2 : Int) (w : World) (h : math_frexp.f k a0 = some (r1, r2)) :
  Calls Try.prog 61 #[.float .f64 a0] w fun e w' => e = .returned (.tuple #[.float .f64 r1,.int .i64 r2]) ∧ Drawn0 w w':=by
 have H : (if (feq a0 0) = true then (some (a0,0)) else ((math_IsInf.f a0 0).bind fun t192 => (if t192 = true then (math_frexp.j0 k a0 true) else ((math_IsNaN.f a0).bind fun t193 => (math_frexp.j0 k a0 t193))))) = some (r1,r2):=h
 clear h
 by_cases c2 : (feq a0 0) = true
 ·rw [if_pos c2] at H
  have c2b0 : (feq a0 0) = true:=c2
  clear c2
  simp only [Option.some.injEq,Prod.mk.injEq] at H
  obtain ⟨rfl,rfl⟩:=H
  go_enter Try.func61,Try.ntmps61
  go_wp2
  go_ret2
  exact ⟨by first|rfl|(simp;done)|(simp [*];done),by repeat (first|exact Drawn0.refl _|apply Drawn0.step)⟩
 ·rw [if_neg c2] at H
  have c2b0 : (feq a0 0) = false:=by simpa using c2
  clear c2
  have HC3:=Aside0.mk H
  clear H
  go_enter Try.func61,Try.ntmps61
  go_upto_region 3 with (fail)
  go_cut [9] (fun v9 wc => ∃ (kq : Nat) (x9_2 : Bool),v9 = .bool x9_2 ∧ Aside0 (math_frexp.j0 kq a0 x9_2 = some (r1,r2)) ∧ Aside0 (kq ≤ k) ∧ Drawn0 w wc)
  case first =>
   have H:=HC3.out
   clear HC3
   replace H:=Option.bind_eq_some_iff.mp H
   obtain ⟨t192,A40,H⟩:=H
   replace H : (if t192 = true then (math_frexp.j0 k a0 true) else ((math_IsNaN.f a0).bind fun t193 => (math_frexp.j0 k a0 t193))) = some (r1,r2):=H
   have A4:=Aside0.mk A40
   clear A40
   by_cases c5 : t192 = true
   ·subst c5
    have H1 : (math_frexp.j0 k a0 true) = some (r1,r2):=by rw [if_pos rfl] at H;exact H
    clear H
    have H:=H1
    clear H1
    have H':=Aside0.mk H
    clear H
    go_wp2_with (first|((with_reducible refine gate_callee (f:=38) rfl ?_);refine goesL_ (some 11) rfl rfl Try.func38 (by kernel_rfl) rfl #[.float .f64 a0,.int .i64 0] rfl (by (try simp only [List.map_toArray,List.map_cons,List.map_nil]);first|done|rfl|(simp only [List.length_drop,List.length_take];rfl)) ?_;(with_reducible refine (math_IsInf.calls a0 0 true _ A4.out).mono ?_);rintro e w' ⟨rfl,⟨nd,rfl⟩⟩;refine ⟨_,rfl,?_⟩))
    go_meet
    case rel => exact ⟨_,(true),(by first|rfl|(simp;done)|(simp [*];done)),H',⟨by first|omega|exact Nat.le_refl _⟩,by repeat (first|exact Drawn0.refl _|apply Drawn0.step)⟩
   ·replace c5:=Bool.eq_false_iff.mpr c5
    subst c5
    have H1 : ((math_IsNaN.f a0).bind fun t193 => (math_frexp.j0 k a0 t193)) = some (r1,r2):=by rw [if_neg (show ¬ (false = true) by decide)] at H;exact H
    clear H
    have H:=H1
    clear H1
    replace H:=Option.bind_eq_some_iff.mp H
    obtain ⟨t193,A60,H⟩:=H
    replace H : (math_frexp.j0 k a0 t193) = some (r1,r2):=H
    have A6:=Aside0.mk A60
    clear A60
    have H':=Aside0.mk H
    clear H
    go_wp2_with (first|((with_reducible refine gate_callee (f:=38) rfl ?_);refine goesL_ (some 11) rfl rfl Try.func38 (by kernel_rfl) rfl #[.float .f64 a0,.int .i64 0] rfl (by (try simp only [List.map_toArray,List.map_cons,List.map_nil]);first|done|rfl|(simp only [List.length_drop,List.length_take];rfl)) ?_;(with_reducible refine (math_IsInf.calls a0 0 false _ A4.out).mono ?_);rintro e w' ⟨rfl,⟨nd,rfl⟩⟩;refine ⟨_,rfl,?_⟩)|(go_at_call 37;(with_reducible refine (math_IsNaN.calls a0 t193 _ A6.out).mono ?_);rintro e w' ⟨rfl,⟨nd,rfl⟩⟩))
    go_meet
    case rel => exact ⟨_,(t193),(by first|rfl|(simp;done)|(simp [*];done)),H',⟨by first|omega|exact Nat.le_refl _⟩,by repeat (first|exact Drawn0.refl _|apply Drawn0.step)⟩
  case rest =>
   clear HC3
   try clear c2
   try clear c2b0
   try clear p2
   try clear c3
   try clear c5
   try clear c6
   obtain ⟨kq,x9_2,rfl,HA,HJ2,⟨mc2,rfl⟩⟩:=hcut
   cases kq with
   | zero => exact absurd HA.out (by simp [math_frexp.j0])
   | succ kj2 =>
    have H:=HA.out
    clear HA
    simp only [math_frexp.j0] at H
    by_cases c7 : x9_2 = true
    ·subst c7
     have H1 : (some (a0,0)) = some (r1,r2):=by rw [if_pos rfl] at H;exact H
     clear H
     have H:=H1
     clear H1
     simp only [Option.some.injEq,Prod.mk.injEq] at H
     obtain ⟨rfl,rfl⟩:=H
     go_wp2
     go_ret2
     exact ⟨by first|rfl|(simp;done)|(simp [*];done),by repeat (first|exact Drawn0.refl _|apply Drawn0.step)⟩
    ·replace c7:=Bool.eq_false_iff.mpr c7
     subst c7
     have H1 : ((math_normalize.f a0).bind fun bt194 => (some (ffrom (Go.bits .or .u64 (Go.bits .andNot .u64 (fbits bt194.1) 9218868437227405312) 4602678819172646912),wrap64 (bt194.2 + (wrap64 ((wrap64 ((wrap64 (Go.bits .and .u64 ((fbits bt194.1) / 4503599627370496) 2047)) - 1023)) + 1)))))) = some (r1,r2):=by rw [if_neg (show ¬ (false = true) by decide)] at H;exact H
     clear H
     have H:=H1
     clear H1
     replace H:=Option.bind_eq_some_iff.mp H
     obtain ⟨⟨t194,t195⟩,A80,H⟩:=H
     replace H : (some (ffrom (Go.bits .or .u64 (Go.bits .andNot .u64 (fbits t194) 9218868437227405312) 4602678819172646912),wrap64 (t195 + (wrap64 ((wrap64 ((wrap64 (Go.bits .and .u64 ((fbits t194) / 4503599627370496) 2047)) - 1023)) + 1))))) = some (r1,r2):=H
     have A8:=Aside0.mk A80
     clear A80
     simp only [Option.some.injEq,Prod.mk.injEq] at H
     obtain ⟨rfl,rfl⟩:=H
     go_wp2_with (first|((with_reducible refine gate_callee (f:=64) rfl ?_);refine goesL_ (some 19) rfl rfl Try.func64 (by kernel_rfl) rfl #[.float .f64 a0] rfl (by (try simp only [List.map_toArray,List.map_cons,List.map_nil]);first|done|rfl|(simp only [List.length_drop,List.length_take];rfl)) ?_;(with_reducible refine (math_normalize.calls a0 t194 t195 _ A8.out).mono ?_);rintro e w' ⟨rfl,⟨nd,rfl⟩⟩;refine ⟨_,rfl,?_⟩))
     go_ret2
     exact ⟨by first|rfl|(simp;done)|(simp [*];done),by repeat (first|exact Drawn0.refl _|apply Drawn0.step)⟩

/-! ### math_Frexp: function 57 -/
def math_Frexp.f (k : Nat) (a0 : Nat) : Option (Nat × Int) := (math_frexp.f k a0).bind fun bt196 => (some (bt196.1, bt196.2))
theorem math_Frexp.mono : ∀ a0 k, LeO (math_Frexp.f k a0) (math_Frexp.f (k + 1) a0) := by
 intro a0 k
 unfold math_Frexp.f
 repeat' first
   | (with_reducible exact math_frexp.mono _ _)
   | (with_reducible exact LeO.refl _)
   | (with_reducible exact LeO.none _)
   | (with_reducible refine LeO.ite ?_ ?_)
   | (with_reducible refine LeO.bind ?_ (fun _ => ?_))
   | exact math_frexp.mono _ _
   | exact LeO.none _
   | refine LeO.ite ?_ ?_
   | refine LeO.bind ?_ (fun _ => ?_)
set_option maxHeartbeats 2500000 in
set_option maxRecDepth 100000 in
theorem math_Frexp.calls (k : Nat) (a0 : Nat) (r1 : Nat) (r2 : Int) (w : World) (h : math_Frexp.f k a0 = some (r1, r2)) :
  Calls Try.prog 57 #[.float .f64 a0] w fun e w' => e = .returned (.tuple #[.float .f64 r1,.int .i64 r2]) ∧ Drawn0 w w':=by
 have H : ((math_frexp.f k a0).bind fun bt196 => (some (bt196.1,bt196.2))) = some (r1,r2):=h
 clear h
 replace H:=Option.bind_eq_some_iff.mp H
 obtain ⟨⟨t196,t197⟩,A20,H⟩:=H
 replace H : (some (t196,t197)) = some (r1,r2):=H
 have A2:=Aside0.mk A20
 clear A20
 simp only [Option.some.injEq,Prod.mk.injEq] at H
 obtain ⟨rfl,rfl⟩:=H
 go_enter Try.func57,Try.ntmps57
 go_wp2_with (first|((with_reducible refine gate_callee (f:=61) rfl ?_);refine goesL_ (some 9) rfl rfl Try.func61 (by kernel_rfl) rfl #[.float .f64 a0] rfl (by (try simp only [List.map_toArray,List.map_cons,List.map_nil]);first|done|rfl|(simp only [List.length_drop,List.length_take];rfl)) ?_;(with_reducible refine (math_frexp.calls k a0 t196 t197 _ A2.out).mono ?_);rintro e w' ⟨rfl,⟨nd,rfl⟩⟩;refine ⟨_,rfl,?_⟩))
 go_ret2
 exact ⟨by first|rfl|(simp;done)|(simp [*];done),by repeat (first|exact Drawn0.refl _|apply Drawn0.step)⟩

-- NOT PRINTED: function 62 (math_archLdexp)

/-! ### math_Inf: function 65 -/
def math_Inf.f (a0 : Int) : Option (Nat) := if a0 ≥ 0 then (some (ffrom 9218868437227405312)) else (some (ffrom 18442240474082181120))
set_option maxHeartbeats 2500000 in
set_option maxRecDepth 100000 in
theorem math_Inf.calls (a0 : Int) (r : Nat) (w : World) (h : math_Inf.f a0 = some r) :
  Calls Try.prog 65 #[.int .i64 a0] w fun e w' => e = .returned (.float .f64 r) ∧ Drawn0 w w':=by
 have H : (if a0 ≥ 0 then (some (ffrom 9218868437227405312)) else (some (ffrom 18442240474082181120))) = some r:=h
 clear h
 by_cases c2 : a0 ≥ 0
 ·rw [if_pos c2] at H
  have c2b0 : decide (0 ≤ a0) = true:=decide_eq_true c2
  clear c2
  obtain rfl:=Option.some.inj H
  go_enter Try.func65,Try.ntmps65
  go_wp2
  go_ret
  exact ⟨by first|rfl|(simp;done)|(simp [*];done),by repeat (first|exact Drawn0.refl _|apply Drawn0.step)⟩
 ·rw [if_neg c2] at H
  have c2b0 : decide (0 ≤ a0) = false:=decide_eq_false c2
  clear c2
  obtain rfl:=Option.some.inj H
  go_enter Try.func65,Try.ntmps65
  go_wp2
  go_ret
  exact ⟨by first|rfl|(simp;done)|(simp [*];done),by repeat (first|exact Drawn0.refl _|apply Drawn0.step)⟩

end Go.Proofs.Ytajejidnidomgaa.XR
