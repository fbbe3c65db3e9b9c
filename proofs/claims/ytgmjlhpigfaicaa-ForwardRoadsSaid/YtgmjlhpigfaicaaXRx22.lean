/- Go functions of this seat as Lean functions, with proofs that the calls come to them. (Written by xprint.py, a program of this session, over the kit's print.) -/
import Derived.Test.YtgmjlhpigfaicaaXRx0
import Derived.Test.YtgmjlhpigfaicaaXRx12
namespace Go.Proofs.Ytgmjlhpigfaicaa.XR
open Go.RowKit Go.Proofs.YtgmjlhpigfaicaaW.PrintWords Go.Proofs.YtgmjlhpigfaicaaW.PrintLast Go.Proofs.YtgmjlhpigfaicaaW.PrintMore
attribute [local go_sem] max2_int min2_int max_two min_two max_three min_three max_four min_four   -- for this text's walks alone
set_option linter.unusedVariables false
set_option linter.unusedSimpArgs false
open List renaming setIfInBounds_toArray → xA, set_cons_zero → xB, set_cons_succ → xC
open Go.Proofs.YtgmjlhpigfaicaaW.PrintWords renaming blk_drewN → bN, blk_drew → bD, blk_alloc → bA, below_set → bS, blk_frozen → bF, blk_cell → bC, cell_far → cF, blk_far → bZ, blk_below → bB, pw_below_drewN → bwN, below_drew1 → bw1, below_alloc → bwA
open Go.Proofs.YtgmjlhpigfaicaaW.PrintZ
open Bool renaming true → T,false → F

/-! ### beaconref07_link: function 123 -/
mutual
def beaconref07_link.j0 : Nat → Int → Int → List (S108) → List (S117) → Option (Int)
 | 0, _, _, _, _ => none
 | k + 1, x1, x2, Af, Ae => beaconref07_link.l0 k x1 x2 0 Af Ae
def beaconref07_link.l0 : Nat → Int → Int → Int → List (S108) → List (S117) → Option (Int)
 | 0, _, _, _, _, _ => none
 | k + 1, x1, x2, x7, Af, Ae => if x7 < (Ae.length : Int) then (if 0 ≤ x7 then (if ((rd_T117 Ae x7).f0) = x1 then (if ((rd_T117 Ae x7).f1) = x2 then (some x7) else (beaconref07_link.l0 k x1 x2 (wrap64 (x7 + 1)) Af Ae)) else (beaconref07_link.l0 k x1 x2 (wrap64 (x7 + 1)) Af Ae)) else (none)) else (some (-1))
end
def beaconref07_link.f (k : Nat) (l0_0 : List (S108)) (l0_1 : List (S117)) (a1 : Int) (a2 : Int) : Option (Int) := if a1 > a2 then (beaconref07_link.j0 k a2 a1 l0_0 l0_1) else (beaconref07_link.j0 k a1 a2 l0_0 l0_1)
set_option maxHeartbeats 8000000 in
set_option maxRecDepth 100000 in
theorem beaconref07_link.calls (k : Nat) (A0_0 : Option Addr) (c0_0 : Nat) (l0_0 : List (S108)) (A0_1 : Option Addr) (c0_1 : Nat) (l0_1 : List (S117)) (a1 : Int) (a2 : Int) (r : Int) (w : World) (hr0_0 : Kd.C k108 w A0_0 l0_0.length l0_0) (hc0_0 : l0_0.length ≤ c0_0) (hr0_1 : Kd.C k117 w A0_1 l0_1.length l0_1) (hc0_1 : l0_1.length ≤ c0_1) (h : beaconref07_link.f k l0_0 l0_1 a1 a2 = some r) :
  Calls Try.prog 123 #[.agg #[.slice A0_0 l0_0.length c0_0,.slice A0_1 l0_1.length c0_1],.int .i64 a1,.int .i64 a2] w fun e w' => e = .returned (.int .i64 r) ∧ Below w.heap.size w w':=by
 have hu67:=Try.underlying67;have HR0_0:=zA hr0_0;have HC0_0:=zA hc0_0;clear hr0_0 hc0_0;have HR0_1:=zA hr0_1;have HC0_1:=zA hc0_1;clear hr0_1 hc0_1;have HB:=zA (Below.refl w.heap.size w);have H : (if a1 > a2 then (beaconref07_link.j0 k a2 a1 l0_0 l0_1) else (beaconref07_link.j0 k a1 a2 l0_0 l0_1)) = some r:=h;clear h;have HC4:=zA H;clear H;go_enter Try.func123,Try.ntmps123
 go_upto_if 10 with (first|((with_reducible refine gate_dst (N:=3) rfl ?_);refine zb (N:=3) (cs:=#[.slice A0_0 l0_0.length c0_0,.slice A0_1 l0_1.length c0_1]) (t:=67) ?_;intro G448 hg w5 hbox hb;have K448:=zA (hbox);have Ax:=zN HB hg;have Ay:=zN HB hg;replace HB:=zS HB hb;clear hb hbox hg))
 (try simp only [Act.put,xA,xB,xC]);go_cut [1,2] (fun v1 v2 wc => ∃ (kq : Nat) (Ag : Int) (Ah : Int),v1 = .int .i64 Ag ∧ v2 = .int .i64 Ah ∧ Aside0 (beaconref07_link.j0 kq Ag Ah l0_0 l0_1 = some r) ∧ Aside0 (kq ≤ k) ∧ Aside0 (wc.heap[G448]? = some (.cells #[(.slice A0_0 l0_0.length c0_0),(.slice A0_1 l0_1.length c0_1)] 67 (0,0))) ∧ Aside0 (Below w.heap.size w wc))
 case first =>
  have H:=HC4.out;clear HC4;by_cases c6 : a1 > a2
  ·rw [if_pos c6] at H;have Ai : decide (a2 < a1) = true:=decide_eq_true c6;clear c6;(first|rw [Ai]|(simp only [i64_w,i32_w];rw [Ai])|skip)
   have H':=zA H;clear H;go_wp2
   go_meet
   case rel => exact ⟨_,(a2),(a1),ze,ze,H',⟨zo⟩,⟨z1 K448.1⟩,⟨zH HB⟩⟩
  ·rw [if_neg c6] at H;have Ai : decide (a2 < a1) = false:=decide_eq_false c6;clear c6;(first|rw [Ai]|(simp only [i64_w,i32_w];rw [Ai])|skip)
   have H':=zA H;clear H;go_wp2
   go_meet
   case rel => exact ⟨_,(a1),(a2),ze,ze,H',⟨zo⟩,⟨z1 K448.1⟩,⟨zH HB⟩⟩
 case rest =>
  clear HC4;obtain ⟨kq,Ag,Ah,rfl,rfl,HA,HJ3,K448,HB⟩:=hcut;cases kq with
  | zero => exact absurd HA.out (by simp [beaconref07_link.j0])
  | succ kj3 =>
   have H:=HA.out;clear HA;simp only [beaconref07_link.j0] at H;have H':=zA H;clear H;go_wp2
   go_loopg [7] kj3 (fun kq v7 w' => ∃ (Aa : Int),v7 = .int .i64 Aa ∧ Aside0 (beaconref07_link.l0 kq Ag Ah Aa l0_0 l0_1 = some r) ∧ Aside0 (kq ≤ kj3) ∧ Aside0 (w'.heap[G448]? = some (.cells #[(.slice A0_0 l0_0.length c0_0),(.slice A0_1 l0_1.length c0_1)] 67 (0,0))) ∧ Aside0 (Below w.heap.size w w'))
   case atStart => exact ⟨(0),ze,H',⟨Nat.le_refl _⟩,⟨z1 K448.1⟩,⟨zH HB⟩⟩
   case round =>
    clear H';obtain ⟨Aa,rfl,HA,HK2,K448,HB⟩:=hrel;cases gk with
    | zero => exact absurd HA.out (by simp [beaconref07_link.l0])
    | succ k2 =>
     have H:=HA.out;clear HA;simp only [beaconref07_link.l0] at H;by_cases c7 : Aa < (l0_1.length : Int)
     ·rw [if_pos c7] at H;have At : decide (Aa < (l0_1.length : Int)) = true:=decide_eq_true c7;clear c7;by_cases c8 : 0 ≤ Aa
      ·rw [if_pos c8] at H;have Az : decide (0 ≤ Aa) = true:=decide_eq_true c8;clear c8;by_cases c9 : ((rd_T117 l0_1 Aa).f0) = Ag
       ·rw [if_pos c9] at H;have Au : (((rd_T117 l0_1 Aa).f0) == Ag) = true:=beq_iff_eq.mpr c9;have Av : (((rd_T117 l0_1 Aa).f0) != Ag) = false:=bne_eq_false_iff_eq.mpr c9;clear c9;by_cases c10 : ((rd_T117 l0_1 Aa).f1) = Ah
        ·rw [if_pos c10] at H;have Ap : (((rd_T117 l0_1 Aa).f1) == Ah) = true:=beq_iff_eq.mpr c10;have Aq : (((rd_T117 l0_1 Aa).f1) != Ah) = false:=bne_eq_false_iff_eq.mpr c10;clear c10;obtain rfl:=Option.some.inj H;obtain ⟨_,_,_,_⟩:=zc2 K448;have p449 : 0 ≤ (Aa : Int):=zd;have q449 : Aa < (l0_1.length : Int):=zd;obtain ⟨ad449,e449,hx449_0,hx449_1,hx449_2,hx449_3⟩:=at_T117 HR0_1.out Aa p449 q449;cases e449;replace hx449_0:=zh HB hx449_0;replace hx449_1:=zh HB hx449_1;replace hx449_2:=zh HB hx449_2;replace hx449_3:=zh HB hx449_3;replace p449:=eq_true p449;replace q449:=eq_true q449;have p450 : 0 ≤ (Aa : Int):=zd;have q450 : Aa < (l0_1.length : Int):=zd;obtain ⟨ad450,e450,hx450_0,hx450_1,hx450_2,hx450_3⟩:=at_T117 HR0_1.out Aa p450 q450;obtain rfl : ad449 = ad450:=(by injection e450);replace hx450_0:=zh HB hx450_0;replace hx450_1:=zh HB hx450_1;replace hx450_2:=zh HB hx450_2;replace hx450_3:=zh HB hx450_3;replace p450:=eq_true p450;replace q450:=eq_true q450;go_wp2
         go_ret
         exact ⟨zE,zH HB⟩
        ·rw [if_neg c10] at H;have Ap : (((rd_T117 l0_1 Aa).f1) == Ah) = false:=beq_eq_false_iff_ne.mpr c10;have Aq : (((rd_T117 l0_1 Aa).f1) != Ah) = true:=bne_iff_ne.mpr c10;have H':=zA H;clear H;obtain ⟨_,_,_,_⟩:=zc2 K448;have p449 : 0 ≤ (Aa : Int):=zd;have q449 : Aa < (l0_1.length : Int):=zd;obtain ⟨ad449,e449,hx449_0,hx449_1,hx449_2,hx449_3⟩:=at_T117 HR0_1.out Aa p449 q449;cases e449;replace hx449_0:=zh HB hx449_0;replace hx449_1:=zh HB hx449_1;replace hx449_2:=zh HB hx449_2;replace hx449_3:=zh HB hx449_3;replace p449:=eq_true p449;replace q449:=eq_true q449;have p450 : 0 ≤ (Aa : Int):=zd;have q450 : Aa < (l0_1.length : Int):=zd;obtain ⟨ad450,e450,hx450_0,hx450_1,hx450_2,hx450_3⟩:=at_T117 HR0_1.out Aa p450 q450;obtain rfl : ad449 = ad450:=(by injection e450);replace hx450_0:=zh HB hx450_0;replace hx450_1:=zh HB hx450_1;replace hx450_2:=zh HB hx450_2;replace hx450_3:=zh HB hx450_3;replace p450:=eq_true p450;replace q450:=eq_true q450;go_wp2
         go_roundg k2
         case measure => have:=HJ3.out;have:=HK2.out;omega
         case rel => exact ⟨(wrap64 (Aa + 1)),ze,H',⟨by have:=HJ3.out;have:=HK2.out;omega⟩,⟨z1 K448.1⟩,⟨zH HB⟩⟩
       ·rw [if_neg c9] at H;have Au : (((rd_T117 l0_1 Aa).f0) == Ag) = false:=beq_eq_false_iff_ne.mpr c9;have Av : (((rd_T117 l0_1 Aa).f0) != Ag) = true:=bne_iff_ne.mpr c9;have H':=zA H;clear H;obtain ⟨_,_,_,_⟩:=zc2 K448;have p449 : 0 ≤ (Aa : Int):=zd;have q449 : Aa < (l0_1.length : Int):=zd;obtain ⟨ad449,e449,hx449_0,hx449_1,hx449_2,hx449_3⟩:=at_T117 HR0_1.out Aa p449 q449;cases e449;replace hx449_0:=zh HB hx449_0;replace hx449_1:=zh HB hx449_1;replace hx449_2:=zh HB hx449_2;replace hx449_3:=zh HB hx449_3;replace p449:=eq_true p449;replace q449:=eq_true q449;go_wp2
        go_roundg k2
        case measure => have:=HJ3.out;have:=HK2.out;omega
        case rel => exact ⟨(wrap64 (Aa + 1)),ze,H',⟨by have:=HJ3.out;have:=HK2.out;omega⟩,⟨z1 K448.1⟩,⟨zH HB⟩⟩
      ·rw [if_neg c8] at H;exact absurd H (by simp)
     ·rw [if_neg c7] at H;have At : decide (Aa < (l0_1.length : Int)) = false:=decide_eq_false c7;clear c7;obtain rfl:=Option.some.inj H;obtain ⟨_,_,_,_⟩:=zc2 K448;go_wp2
      go_ret
      exact ⟨zE,zH HB⟩

/-! ### beaconref07_up: function 127 -/
def beaconref07_up.f (k : Nat) (l0_0 : List (S108)) (l0_1 : List (S117)) (a1 : Int) : Option (Bool) := (beaconref07_Place.f k l0_0 l0_1 a1).bind fun Ab => (if Ab ≥ 0 then (if 0 ≤ Ab then (if Ab < (l0_0.length : Int) then (some ((rd_T108 l0_0 Ab).f1)) else (none)) else (none)) else (some false))
set_option maxHeartbeats 8000000 in
set_option maxRecDepth 100000 in
theorem beaconref07_up.calls (k : Nat) (A0_0 : Option Addr) (c0_0 : Nat) (l0_0 : List (S108)) (A0_1 : Option Addr) (c0_1 : Nat) (l0_1 : List (S117)) (a1 : Int) (r : Bool) (w : World) (hr0_0 : Kd.C k108 w A0_0 l0_0.length l0_0) (hc0_0 : l0_0.length ≤ c0_0) (hr0_1 : Kd.C k117 w A0_1 l0_1.length l0_1) (hc0_1 : l0_1.length ≤ c0_1) (h : beaconref07_up.f k l0_0 l0_1 a1 = some r) :
  Calls Try.prog 127 #[.agg #[.slice A0_0 l0_0.length c0_0,.slice A0_1 l0_1.length c0_1],.int .i64 a1] w fun e w' => e = .returned (.bool r) ∧ Below w.heap.size w w':=by
 have hu67:=Try.underlying67;have HR0_0:=zA hr0_0;have HC0_0:=zA hc0_0;clear hr0_0 hc0_0;have HR0_1:=zA hr0_1;have HC0_1:=zA hc0_1;clear hr0_1 hc0_1;have HB:=zA (Below.refl w.heap.size w);have H : ((beaconref07_Place.f k l0_0 l0_1 a1).bind fun Ab => (if Ab ≥ 0 then (if 0 ≤ Ab then (if Ab < (l0_0.length : Int) then (some ((rd_T108 l0_0 Ab).f1)) else (none)) else (none)) else (some false))) = some r:=h;clear h;replace H:=Option.bind_eq_some_iff.mp H;obtain ⟨Ab,A30,H⟩:=H;(try dsimp only at H);have A3:=zA A30;clear A30;by_cases c4 : Ab ≥ 0
 ·rw [if_pos c4] at H;have Aw : decide (0 ≤ Ab) = true:=decide_eq_true c4;clear c4;by_cases c5 : 0 ≤ Ab
  ·rw [if_pos c5] at H;have AA : decide (0 ≤ Ab) = true:=decide_eq_true c5;clear c5;by_cases c6 : Ab < (l0_0.length : Int)
   ·rw [if_pos c6] at H;have Ai : decide (Ab < (l0_0.length : Int)) = true:=decide_eq_true c6;clear c6;obtain rfl:=Option.some.inj H;go_enter Try.func127,Try.ntmps127
    go_wp2_with (first|((with_reducible refine gate_dst (N:=2) rfl ?_);refine zb (N:=2) (cs:=#[.slice A0_0 l0_0.length c0_0,.slice A0_1 l0_1.length c0_1]) (t:=67) ?_;intro G451 hg w7 hbox hb;have K451:=zA (hbox);have Ar:=zN HB hg;have As:=zN HB hg;replace HB:=zS HB hb;clear hb hbox hg;obtain ⟨_,_,_,_⟩:=zc2 K451)|((with_reducible refine gate_callee (f:=70) rfl ?_);refine zg (some 8) Try.func70 #[.agg #[.slice A0_0 l0_0.length c0_0,.slice A0_1 l0_1.length c0_1],.int .i64 a1] ?_;(with_reducible refine (beaconref07_Place.calls k _ _ l0_0 _ _ l0_1 a1 Ab _ ?side1 ?side2 ?side3 ?side4 A3.out).mono ?_);(case side1 => exact zC (Kd.C_below HR0_0.out HB.1));(case side2 => exact HC0_0.out);(case side3 => exact zC (Kd.C_below HR0_1.out HB.1));(case side4 => exact HC0_1.out);rintro e w9 ⟨rfl,hb⟩;refine ⟨_,rfl,?_⟩;replace K451:=zB K451 hb;replace HB:=zS HB hb;(try clear hb);obtain ⟨_,_,_,_⟩:=zc2 K451;have p453 : 0 ≤ (Ab : Int):=zd;have q453 : Ab < (l0_0.length : Int):=zd;obtain ⟨ad453,e453,hx453_0,hx453_1,hx453_2⟩:=at_T108 HR0_0.out Ab p453 q453;cases e453;replace hx453_0:=zh HB hx453_0;replace hx453_1:=zh HB hx453_1;replace hx453_2:=zh HB hx453_2;replace p453:=eq_true p453;replace q453:=eq_true q453))
    go_ret
    exact ⟨zE,zH HB⟩
   ·rw [if_neg c6] at H;exact absurd H (by simp)
  ·rw [if_neg c5] at H;exact absurd H (by simp)
 ·rw [if_neg c4] at H;have Aw : decide (0 ≤ Ab) = false:=decide_eq_false c4;clear c4;obtain rfl:=Option.some.inj H;go_enter Try.func127,Try.ntmps127
  go_wp2_with (first|((with_reducible refine gate_dst (N:=2) rfl ?_);refine zb (N:=2) (cs:=#[.slice A0_0 l0_0.length c0_0,.slice A0_1 l0_1.length c0_1]) (t:=67) ?_;intro G451 hg w11 hbox hb;have K451:=zA (hbox);have Ar:=zN HB hg;have As:=zN HB hg;replace HB:=zS HB hb;clear hb hbox hg;obtain ⟨_,_,_,_⟩:=zc2 K451)|((with_reducible refine gate_callee (f:=70) rfl ?_);refine zg (some 8) Try.func70 #[.agg #[.slice A0_0 l0_0.length c0_0,.slice A0_1 l0_1.length c0_1],.int .i64 a1] ?_;(with_reducible refine (beaconref07_Place.calls k _ _ l0_0 _ _ l0_1 a1 Ab _ ?side1 ?side2 ?side3 ?side4 A3.out).mono ?_);(case side1 => exact zC (Kd.C_below HR0_0.out HB.1));(case side2 => exact HC0_0.out);(case side3 => exact zC (Kd.C_below HR0_1.out HB.1));(case side4 => exact HC0_1.out);rintro e w13 ⟨rfl,hb⟩;refine ⟨_,rfl,?_⟩;replace K451:=zB K451 hb;replace HB:=zS HB hb;(try clear hb)))
  go_ret
  exact ⟨zE,zH HB⟩

/-! ### beaconref07_live: function 124 -/
def beaconref07_live.f (k : Nat) (l0_0 : List (S108)) (l0_1 : List (S117)) (a1_0 : Int) (a1_1 : Int) (a1_2 : Nat) (a1_3 : Bool) : Option (Bool) := if a1_3 = true then ((beaconref07_up.f k l0_0 l0_1 a1_0).bind fun Aj => (if Aj = true then ((beaconref07_up.f k l0_0 l0_1 a1_1).bind fun Ak => (some Ak)) else (some false))) else (some false)
set_option maxHeartbeats 8000000 in
set_option maxRecDepth 100000 in
theorem beaconref07_live.calls (k : Nat) (A0_0 : Option Addr) (c0_0 : Nat) (l0_0 : List (S108)) (A0_1 : Option Addr) (c0_1 : Nat) (l0_1 : List (S117)) (a1_0 : Int) (a1_1 : Int) (a1_2 : Nat) (a1_3 : Bool) (r : Bool) (w : World) (hr0_0 : Kd.C k108 w A0_0 l0_0.length l0_0) (hc0_0 : l0_0.length ≤ c0_0) (hr0_1 : Kd.C k117 w A0_1 l0_1.length l0_1) (hc0_1 : l0_1.length ≤ c0_1) (h : beaconref07_live.f k l0_0 l0_1 a1_0 a1_1 a1_2 a1_3 = some r) :
  Calls Try.prog 124 #[.agg #[.slice A0_0 l0_0.length c0_0,.slice A0_1 l0_1.length c0_1],.agg #[.int .i64 a1_0,.int .i64 a1_1,.float .f64 a1_2,.bool a1_3]] w fun e w' => e = .returned (.bool r) ∧ Below w.heap.size w w':=by
 have hu67:=Try.underlying67;have hu117:=Try.underlying117;have HR0_0:=zA hr0_0;have HC0_0:=zA hc0_0;clear hr0_0 hc0_0;have HR0_1:=zA hr0_1;have HC0_1:=zA hc0_1;clear hr0_1 hc0_1;have HB:=zA (Below.refl w.heap.size w);have H : (if a1_3 = true then ((beaconref07_up.f k l0_0 l0_1 a1_0).bind fun Aj => (if Aj = true then ((beaconref07_up.f k l0_0 l0_1 a1_1).bind fun Ak => (some Ak)) else (some false))) else (some false)) = some r:=h;clear h;by_cases c3 : a1_3 = true
 ·subst c3;rw [if_pos rfl] at H;replace H:=Option.bind_eq_some_iff.mp H;obtain ⟨Aj,A40,H⟩:=H;(try dsimp only at H);have A4:=zA A40;clear A40;by_cases c5 : Aj = true
  ·subst c5;rw [if_pos rfl] at H;replace H:=Option.bind_eq_some_iff.mp H;obtain ⟨Ak,A60,H⟩:=H;(try dsimp only at H);have A6:=zA A60;clear A60;obtain rfl:=Option.some.inj H;go_enter Try.func124,Try.ntmps124
   go_wp2_with (first|((with_reducible refine gate_dst (N:=2) rfl ?_);refine zb (N:=2) (cs:=#[.slice A0_0 l0_0.length c0_0,.slice A0_1 l0_1.length c0_1]) (t:=67) ?_;intro G454 hg w7 hbox hb;have K454:=zA (hbox);have Al:=zN HB hg;have Am:=zN HB hg;replace HB:=zS HB hb;clear hb hbox hg)|((with_reducible refine gate_dst (N:=3) rfl ?_);refine zb (N:=3) (cs:=#[.int .i64 a1_0,.int .i64 a1_1,.float .f64 a1_2,.bool true]) (t:=117) ?_;intro G455 hg w8 hbox hb;have K455:=zA (hbox);have An:=zN HB hg;have Ao:=zN HB hg;replace HB:=zS HB hb;have Ac:=zL K454 hg;have Ad:=zG K454 hg;replace K454:=zB K454 hb;clear hb hbox hg;have:=Ad.1;have:=Ac.1;obtain ⟨_,_,_,_,_,_,_,_⟩:=zc4 K455;obtain ⟨_,_,_,_⟩:=zc2 K454)|(go_at_call 127;(with_reducible refine (beaconref07_up.calls k _ _ l0_0 _ _ l0_1 a1_0 true _ ?side1 ?side2 ?side3 ?side4 A4.out).mono ?_);(case side1 => exact zC (Kd.C_below HR0_0.out HB.1));(case side2 => exact HC0_0.out);(case side3 => exact zC (Kd.C_below HR0_1.out HB.1));(case side4 => exact HC0_1.out);rintro e w12 ⟨rfl,hb⟩;replace K454:=zB K454 hb;replace K455:=zB K455 hb;replace HB:=zS HB hb;(try clear hb);obtain ⟨_,_,_,_⟩:=zc2 K454;obtain ⟨_,_,_,_,_,_,_,_⟩:=zc4 K455)|(go_at_call 127;(with_reducible refine (beaconref07_up.calls k _ _ l0_0 _ _ l0_1 a1_1 Ak _ ?side1 ?side2 ?side3 ?side4 A6.out).mono ?_);(case side1 => exact zC (Kd.C_below HR0_0.out HB.1));(case side2 => exact HC0_0.out);(case side3 => exact zC (Kd.C_below HR0_1.out HB.1));(case side4 => exact HC0_1.out);rintro e w15 ⟨rfl,hb⟩;replace K454:=zB K454 hb;replace K455:=zB K455 hb;replace HB:=zS HB hb;(try clear hb)))
   go_ret
   exact ⟨zE,zH HB⟩
  ·replace c5:=Bool.eq_false_iff.mpr c5;subst c5;rw [if_neg (show ¬ (false = true) by decide)] at H;obtain rfl:=Option.some.inj H;go_enter Try.func124,Try.ntmps124
   go_wp2_with (first|((with_reducible refine gate_dst (N:=2) rfl ?_);refine zb (N:=2) (cs:=#[.slice A0_0 l0_0.length c0_0,.slice A0_1 l0_1.length c0_1]) (t:=67) ?_;intro G454 hg w16 hbox hb;have K454:=zA (hbox);have Al:=zN HB hg;have Am:=zN HB hg;replace HB:=zS HB hb;clear hb hbox hg)|((with_reducible refine gate_dst (N:=3) rfl ?_);refine zb (N:=3) (cs:=#[.int .i64 a1_0,.int .i64 a1_1,.float .f64 a1_2,.bool true]) (t:=117) ?_;intro G455 hg w17 hbox hb;have K455:=zA (hbox);have An:=zN HB hg;have Ao:=zN HB hg;replace HB:=zS HB hb;have Ac:=zL K454 hg;have Ad:=zG K454 hg;replace K454:=zB K454 hb;clear hb hbox hg;have:=Ad.1;have:=Ac.1;obtain ⟨_,_,_,_,_,_,_,_⟩:=zc4 K455;obtain ⟨_,_,_,_⟩:=zc2 K454)|(go_at_call 127;(with_reducible refine (beaconref07_up.calls k _ _ l0_0 _ _ l0_1 a1_0 false _ ?side1 ?side2 ?side3 ?side4 A4.out).mono ?_);(case side1 => exact zC (Kd.C_below HR0_0.out HB.1));(case side2 => exact HC0_0.out);(case side3 => exact zC (Kd.C_below HR0_1.out HB.1));(case side4 => exact HC0_1.out);rintro e w21 ⟨rfl,hb⟩;replace K454:=zB K454 hb;replace K455:=zB K455 hb;replace HB:=zS HB hb;(try clear hb)))
   go_ret
   exact ⟨zE,zH HB⟩
 ·replace c3:=Bool.eq_false_iff.mpr c3;subst c3;rw [if_neg (show ¬ (false = true) by decide)] at H;obtain rfl:=Option.some.inj H;go_enter Try.func124,Try.ntmps124
  go_wp2_with (first|((with_reducible refine gate_dst (N:=2) rfl ?_);refine zb (N:=2) (cs:=#[.slice A0_0 l0_0.length c0_0,.slice A0_1 l0_1.length c0_1]) (t:=67) ?_;intro G454 hg w22 hbox hb;have K454:=zA (hbox);have Al:=zN HB hg;have Am:=zN HB hg;replace HB:=zS HB hb;clear hb hbox hg)|((with_reducible refine gate_dst (N:=3) rfl ?_);refine zb (N:=3) (cs:=#[.int .i64 a1_0,.int .i64 a1_1,.float .f64 a1_2,.bool false]) (t:=117) ?_;intro G455 hg w23 hbox hb;have K455:=zA (hbox);have An:=zN HB hg;have Ao:=zN HB hg;replace HB:=zS HB hb;have Ac:=zL K454 hg;have Ad:=zG K454 hg;replace K454:=zB K454 hb;clear hb hbox hg;have:=Ad.1;have:=Ac.1;obtain ⟨_,_,_,_,_,_,_,_⟩:=zc4 K455))
  go_ret
  exact ⟨zE,zH HB⟩

end Go.Proofs.Ytgmjlhpigfaicaa.XR
