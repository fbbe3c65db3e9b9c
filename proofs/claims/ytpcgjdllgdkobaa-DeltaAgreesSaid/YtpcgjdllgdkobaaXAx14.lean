/- Go functions of this seat as Lean functions, with proofs that the calls come to them. (Written by xprint.py, a program of this session, over the kit's print.) -/
import Derived.Test.YtpcgjdllgdkobaaXAx0
import Derived.Test.YtpcgjdllgdkobaaXAx2
import Derived.Test.YtpcgjdllgdkobaaXAx13
namespace Go.Proofs.Ytpcgjdllgdkobaa.XA
open Go.RowKit Go.Proofs.YtpcgjdllgdkobaaW.PrintWords Go.Proofs.YtpcgjdllgdkobaaW.PrintLast Go.Proofs.YtpcgjdllgdkobaaW.PrintMore
attribute [local go_sem] max2_int min2_int max_two min_two max_three min_three max_four min_four   -- for this text's walks alone
set_option linter.unusedVariables false
set_option linter.unusedSimpArgs false
open List renaming setIfInBounds_toArray → xA, set_cons_zero → xB, set_cons_succ → xC
open Go.Proofs.YtpcgjdllgdkobaaW.PrintWords renaming blk_drewN → bN, blk_drew → bD, blk_alloc → bA, below_set → bS, blk_frozen → bF, blk_cell → bC, cell_far → cF, blk_far → bZ, blk_below → bB, pw_below_drewN → bwN, below_drew1 → bw1, below_alloc → bwA
open Go.Proofs.YtpcgjdllgdkobaaW.PrintZ
open Bool renaming true → T,false → F

/-! ### beaconref14_List: function 18 -/
def beaconref14_List.l0 : Nat → List (S61) → Int → Option (Bool)
 | 0, _, _ => none
 | k + 1, x0, x3 => if x3 < (x0.length : Int) then (if 0 ≤ x3 then ((math_IsInf.f ((rd_T61 x0 x3).f2) 1).bind fun t197 => (if t197 = true then (some false) else (beaconref14_List.l0 k x0 (wrap64 (x3 + 1))))) else (none)) else ((beaconref14_rising.f k x0).bind fun t198 => (some t198))
def beaconref14_List.f (k : Nat) (l0 : List (S61)) : Option (Bool) := beaconref14_List.l0 k l0 0
theorem beaconref14_List.mono_l : ∀ k, (∀ y0 y1, LeO (beaconref14_List.l0 k y0 y1) (beaconref14_List.l0 (k + 1) y0 y1))
 | 0 => fun _ _ r h => by simp [beaconref14_List.l0] at h
 | k + 1 => by
  have ih0:=beaconref14_List.mono_l k
  ·intro y0 y1
   unfold beaconref14_List.l0
   repeat' first
   | (with_reducible exact ih0 _ _)
   | (with_reducible exact beaconref14_rising.mono _ _)
   | (with_reducible exact LeO.refl _)
   | (with_reducible exact LeO.none _)
   | (with_reducible refine LeO.ite ?_ ?_)
   | (with_reducible refine LeO.bind ?_ (fun _ => ?_))
   | exact ih0 _ _
   | exact beaconref14_rising.mono _ _
   | exact LeO.none _
   | refine LeO.ite ?_ ?_
   | refine LeO.bind ?_ (fun _ => ?_)
theorem beaconref14_List.mono : ∀ a0 k, LeO (beaconref14_List.f k a0) (beaconref14_List.f (k + 1) a0) := by
 intro a0 k
 have ih0:=beaconref14_List.mono_l k
 unfold beaconref14_List.f
 repeat' first
   | (with_reducible exact ih0 _ _)
   | (with_reducible exact beaconref14_rising.mono _ _)
   | (with_reducible exact LeO.refl _)
   | (with_reducible exact LeO.none _)
   | (with_reducible refine LeO.ite ?_ ?_)
   | (with_reducible refine LeO.bind ?_ (fun _ => ?_))
   | exact ih0 _ _
   | exact beaconref14_rising.mono _ _
   | exact LeO.none _
   | refine LeO.ite ?_ ?_
   | refine LeO.bind ?_ (fun _ => ?_)
set_option maxHeartbeats 8000000 in
set_option maxRecDepth 100000 in
theorem beaconref14_List.calls (k : Nat) (A0 : Option Addr) (c0 : Nat) (l0 : List (S61)) (r : Bool) (w : World) (hr0 : Kd.C k61 w A0 l0.length l0) (hc0 : l0.length ≤ c0) (h : beaconref14_List.f k l0 = some r) :
  Calls Try.prog 18 #[.slice A0 l0.length c0] w fun e w' => e = .returned (.bool r) ∧ Below w.heap.size w w':=by
 have HR0:=zA hr0;have HC0:=zA hc0;clear hr0 hc0;have HB:=zA (Below.refl w.heap.size w);have H : (beaconref14_List.l0 k l0 0) = some r:=h;clear h;have H':=zA H;clear H;go_enter Try.func18,Try.ntmps18
 go_wp2
 go_loopg [3] k (fun kq v3 w' => ∃ (x3_1 : Int),v3 = .int .i64 x3_1 ∧ Aside0 (beaconref14_List.l0 kq l0 x3_1 = some r) ∧ Aside0 (kq ≤ k) ∧ Aside0 (Below w.heap.size w w'))
 case atStart => exact ⟨(0),ze,H',⟨Nat.le_refl _⟩,⟨zH HB⟩⟩
 case round =>
  clear H';obtain ⟨x3_1,rfl,HA,HK1,HB⟩:=hrel;cases gk with
  | zero => exact absurd HA.out (by simp [beaconref14_List.l0])
  | succ k1 =>
   have H:=HA.out;clear HA;simp only [beaconref14_List.l0] at H;by_cases c2 : x3_1 < (l0.length : Int)
   ·rw [if_pos c2] at H;have c2b0 : decide (x3_1 < (l0.length : Int)) = true:=decide_eq_true c2;clear c2;by_cases c3 : 0 ≤ x3_1
    ·rw [if_pos c3] at H;have c3b0 : decide (0 ≤ x3_1) = true:=decide_eq_true c3;clear c3;replace H:=Option.bind_eq_some_iff.mp H;obtain ⟨t197,A40,H⟩:=H;(try dsimp only at H);have A4:=zA A40;clear A40;by_cases c5 : t197 = true
     ·subst c5;rw [if_pos rfl] at H;obtain rfl:=Option.some.inj H;have p196 : 0 ≤ (x3_1 : Int):=zd;have q196 : x3_1 < (l0.length : Int):=zd;obtain ⟨ad196,e196,hx196_0,hx196_1,hx196_2,hx196_3,hx196_4⟩:=at_T61 HR0.out x3_1 p196 q196;cases e196;replace hx196_0:=zh HB hx196_0;replace hx196_1:=zh HB hx196_1;replace hx196_2:=zh HB hx196_2;replace hx196_3:=zh HB hx196_3;replace hx196_4:=zh HB hx196_4;replace p196:=eq_true p196;replace q196:=eq_true q196;go_wp2_with (first|((with_reducible refine gate_callee (f:=38) rfl ?_);refine zg (some 15) Try.func38 #[.float .f64 ((rd_T61 l0 x3_1).f2),.int .i64 1] ?_;(with_reducible refine (math_IsInf.calls ((rd_T61 l0 x3_1).f2) 1 true _ A4.out).mono ?_);rintro e w' ⟨rfl,⟨nd,rfl⟩⟩;refine ⟨_,rfl,?_⟩))
      go_ret
      exact ⟨zE,zH HB⟩
     ·replace c5:=Bool.eq_false_iff.mpr c5;subst c5;rw [if_neg (show ¬ (false = true) by decide)] at H;have H':=zA H;clear H;have p196 : 0 ≤ (x3_1 : Int):=zd;have q196 : x3_1 < (l0.length : Int):=zd;obtain ⟨ad196,e196,hx196_0,hx196_1,hx196_2,hx196_3,hx196_4⟩:=at_T61 HR0.out x3_1 p196 q196;cases e196;replace hx196_0:=zh HB hx196_0;replace hx196_1:=zh HB hx196_1;replace hx196_2:=zh HB hx196_2;replace hx196_3:=zh HB hx196_3;replace hx196_4:=zh HB hx196_4;replace p196:=eq_true p196;replace q196:=eq_true q196;go_wp2_with (first|((with_reducible refine gate_callee (f:=38) rfl ?_);refine zg (some 15) Try.func38 #[.float .f64 ((rd_T61 l0 x3_1).f2),.int .i64 1] ?_;(with_reducible refine (math_IsInf.calls ((rd_T61 l0 x3_1).f2) 1 false _ A4.out).mono ?_);rintro e w' ⟨rfl,⟨nd,rfl⟩⟩;refine ⟨_,rfl,?_⟩))
      go_roundg k1
      case measure => have:=HK1.out;omega
      case rel => exact ⟨(wrap64 (x3_1 + 1)),ze,H',⟨by have:=HK1.out;omega⟩,⟨zH HB⟩⟩
    ·rw [if_neg c3] at H;exact absurd H (by simp)
   ·rw [if_neg c2] at H;have c2b0 : decide (x3_1 < (l0.length : Int)) = false:=decide_eq_false c2;clear c2;replace H:=Option.bind_eq_some_iff.mp H;obtain ⟨t198,A60,H⟩:=H;(try dsimp only at H);have A6:=zA A60;clear A60;obtain rfl:=Option.some.inj H;go_wp2_with (first|((with_reducible refine gate_callee (f:=35) rfl ?_);refine zg (some 17) Try.func35 #[.slice A0 l0.length c0] ?_;(with_reducible refine (beaconref14_rising.calls k1 _ _ l0 t198 _ ?side1 ?side2 A6.out).mono ?_);(case side1 => exact zC (Kd.C_below HR0.out HB.1));(case side2 => exact HC0.out);rintro e w7 ⟨rfl,hb⟩;refine ⟨_,rfl,?_⟩;replace HB:=zS HB hb;(try clear hb)))
    go_ret
    exact ⟨zE,zH HB⟩

/-! ### beaconref14_place: function 45 -/
def beaconref14_place.l0 : Nat → List (S61) → Int → Int → Int → Nat → Nat → Int → Option (Int)
 | 0, _, _, _, _, _, _, _ => none
 | k + 1, x0, x5, x200000, x200001, x200002, x200003, x200004 => if x5 < (x0.length : Int) then (if 0 ≤ x5 then (if ((rd_T61 x0 x5).f1) = x200001 then (if ((rd_T61 x0 x5).f0) = x200000 then (some x5) else (beaconref14_place.l0 k x0 (wrap64 (x5 + 1)) x200000 x200001 x200002 x200003 x200004)) else (beaconref14_place.l0 k x0 (wrap64 (x5 + 1)) x200000 x200001 x200002 x200003 x200004)) else (none)) else (some (-1))
def beaconref14_place.f (k : Nat) (l0 : List (S61)) (a1_0 : Int) (a1_1 : Int) (a1_2 : Nat) (a1_3 : Nat) (a1_4 : Int) : Option (Int) := beaconref14_place.l0 k l0 0 a1_0 a1_1 a1_2 a1_3 a1_4
theorem beaconref14_place.mono_l : ∀ k, (∀ y0 y1 y2 y3 y4 y5 y6, LeO (beaconref14_place.l0 k y0 y1 y2 y3 y4 y5 y6) (beaconref14_place.l0 (k + 1) y0 y1 y2 y3 y4 y5 y6))
 | 0 => fun _ _ _ _ _ _ _ r h => by simp [beaconref14_place.l0] at h
 | k + 1 => by
  have ih0:=beaconref14_place.mono_l k
  ·intro y0 y1 y2 y3 y4 y5 y6
   unfold beaconref14_place.l0
   repeat' first
   | (with_reducible exact ih0 _ _ _ _ _ _ _)
   | (with_reducible exact LeO.refl _)
   | (with_reducible exact LeO.none _)
   | (with_reducible refine LeO.ite ?_ ?_)
   | (with_reducible refine LeO.bind ?_ (fun _ => ?_))
   | exact ih0 _ _ _ _ _ _ _
   | exact LeO.none _
   | refine LeO.ite ?_ ?_
   | refine LeO.bind ?_ (fun _ => ?_)
theorem beaconref14_place.mono : ∀ a0 a1 a2 a3 a4 a5 k, LeO (beaconref14_place.f k a0 a1 a2 a3 a4 a5) (beaconref14_place.f (k + 1) a0 a1 a2 a3 a4 a5) := by
 intro a0 a1 a2 a3 a4 a5 k
 have ih0:=beaconref14_place.mono_l k
 unfold beaconref14_place.f
 repeat' first
   | (with_reducible exact ih0 _ _ _ _ _ _ _)
   | (with_reducible exact LeO.refl _)
   | (with_reducible exact LeO.none _)
   | (with_reducible refine LeO.ite ?_ ?_)
   | (with_reducible refine LeO.bind ?_ (fun _ => ?_))
   | exact ih0 _ _ _ _ _ _ _
   | exact LeO.none _
   | refine LeO.ite ?_ ?_
   | refine LeO.bind ?_ (fun _ => ?_)
set_option maxHeartbeats 8000000 in
set_option maxRecDepth 100000 in
theorem beaconref14_place.calls (k : Nat) (A0 : Option Addr) (c0 : Nat) (l0 : List (S61)) (a1_0 : Int) (a1_1 : Int) (a1_2 : Nat) (a1_3 : Nat) (a1_4 : Int) (r : Int) (w : World) (hr0 : Kd.C k61 w A0 l0.length l0) (hc0 : l0.length ≤ c0) (h : beaconref14_place.f k l0 a1_0 a1_1 a1_2 a1_3 a1_4 = some r) :
  Calls Try.prog 45 #[.slice A0 l0.length c0,.agg #[.int .i64 a1_0,.int .i64 a1_1,.float .f64 a1_2,.float .f64 a1_3,.int .i64 a1_4]] w fun e w' => e = .returned (.int .i64 r) ∧ Below w.heap.size w w':=by
 have hu61:=Try.underlying61;have HR0:=zA hr0;have HC0:=zA hc0;clear hr0 hc0;have HB:=zA (Below.refl w.heap.size w);have H : (beaconref14_place.l0 k l0 0 a1_0 a1_1 a1_2 a1_3 a1_4) = some r:=h;clear h;have H':=zA H;clear H;go_enter Try.func45,Try.ntmps45
 go_wp2_with (first|((with_reducible refine gate_dst (N:=3) rfl ?_);refine zb (N:=3) (cs:=#[.int .i64 a1_0,.int .i64 a1_1,.float .f64 a1_2,.float .f64 a1_3,.int .i64 a1_4]) (t:=61) ?_;intro G199 hg w3 hbox hb;have K199:=zA (hbox);have GW199:=zN HB hg;have GE199:=zN HB hg;replace HB:=zS HB hb;clear hb hbox hg))
 repeat (go_quiet (first|((with_reducible refine gate_dst (N:=3) rfl ?_);refine zb (N:=3) (cs:=#[.int .i64 a1_0,.int .i64 a1_1,.float .f64 a1_2,.float .f64 a1_3,.int .i64 a1_4]) (t:=61) ?_;intro G199 hg w3 hbox hb;have K199:=zA (hbox);have GW199:=zN HB hg;have GE199:=zN HB hg;replace HB:=zS HB hb;clear hb hbox hg));try go_wp2_with (first|((with_reducible refine gate_dst (N:=3) rfl ?_);refine zb (N:=3) (cs:=#[.int .i64 a1_0,.int .i64 a1_1,.float .f64 a1_2,.float .f64 a1_3,.int .i64 a1_4]) (t:=61) ?_;intro G199 hg w3 hbox hb;have K199:=zA (hbox);have GW199:=zN HB hg;have GE199:=zN HB hg;replace HB:=zS HB hb;clear hb hbox hg)))
 go_loopg [5] k (fun kq v5 w' => ∃ (x5_1 : Int),v5 = .int .i64 x5_1 ∧ Aside0 (beaconref14_place.l0 kq l0 x5_1 a1_0 a1_1 a1_2 a1_3 a1_4 = some r) ∧ Aside0 (kq ≤ k) ∧ Aside0 (w'.heap[G199]? = some (.cells #[.int .i64 a1_0,.int .i64 a1_1,.float .f64 a1_2,.float .f64 a1_3,.int .i64 a1_4] 61 (0,0))) ∧ Aside0 (Below w.heap.size w w'))
 case atStart => exact ⟨(0),ze,H',⟨Nat.le_refl _⟩,⟨z1 K199.1⟩,⟨zH HB⟩⟩
 case round =>
  clear H';obtain ⟨x5_1,rfl,HA,HK1,K199,HB⟩:=hrel;cases gk with
  | zero => exact absurd HA.out (by simp [beaconref14_place.l0])
  | succ k1 =>
   have H:=HA.out;clear HA;simp only [beaconref14_place.l0] at H;by_cases c4 : x5_1 < (l0.length : Int)
   ·rw [if_pos c4] at H;have c4b0 : decide (x5_1 < (l0.length : Int)) = true:=decide_eq_true c4;clear c4;by_cases c5 : 0 ≤ x5_1
    ·rw [if_pos c5] at H;have c5b0 : decide (0 ≤ x5_1) = true:=decide_eq_true c5;clear c5;by_cases c6 : ((rd_T61 l0 x5_1).f1) = a1_1
     ·rw [if_pos c6] at H;have c6b0 : (((rd_T61 l0 x5_1).f1) == a1_1) = true:=beq_iff_eq.mpr c6;have c6b1 : (((rd_T61 l0 x5_1).f1) != a1_1) = false:=bne_eq_false_iff_eq.mpr c6;clear c6;by_cases c7 : ((rd_T61 l0 x5_1).f0) = a1_0
      ·rw [if_pos c7] at H;have c7b0 : (((rd_T61 l0 x5_1).f0) == a1_0) = true:=beq_iff_eq.mpr c7;have c7b1 : (((rd_T61 l0 x5_1).f0) != a1_0) = false:=bne_eq_false_iff_eq.mpr c7;clear c7;obtain rfl:=Option.some.inj H;have p200 : 0 ≤ (x5_1 : Int):=zd;have q200 : x5_1 < (l0.length : Int):=zd;obtain ⟨ad200,e200,hx200_0,hx200_1,hx200_2,hx200_3,hx200_4⟩:=at_T61 HR0.out x5_1 p200 q200;cases e200;replace hx200_0:=zh HB hx200_0;replace hx200_1:=zh HB hx200_1;replace hx200_2:=zh HB hx200_2;replace hx200_3:=zh HB hx200_3;replace hx200_4:=zh HB hx200_4;replace p200:=eq_true p200;replace q200:=eq_true q200;obtain ⟨_,_,_,_,_,_,_,_,_,_⟩:=zc5 K199;have p201 : 0 ≤ (x5_1 : Int):=zd;have q201 : x5_1 < (l0.length : Int):=zd;obtain ⟨ad201,e201,hx201_0,hx201_1,hx201_2,hx201_3,hx201_4⟩:=at_T61 HR0.out x5_1 p201 q201;obtain rfl : ad200 = ad201:=(by injection e201);replace hx201_0:=zh HB hx201_0;replace hx201_1:=zh HB hx201_1;replace hx201_2:=zh HB hx201_2;replace hx201_3:=zh HB hx201_3;replace hx201_4:=zh HB hx201_4;replace p201:=eq_true p201;replace q201:=eq_true q201;go_wp2
       repeat (go_quiet (fail);try go_wp2)
       go_ret
       exact ⟨zE,zH HB⟩
      ·rw [if_neg c7] at H;have c7b0 : (((rd_T61 l0 x5_1).f0) == a1_0) = false:=beq_eq_false_iff_ne.mpr c7;have c7b1 : (((rd_T61 l0 x5_1).f0) != a1_0) = true:=bne_iff_ne.mpr c7;have H':=zA H;clear H;have p200 : 0 ≤ (x5_1 : Int):=zd;have q200 : x5_1 < (l0.length : Int):=zd;obtain ⟨ad200,e200,hx200_0,hx200_1,hx200_2,hx200_3,hx200_4⟩:=at_T61 HR0.out x5_1 p200 q200;cases e200;replace hx200_0:=zh HB hx200_0;replace hx200_1:=zh HB hx200_1;replace hx200_2:=zh HB hx200_2;replace hx200_3:=zh HB hx200_3;replace hx200_4:=zh HB hx200_4;replace p200:=eq_true p200;replace q200:=eq_true q200;obtain ⟨_,_,_,_,_,_,_,_,_,_⟩:=zc5 K199;have p201 : 0 ≤ (x5_1 : Int):=zd;have q201 : x5_1 < (l0.length : Int):=zd;obtain ⟨ad201,e201,hx201_0,hx201_1,hx201_2,hx201_3,hx201_4⟩:=at_T61 HR0.out x5_1 p201 q201;obtain rfl : ad200 = ad201:=(by injection e201);replace hx201_0:=zh HB hx201_0;replace hx201_1:=zh HB hx201_1;replace hx201_2:=zh HB hx201_2;replace hx201_3:=zh HB hx201_3;replace hx201_4:=zh HB hx201_4;replace p201:=eq_true p201;replace q201:=eq_true q201;go_wp2
       repeat (go_quiet (fail);try go_wp2)
       go_roundg k1
       case measure => have:=HK1.out;omega
       case rel => exact ⟨(wrap64 (x5_1 + 1)),ze,H',⟨by have:=HK1.out;omega⟩,⟨z1 K199.1⟩,⟨zH HB⟩⟩
     ·rw [if_neg c6] at H;have c6b0 : (((rd_T61 l0 x5_1).f1) == a1_1) = false:=beq_eq_false_iff_ne.mpr c6;have c6b1 : (((rd_T61 l0 x5_1).f1) != a1_1) = true:=bne_iff_ne.mpr c6;have H':=zA H;clear H;have p200 : 0 ≤ (x5_1 : Int):=zd;have q200 : x5_1 < (l0.length : Int):=zd;obtain ⟨ad200,e200,hx200_0,hx200_1,hx200_2,hx200_3,hx200_4⟩:=at_T61 HR0.out x5_1 p200 q200;cases e200;replace hx200_0:=zh HB hx200_0;replace hx200_1:=zh HB hx200_1;replace hx200_2:=zh HB hx200_2;replace hx200_3:=zh HB hx200_3;replace hx200_4:=zh HB hx200_4;replace p200:=eq_true p200;replace q200:=eq_true q200;obtain ⟨_,_,_,_,_,_,_,_,_,_⟩:=zc5 K199;go_wp2
      repeat (go_quiet (fail);try go_wp2)
      go_roundg k1
      case measure => have:=HK1.out;omega
      case rel => exact ⟨(wrap64 (x5_1 + 1)),ze,H',⟨by have:=HK1.out;omega⟩,⟨z1 K199.1⟩,⟨zH HB⟩⟩
    ·rw [if_neg c5] at H;exact absurd H (by simp)
   ·rw [if_neg c4] at H;have c4b0 : decide (x5_1 < (l0.length : Int)) = false:=decide_eq_false c4;clear c4;obtain rfl:=Option.some.inj H;go_wp2
    repeat (go_quiet (fail);try go_wp2)
    go_ret
    exact ⟨zE,zH HB⟩

end Go.Proofs.Ytpcgjdllgdkobaa.XA
