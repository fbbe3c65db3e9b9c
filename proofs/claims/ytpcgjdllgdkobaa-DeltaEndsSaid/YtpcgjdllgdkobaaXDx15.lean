/- Go functions of this seat as Lean functions, with proofs that the calls come to them. (Written by xprint.py, a program of this session, over the kit's print.) -/
import Derived.Test.YtpcgjdllgdkobaaXDx0
import Derived.Test.YtpcgjdllgdkobaaXDx14
namespace Go.Proofs.Ytpcgjdllgdkobaa.XD
open Go.RowKit Go.Proofs.YtpcgjdllgdkobaaW.PrintWords Go.Proofs.YtpcgjdllgdkobaaW.PrintLast Go.Proofs.YtpcgjdllgdkobaaW.PrintMore
attribute [local go_sem] max2_int min2_int max_two min_two max_three min_three max_four min_four   -- for this text's walks alone
set_option linter.unusedVariables false
set_option linter.unusedSimpArgs false
open List renaming setIfInBounds_toArray → xA, set_cons_zero → xB, set_cons_succ → xC
open Go.Proofs.YtpcgjdllgdkobaaW.PrintWords renaming blk_drewN → bN, blk_drew → bD, blk_alloc → bA, below_set → bS, blk_frozen → bF, blk_cell → bC, cell_far → cF, blk_far → bZ, blk_below → bB, pw_below_drewN → bwN, below_drew1 → bw1, below_alloc → bwA
open Go.Proofs.YtpcgjdllgdkobaaW.PrintZ
open Bool renaming true → T,false → F

/-! ### beaconref14_rising: function 35 -/
def beaconref14_rising.l0 : Nat → List (S61) → Int → Option (Bool)
 | 0, _, _ => none
 | k + 1, x0, x3 => if x3 < (x0.length : Int) then (if 0 ≤ x3 then ((beaconref06_May.f k ((rd_T61 x0 x3).f0) ((rd_T61 x0 x3).f1) ((rd_T61 x0 x3).f2) ((rd_T61 x0 x3).f3) ((rd_T61 x0 x3).f4)).bind fun t207 => (if t207 = true then (if x3 > 0 then (if 0 ≤ (wrap64 (x3 - 1)) then (if (wrap64 (x3 - 1)) < (x0.length : Int) then ((beaconref06_Before.f ((rd_T61 x0 (wrap64 (x3 - 1))).f0) ((rd_T61 x0 (wrap64 (x3 - 1))).f1) ((rd_T61 x0 (wrap64 (x3 - 1))).f2) ((rd_T61 x0 (wrap64 (x3 - 1))).f3) ((rd_T61 x0 (wrap64 (x3 - 1))).f4) ((rd_T61 x0 x3).f0) ((rd_T61 x0 x3).f1) ((rd_T61 x0 x3).f2) ((rd_T61 x0 x3).f3) ((rd_T61 x0 x3).f4)).bind fun t210 => (if t210 = true then (beaconref14_rising.l0 k x0 (wrap64 (x3 + 1))) else (some false))) else (none)) else (none)) else (beaconref14_rising.l0 k x0 (wrap64 (x3 + 1)))) else (some false))) else (none)) else (some true)
def beaconref14_rising.f (k : Nat) (l0 : List (S61)) : Option (Bool) := beaconref14_rising.l0 k l0 0
theorem beaconref14_rising.mono_l : ∀ k, (∀ y0 y1, LeO (beaconref14_rising.l0 k y0 y1) (beaconref14_rising.l0 (k + 1) y0 y1))
 | 0 => fun _ _ r h => by simp [beaconref14_rising.l0] at h
 | k + 1 => by
  have ih0:=beaconref14_rising.mono_l k
  ·intro y0 y1
   unfold beaconref14_rising.l0
   repeat' first
   | (with_reducible exact ih0 _ _)
   | (with_reducible exact beaconref06_May.mono _ _ _ _ _ _)
   | (with_reducible exact LeO.refl _)
   | (with_reducible exact LeO.none _)
   | (with_reducible refine LeO.ite ?_ ?_)
   | (with_reducible refine LeO.bind ?_ (fun _ => ?_))
   | exact ih0 _ _
   | exact beaconref06_May.mono _ _ _ _ _ _
   | exact LeO.none _
   | refine LeO.ite ?_ ?_
   | refine LeO.bind ?_ (fun _ => ?_)
theorem beaconref14_rising.mono : ∀ a0 k, LeO (beaconref14_rising.f k a0) (beaconref14_rising.f (k + 1) a0) := by
 intro a0 k
 have ih0:=beaconref14_rising.mono_l k
 unfold beaconref14_rising.f
 repeat' first
   | (with_reducible exact ih0 _ _)
   | (with_reducible exact beaconref06_May.mono _ _ _ _ _ _)
   | (with_reducible exact LeO.refl _)
   | (with_reducible exact LeO.none _)
   | (with_reducible refine LeO.ite ?_ ?_)
   | (with_reducible refine LeO.bind ?_ (fun _ => ?_))
   | exact ih0 _ _
   | exact beaconref06_May.mono _ _ _ _ _ _
   | exact LeO.none _
   | refine LeO.ite ?_ ?_
   | refine LeO.bind ?_ (fun _ => ?_)
def beaconref14_rising.T4 : Bool × List (List Nat × List Nat) := (true, [([], []), ([], []), ([0, 1], [0, 1]), ([2], [2]), ([3], [3]), ([4], [4]), ([5, 4], [5]), ([6], [6]), ([7, 6], [6, 7]), ([8, 6, 6], [6, 8]), ([9], [9]), ([9], [9]), ([11, 9], [9, 11]), ([10, 12, 9], [9, 10, 12]), ([13, 9], [9, 13]), ([9], [9]), ([9], [9]), ([15, 16, 9], [9, 15, 16]), ([17, 9], [9, 17]), ([14, 18, 9, 9], [9, 14, 18]), ([19, 9], [9, 19]), ([9, 20, 6], [6, 9, 20]), ([6, 21], [6, 21])])
def beaconref14_rising.B4 : List Nat := [0, 0, 3, 7, 15, 31, 63, 127, 255, 511, 1023, 1023, 3071, 8191, 16383, 1023, 1023, 99327, 230399, 524287, 1048575, 2097151, 4194303]
theorem beaconref14_rising.tab4 : rtab .any (opsOf Try.f35 4) = beaconref14_rising.T4 := by kernel_rfl
theorem beaconref14_rising.bits4 : waitsOk beaconref14_rising.T4.2 beaconref14_rising.B4 = true := by kernel_rfl
set_option maxHeartbeats 8000000 in
set_option maxRecDepth 100000 in
theorem beaconref14_rising.calls (k : Nat) (A0 : Option Addr) (c0 : Nat) (l0 : List (S61)) (r : Bool) (w : World) (hr0 : Kd.C k61 w A0 l0.length l0) (hc0 : l0.length ≤ c0) (h : beaconref14_rising.f k l0 = some r) :
  Calls Try.prog 35 #[.slice A0 l0.length c0] w fun e w' => e = .returned (.bool r) ∧ Below w.heap.size w w':=by
 have hu61:=Try.underlying61
 have HR0:=zA hr0
 have HC0:=zA hc0
 clear hr0 hc0
 have HB:=zA (Below.refl w.heap.size w)
 have H : (beaconref14_rising.l0 k l0 0) = some r:=h
 clear h
 have H':=zA H
 clear H
 go_enter Try.func35,Try.ntmps35
 go_wp2
 go_loopg [3] k (fun kq v3 w' => ∃ (x3_1 : Int),v3 = .int .i64 x3_1 ∧ Aside0 (beaconref14_rising.l0 kq l0 x3_1 = some r) ∧ Aside0 (kq ≤ k) ∧ Aside0 (Below w.heap.size w w'))
 case atStart => exact ⟨(0),ze,H',⟨Nat.le_refl _⟩,⟨zH HB⟩⟩
 case round =>
  clear H'
  obtain ⟨x3_1,rfl,HA,HK1,HB⟩:=hrel
  cases gk with
  | zero => exact absurd HA.out (by simp [beaconref14_rising.l0])
  | succ k1 =>
   have H:=HA.out
   clear HA
   simp only [beaconref14_rising.l0] at H
   by_cases c2 : x3_1 < (l0.length : Int)
   ·rw [if_pos c2] at H
    have c2b0 : decide (x3_1 < (l0.length : Int)) = true:=decide_eq_true c2
    clear c2
    by_cases c3 : 0 ≤ x3_1
    ·rw [if_pos c3] at H
     have c3b0 : decide (0 ≤ x3_1) = true:=decide_eq_true c3
     clear c3
     replace H:=Option.bind_eq_some_iff.mp H
     obtain ⟨t207,A40,H⟩:=H
     (try dsimp only at H)
     have A4:=zA A40
     clear A40
     by_cases c5 : t207 = true
     ·subst c5
      rw [if_pos rfl] at H
      by_cases c6 : x3_1 > 0
      ·rw [if_pos c6] at H
       have c6b0 : decide (0 < x3_1) = true:=decide_eq_true c6
       clear c6
       obtain ⟨ji7,hji7⟩ : ∃ j_ : Int,(wrap64 (x3_1 - 1)) = j_:=⟨_,rfl⟩
       replace H : (if 0 ≤ (ji7) then (if (ji7) < (l0.length : Int) then ((beaconref06_Before.f ((rd_T61 l0 (ji7)).f0) ((rd_T61 l0 (ji7)).f1) ((rd_T61 l0 (ji7)).f2) ((rd_T61 l0 (ji7)).f3) ((rd_T61 l0 (ji7)).f4) ((rd_T61 l0 x3_1).f0) ((rd_T61 l0 x3_1).f1) ((rd_T61 l0 x3_1).f2) ((rd_T61 l0 x3_1).f3) ((rd_T61 l0 x3_1).f4)).bind fun t210 => (if t210 = true then (beaconref14_rising.l0 k1 l0 (wrap64 (x3_1 + 1))) else (some false))) else (none)) else (none)) = some r:=by first|(rw [hji7] at H;exact H)|(simp only [hji7] at H ⊢;exact H)
       (try rw [hji7] at A4)
       have hji7w : (IntKind.i64.wrap (x3_1 - 1)) = ji7:=(i64_w _).trans hji7
       by_cases c8 : 0 ≤ (ji7)
       ·rw [if_pos c8] at H
        have c8b0 : decide (0 ≤ (ji7)) = true:=decide_eq_true c8
        clear c8
        by_cases c9 : (ji7) < (l0.length : Int)
        ·rw [if_pos c9] at H
         have c9b0 : decide ((ji7) < (l0.length : Int)) = true:=decide_eq_true c9
         clear c9
         replace H:=Option.bind_eq_some_iff.mp H
         obtain ⟨t210,A100,H⟩:=H
         (try dsimp only at H)
         have A10:=zA A100
         clear A100
         by_cases c11 : t210 = true
         ·subst c11
          rw [if_pos rfl] at H
          have H':=zA H
          clear H
          try go_wp2
          replace HB:=zA (bw1 HB.1)
          have p206 : 0 ≤ (x3_1 : Int):=zd
          have q206 : x3_1 < (l0.length : Int):=zd
          obtain ⟨ad206,e206,hx206_0,hx206_1,hx206_2,hx206_3,hx206_4⟩:=at_T61 HR0.out x3_1 p206 q206
          have hw206_4:=hx206_4
          have hw206_3:=hx206_3
          have hw206_2:=hx206_2
          have hw206_1:=hx206_1
          have hw206_0:=hx206_0
          cases e206
          replace hx206_0:=zh HB hx206_0
          replace hx206_1:=zh HB hx206_1
          replace hx206_2:=zh HB hx206_2
          replace hx206_3:=zh HB hx206_3
          replace hx206_4:=zh HB hx206_4
          replace p206:=eq_true p206
          replace q206:=eq_true q206
          have p208 : 0 ≤ ((ji7) : Int):=zd
          have q208 : (ji7) < (l0.length : Int):=zd
          obtain ⟨ad208,e208,hx208_0,hx208_1,hx208_2,hx208_3,hx208_4⟩:=at_T61 HR0.out (ji7) p208 q208
          have hw208_4:=hx208_4
          have hw208_3:=hx208_3
          have hw208_2:=hx208_2
          have hw208_1:=hx208_1
          have hw208_0:=hx208_0
          obtain rfl : ad206 = ad208:=(by injection e208)
          replace hx208_0:=zh HB hx208_0
          replace hx208_1:=zh HB hx208_1
          replace hx208_2:=zh HB hx208_2
          replace hx208_3:=zh HB hx208_3
          replace hx208_4:=zh HB hx208_4
          replace p208:=eq_true p208
          replace q208:=eq_true q208
          have p209 : 0 ≤ (x3_1 : Int):=zd
          have q209 : x3_1 < (l0.length : Int):=zd
          obtain ⟨ad209,e209,hx209_0,hx209_1,hx209_2,hx209_3,hx209_4⟩:=at_T61 HR0.out x3_1 p209 q209
          have hw209_4:=hx209_4
          have hw209_3:=hx209_3
          have hw209_2:=hx209_2
          have hw209_1:=hx209_1
          have hw209_0:=hx209_0
          obtain rfl : ad206 = ad209:=(by injection e209)
          replace hx209_0:=zh HB hx209_0
          replace hx209_1:=zh HB hx209_1
          replace hx209_2:=zh HB hx209_2
          replace hx209_3:=zh HB hx209_3
          replace hx209_4:=zh HB hx209_4
          replace p209:=eq_true p209
          replace q209:=eq_true q209
          refine start_ (n:=23) (S:=fun w' => w'.cell? (ad206.add ((x3_1).toNat * 5)) = some (.int .i64 ((rd_T61 l0 x3_1).f0)) ∧ w'.cell? ⟨(ad206.add ((x3_1).toNat * 5)).block,(ad206.add ((x3_1).toNat * 5)).off + 1,none⟩ = some (.int .i64 ((rd_T61 l0 x3_1).f1)) ∧ w'.cell? ⟨(ad206.add ((x3_1).toNat * 5)).block,(ad206.add ((x3_1).toNat * 5)).off + 2,none⟩ = some (.float .f64 ((rd_T61 l0 x3_1).f2)) ∧ w'.cell? ⟨(ad206.add ((x3_1).toNat * 5)).block,(ad206.add ((x3_1).toNat * 5)).off + 3,none⟩ = some (.float .f64 ((rd_T61 l0 x3_1).f3)) ∧ w'.cell? ⟨(ad206.add ((x3_1).toNat * 5)).block,(ad206.add ((x3_1).toNat * 5)).off + 4,none⟩ = some (.int .i64 ((rd_T61 l0 x3_1).f4)) ∧ w'.cell? (ad206.add (((ji7)).toNat * 5)) = some (.int .i64 ((rd_T61 l0 (ji7)).f0)) ∧ w'.cell? ⟨(ad206.add (((ji7)).toNat * 5)).block,(ad206.add (((ji7)).toNat * 5)).off + 1,none⟩ = some (.int .i64 ((rd_T61 l0 (ji7)).f1)) ∧ w'.cell? ⟨(ad206.add (((ji7)).toNat * 5)).block,(ad206.add (((ji7)).toNat * 5)).off + 2,none⟩ = some (.float .f64 ((rd_T61 l0 (ji7)).f2)) ∧ w'.cell? ⟨(ad206.add (((ji7)).toNat * 5)).block,(ad206.add (((ji7)).toNat * 5)).off + 3,none⟩ = some (.float .f64 ((rd_T61 l0 (ji7)).f3)) ∧ w'.cell? ⟨(ad206.add (((ji7)).toNat * 5)).block,(ad206.add (((ji7)).toNat * 5)).off + 4,none⟩ = some (.int .i64 ((rd_T61 l0 (ji7)).f4)) ∧ w'.cell? (ad206.add ((x3_1).toNat * 5)) = some (.int .i64 ((rd_T61 l0 x3_1).f0)) ∧ w'.cell? ⟨(ad206.add ((x3_1).toNat * 5)).block,(ad206.add ((x3_1).toNat * 5)).off + 1,none⟩ = some (.int .i64 ((rd_T61 l0 x3_1).f1)) ∧ w'.cell? ⟨(ad206.add ((x3_1).toNat * 5)).block,(ad206.add ((x3_1).toNat * 5)).off + 2,none⟩ = some (.float .f64 ((rd_T61 l0 x3_1).f2)) ∧ w'.cell? ⟨(ad206.add ((x3_1).toNat * 5)).block,(ad206.add ((x3_1).toNat * 5)).off + 3,none⟩ = some (.float .f64 ((rd_T61 l0 x3_1).f3)) ∧ w'.cell? ⟨(ad206.add ((x3_1).toNat * 5)).block,(ad206.add ((x3_1).toNat * 5)).off + 4,none⟩ = some (.int .i64 ((rd_T61 l0 x3_1).f4))) (ds:=[]) #[F,F,F,F,F,F,F,F,F,F,F,F,F,F,F,F,F,F,F,F,F,F,F] (by kernel_rfl) rfl rfl ⟨(zh HB hw206_0),(zh HB hw206_1),(zh HB hw206_2),(zh HB hw206_3),(zh HB hw206_4),(zh HB hw208_0),(zh HB hw208_1),(zh HB hw208_2),(zh HB hw208_3),(zh HB hw208_4),(zh HB hw209_0),(zh HB hw209_1),(zh HB hw209_2),(zh HB hw209_3),(zh HB hw209_4)⟩ (fun hHeld => ?_);refine with_tabW beaconref14_rising.tab4 beaconref14_rising.bits4 (fun HT_ HW_ => ?_)
          generalize wr.drew = w12 at HB hx206_0 hx206_1 hx206_2 hx206_3 hx206_4 hx208_0 hx208_1 hx208_2 hx208_3 hx208_4 hx209_0 hx209_1 hx209_2 hx209_3 hx209_4 hHeld ⊢
          refine pz 0 10 #[T,F,F,F,F,F,F,F,F,F,F,F,F,F,F,F,F,F,F,F,F,F,F] HT_.1 ?_
          refine pz 1 11 #[T,T,F,F,F,F,F,F,F,F,F,F,F,F,F,F,F,F,F,F,F,F,F] HT_.1 ?_
          refine pz 2 12 #[T,T,T,F,F,F,F,F,F,F,F,F,F,F,F,F,F,F,F,F,F,F,F] HT_.1 ?_
          refine tz 3 13 #[T,T,T,T,F,F,F,F,F,F,F,F,F,F,F,F,F,F,F,F,F,F,F] HT_.1 HW_.1 hHeld ?_
          refine one_ (i:=4) (N:=some 14) #[T,T,T,T,T,F,F,F,F,F,F,F,F,F,F,F,F,F,F,F,F,F,F] rfl rfl (one_of HT_.out (by kernel_rfl)) (by decide) (fun K hK => ?_)
          refine zo_ Try.func49 #[.agg #[.int .i64 ((rd_T61 l0 x3_1).f0),.int .i64 ((rd_T61 l0 x3_1).f1),.float .f64 ((rd_T61 l0 x3_1).f2),.float .f64 ((rd_T61 l0 x3_1).f3),.int .i64 ((rd_T61 l0 x3_1).f4)]] ?_
          with_reducible refine (beaconref06_May.calls k1 ((rd_T61 l0 x3_1).f0) ((rd_T61 l0 x3_1).f1) ((rd_T61 l0 x3_1).f2) ((rd_T61 l0 x3_1).f3) ((rd_T61 l0 x3_1).f4) true _ A4.out).mono ?_
          rintro e w13 ⟨rfl,hb⟩
          refine ⟨_,rfl,?_⟩
          replace HB:=zS HB hb
          (try clear hb)
          (try clear hb2)
          (try clear hk)
          (try clear hi)
          refine hK.out _ _ ⟨(zh HB hw206_0),(zh HB hw206_1),(zh HB hw206_2),(zh HB hw206_3),(zh HB hw206_4),(zh HB hw208_0),(zh HB hw208_1),(zh HB hw208_2),(zh HB hw208_3),(zh HB hw208_4),(zh HB hw209_0),(zh HB hw209_1),(zh HB hw209_2),(zh HB hw209_3),(zh HB hw209_4)⟩ (fun hHeld => ?_)
          clear hK K
          refine nz 14 ?_
          refine pz 5 15 #[T,T,T,T,T,T,F,F,F,F,F,F,F,F,F,F,F,F,F,F,F,F,F] HT_.1 ?_
          refine pz 6 16 #[T,T,T,T,T,T,T,F,F,F,F,F,F,F,F,F,F,F,F,F,F,F,F] HT_.1 ?_
          refine pz 7 17 #[T,T,T,T,T,T,T,T,F,F,F,F,F,F,F,F,F,F,F,F,F,F,F] HT_.1 ?_
          refine pz 8 18 #[T,T,T,T,T,T,T,T,T,F,F,F,F,F,F,F,F,F,F,F,F,F,F] HT_.1 ?_
          refine pz 9 19 #[T,T,T,T,T,T,T,T,T,T,F,F,F,F,F,F,F,F,F,F,F,F,F] HT_.1 ?_
          refine pz 10 20 #[T,T,T,T,T,T,T,T,T,T,T,F,F,F,F,F,F,F,F,F,F,F,F] HT_.1 ?_
          refine pz 11 21 #[T,T,T,T,T,T,T,T,T,T,T,T,F,F,F,F,F,F,F,F,F,F,F] HT_.1 ?_
          refine pz 12 22 #[T,T,T,T,T,T,T,T,T,T,T,T,T,F,F,F,F,F,F,F,F,F,F] HT_.1 ?_
          refine pz 13 23 #[T,T,T,T,T,T,T,T,T,T,T,T,T,T,F,F,F,F,F,F,F,F,F] HT_.1 ?_
          refine pz 15 25 #[T,T,T,T,T,T,T,T,T,T,T,T,T,T,F,T,F,F,F,F,F,F,F] HT_.1 ?_
          refine pz 16 26 #[T,T,T,T,T,T,T,T,T,T,T,T,T,T,F,T,T,F,F,F,F,F,F] HT_.1 ?_
          refine pz 17 27 #[T,T,T,T,T,T,T,T,T,T,T,T,T,T,F,T,T,T,F,F,F,F,F] HT_.1 ?_
          refine tz 14 24 #[T,T,T,T,T,T,T,T,T,T,T,T,T,T,T,T,T,T,F,F,F,F,F] HT_.1 HW_.1 hHeld ?_
          refine tz 18 28 #[T,T,T,T,T,T,T,T,T,T,T,T,T,T,T,T,T,T,T,F,F,F,F] HT_.1 HW_.1 hHeld ?_
          refine one_ (i:=19) (N:=some 29) #[T,T,T,T,T,T,T,T,T,T,T,T,T,T,T,T,T,T,T,T,F,F,F] rfl rfl (one_of HT_.out (by kernel_rfl)) (by decide) (fun K hK => ?_)
          refine goes_ Try.func50 (by kernel_rfl) rfl #[.agg #[.int .i64 ((rd_T61 l0 (ji7)).f0),.int .i64 ((rd_T61 l0 (ji7)).f1),.float .f64 ((rd_T61 l0 (ji7)).f2),.float .f64 ((rd_T61 l0 (ji7)).f3),.int .i64 ((rd_T61 l0 (ji7)).f4)],.agg #[.int .i64 ((rd_T61 l0 x3_1).f0),.int .i64 ((rd_T61 l0 x3_1).f1),.float .f64 ((rd_T61 l0 x3_1).f2),.float .f64 ((rd_T61 l0 x3_1).f3),.int .i64 ((rd_T61 l0 x3_1).f4)]] (by rfl) rfl rfl (by (try simp only [List.map_toArray,List.map_cons,List.map_nil]);first|done|(simp only [hji7];rfl)|rfl|(simp only [List.length_drop,List.length_take];rfl)) ?_
          with_reducible refine (beaconref06_Before.calls ((rd_T61 l0 (ji7)).f0) ((rd_T61 l0 (ji7)).f1) ((rd_T61 l0 (ji7)).f2) ((rd_T61 l0 (ji7)).f3) ((rd_T61 l0 (ji7)).f4) ((rd_T61 l0 x3_1).f0) ((rd_T61 l0 x3_1).f1) ((rd_T61 l0 x3_1).f2) ((rd_T61 l0 x3_1).f3) ((rd_T61 l0 x3_1).f4) true _ A10.out).mono ?_
          rintro e w14 ⟨rfl,hb⟩
          refine ⟨_,rfl,?_⟩
          replace HB:=zS HB hb
          (try clear hb)
          (try clear hb2)
          (try clear hk)
          (try clear hi)
          refine hK.out _ _ ⟨(zh HB hw206_0),(zh HB hw206_1),(zh HB hw206_2),(zh HB hw206_3),(zh HB hw206_4),(zh HB hw208_0),(zh HB hw208_1),(zh HB hw208_2),(zh HB hw208_3),(zh HB hw208_4),(zh HB hw209_0),(zh HB hw209_1),(zh HB hw209_2),(zh HB hw209_3),(zh HB hw209_4)⟩ (fun hHeld => ?_)
          clear hK K
          refine nz 29 ?_
          refine pz 20 30 #[T,T,T,T,T,T,T,T,T,T,T,T,T,T,T,T,T,T,T,T,T,F,F] HT_.1 ?_
          refine pz 21 31 #[T,T,T,T,T,T,T,T,T,T,T,T,T,T,T,T,T,T,T,T,T,T,F] HT_.1 ?_
          refine pz 22 32 #[T,T,T,T,T,T,T,T,T,T,T,T,T,T,T,T,T,T,T,T,T,T,T] HT_.1 ?_
          refine done_ (done_of HT_.out (by kernel_rfl)) ?_
          try go_wp2
          go_roundg k1
          case measure => have:=HK1.out;omega
          case rel => exact ⟨(wrap64 (x3_1 + 1)),ze,H',⟨by have:=HK1.out;omega⟩,⟨zH HB⟩⟩
         ·replace c11:=Bool.eq_false_iff.mpr c11
          subst c11
          rw [if_neg (show ¬ (false = true) by decide)] at H
          obtain rfl:=Option.some.inj H
          try go_wp2
          replace HB:=zA (bw1 HB.1)
          have p206 : 0 ≤ (x3_1 : Int):=zd
          have q206 : x3_1 < (l0.length : Int):=zd
          obtain ⟨ad206,e206,hx206_0,hx206_1,hx206_2,hx206_3,hx206_4⟩:=at_T61 HR0.out x3_1 p206 q206
          have hw206_4:=hx206_4
          have hw206_3:=hx206_3
          have hw206_2:=hx206_2
          have hw206_1:=hx206_1
          have hw206_0:=hx206_0
          cases e206
          replace hx206_0:=zh HB hx206_0
          replace hx206_1:=zh HB hx206_1
          replace hx206_2:=zh HB hx206_2
          replace hx206_3:=zh HB hx206_3
          replace hx206_4:=zh HB hx206_4
          replace p206:=eq_true p206
          replace q206:=eq_true q206
          have p208 : 0 ≤ ((ji7) : Int):=zd
          have q208 : (ji7) < (l0.length : Int):=zd
          obtain ⟨ad208,e208,hx208_0,hx208_1,hx208_2,hx208_3,hx208_4⟩:=at_T61 HR0.out (ji7) p208 q208
          have hw208_4:=hx208_4
          have hw208_3:=hx208_3
          have hw208_2:=hx208_2
          have hw208_1:=hx208_1
          have hw208_0:=hx208_0
          obtain rfl : ad206 = ad208:=(by injection e208)
          replace hx208_0:=zh HB hx208_0
          replace hx208_1:=zh HB hx208_1
          replace hx208_2:=zh HB hx208_2
          replace hx208_3:=zh HB hx208_3
          replace hx208_4:=zh HB hx208_4
          replace p208:=eq_true p208
          replace q208:=eq_true q208
          have p209 : 0 ≤ (x3_1 : Int):=zd
          have q209 : x3_1 < (l0.length : Int):=zd
          obtain ⟨ad209,e209,hx209_0,hx209_1,hx209_2,hx209_3,hx209_4⟩:=at_T61 HR0.out x3_1 p209 q209
          have hw209_4:=hx209_4
          have hw209_3:=hx209_3
          have hw209_2:=hx209_2
          have hw209_1:=hx209_1
          have hw209_0:=hx209_0
          obtain rfl : ad206 = ad209:=(by injection e209)
          replace hx209_0:=zh HB hx209_0
          replace hx209_1:=zh HB hx209_1
          replace hx209_2:=zh HB hx209_2
          replace hx209_3:=zh HB hx209_3
          replace hx209_4:=zh HB hx209_4
          replace p209:=eq_true p209
          replace q209:=eq_true q209
          refine start_ (n:=23) (S:=fun w' => w'.cell? (ad206.add ((x3_1).toNat * 5)) = some (.int .i64 ((rd_T61 l0 x3_1).f0)) ∧ w'.cell? ⟨(ad206.add ((x3_1).toNat * 5)).block,(ad206.add ((x3_1).toNat * 5)).off + 1,none⟩ = some (.int .i64 ((rd_T61 l0 x3_1).f1)) ∧ w'.cell? ⟨(ad206.add ((x3_1).toNat * 5)).block,(ad206.add ((x3_1).toNat * 5)).off + 2,none⟩ = some (.float .f64 ((rd_T61 l0 x3_1).f2)) ∧ w'.cell? ⟨(ad206.add ((x3_1).toNat * 5)).block,(ad206.add ((x3_1).toNat * 5)).off + 3,none⟩ = some (.float .f64 ((rd_T61 l0 x3_1).f3)) ∧ w'.cell? ⟨(ad206.add ((x3_1).toNat * 5)).block,(ad206.add ((x3_1).toNat * 5)).off + 4,none⟩ = some (.int .i64 ((rd_T61 l0 x3_1).f4)) ∧ w'.cell? (ad206.add (((ji7)).toNat * 5)) = some (.int .i64 ((rd_T61 l0 (ji7)).f0)) ∧ w'.cell? ⟨(ad206.add (((ji7)).toNat * 5)).block,(ad206.add (((ji7)).toNat * 5)).off + 1,none⟩ = some (.int .i64 ((rd_T61 l0 (ji7)).f1)) ∧ w'.cell? ⟨(ad206.add (((ji7)).toNat * 5)).block,(ad206.add (((ji7)).toNat * 5)).off + 2,none⟩ = some (.float .f64 ((rd_T61 l0 (ji7)).f2)) ∧ w'.cell? ⟨(ad206.add (((ji7)).toNat * 5)).block,(ad206.add (((ji7)).toNat * 5)).off + 3,none⟩ = some (.float .f64 ((rd_T61 l0 (ji7)).f3)) ∧ w'.cell? ⟨(ad206.add (((ji7)).toNat * 5)).block,(ad206.add (((ji7)).toNat * 5)).off + 4,none⟩ = some (.int .i64 ((rd_T61 l0 (ji7)).f4)) ∧ w'.cell? (ad206.add ((x3_1).toNat * 5)) = some (.int .i64 ((rd_T61 l0 x3_1).f0)) ∧ w'.cell? ⟨(ad206.add ((x3_1).toNat * 5)).block,(ad206.add ((x3_1).toNat * 5)).off + 1,none⟩ = some (.int .i64 ((rd_T61 l0 x3_1).f1)) ∧ w'.cell? ⟨(ad206.add ((x3_1).toNat * 5)).block,(ad206.add ((x3_1).toNat * 5)).off + 2,none⟩ = some (.float .f64 ((rd_T61 l0 x3_1).f2)) ∧ w'.cell? ⟨(ad206.add ((x3_1).toNat * 5)).block,(ad206.add ((x3_1).toNat * 5)).off + 3,none⟩ = some (.float .f64 ((rd_T61 l0 x3_1).f3)) ∧ w'.cell? ⟨(ad206.add ((x3_1).toNat * 5)).block,(ad206.add ((x3_1).toNat * 5)).off + 4,none⟩ = some (.int .i64 ((rd_T61 l0 x3_1).f4))) (ds:=[]) #[F,F,F,F,F,F,F,F,F,F,F,F,F,F,F,F,F,F,F,F,F,F,F] (by kernel_rfl) rfl rfl ⟨(zh HB hw206_0),(zh HB hw206_1),(zh HB hw206_2),(zh HB hw206_3),(zh HB hw206_4),(zh HB hw208_0),(zh HB hw208_1),(zh HB hw208_2),(zh HB hw208_3),(zh HB hw208_4),(zh HB hw209_0),(zh HB hw209_1),(zh HB hw209_2),(zh HB hw209_3),(zh HB hw209_4)⟩ (fun hHeld => ?_);refine with_tabW beaconref14_rising.tab4 beaconref14_rising.bits4 (fun HT_ HW_ => ?_)
          generalize wr.drew = w15 at HB hx206_0 hx206_1 hx206_2 hx206_3 hx206_4 hx208_0 hx208_1 hx208_2 hx208_3 hx208_4 hx209_0 hx209_1 hx209_2 hx209_3 hx209_4 hHeld ⊢
          refine pz 0 10 #[T,F,F,F,F,F,F,F,F,F,F,F,F,F,F,F,F,F,F,F,F,F,F] HT_.1 ?_
          refine pz 1 11 #[T,T,F,F,F,F,F,F,F,F,F,F,F,F,F,F,F,F,F,F,F,F,F] HT_.1 ?_
          refine pz 2 12 #[T,T,T,F,F,F,F,F,F,F,F,F,F,F,F,F,F,F,F,F,F,F,F] HT_.1 ?_
          refine tz 3 13 #[T,T,T,T,F,F,F,F,F,F,F,F,F,F,F,F,F,F,F,F,F,F,F] HT_.1 HW_.1 hHeld ?_
          refine one_ (i:=4) (N:=some 14) #[T,T,T,T,T,F,F,F,F,F,F,F,F,F,F,F,F,F,F,F,F,F,F] rfl rfl (one_of HT_.out (by kernel_rfl)) (by decide) (fun K hK => ?_)
          refine zo_ Try.func49 #[.agg #[.int .i64 ((rd_T61 l0 x3_1).f0),.int .i64 ((rd_T61 l0 x3_1).f1),.float .f64 ((rd_T61 l0 x3_1).f2),.float .f64 ((rd_T61 l0 x3_1).f3),.int .i64 ((rd_T61 l0 x3_1).f4)]] ?_
          with_reducible refine (beaconref06_May.calls k1 ((rd_T61 l0 x3_1).f0) ((rd_T61 l0 x3_1).f1) ((rd_T61 l0 x3_1).f2) ((rd_T61 l0 x3_1).f3) ((rd_T61 l0 x3_1).f4) true _ A4.out).mono ?_
          rintro e w16 ⟨rfl,hb⟩
          refine ⟨_,rfl,?_⟩
          replace HB:=zS HB hb
          (try clear hb)
          (try clear hb2)
          (try clear hk)
          (try clear hi)
          refine hK.out _ _ ⟨(zh HB hw206_0),(zh HB hw206_1),(zh HB hw206_2),(zh HB hw206_3),(zh HB hw206_4),(zh HB hw208_0),(zh HB hw208_1),(zh HB hw208_2),(zh HB hw208_3),(zh HB hw208_4),(zh HB hw209_0),(zh HB hw209_1),(zh HB hw209_2),(zh HB hw209_3),(zh HB hw209_4)⟩ (fun hHeld => ?_)
          clear hK K
          refine nz 14 ?_
          refine pz 5 15 #[T,T,T,T,T,T,F,F,F,F,F,F,F,F,F,F,F,F,F,F,F,F,F] HT_.1 ?_
          refine pz 6 16 #[T,T,T,T,T,T,T,F,F,F,F,F,F,F,F,F,F,F,F,F,F,F,F] HT_.1 ?_
          refine pz 7 17 #[T,T,T,T,T,T,T,T,F,F,F,F,F,F,F,F,F,F,F,F,F,F,F] HT_.1 ?_
          refine pz 8 18 #[T,T,T,T,T,T,T,T,T,F,F,F,F,F,F,F,F,F,F,F,F,F,F] HT_.1 ?_
          refine pz 9 19 #[T,T,T,T,T,T,T,T,T,T,F,F,F,F,F,F,F,F,F,F,F,F,F] HT_.1 ?_
          refine pz 10 20 #[T,T,T,T,T,T,T,T,T,T,T,F,F,F,F,F,F,F,F,F,F,F,F] HT_.1 ?_
          refine pz 11 21 #[T,T,T,T,T,T,T,T,T,T,T,T,F,F,F,F,F,F,F,F,F,F,F] HT_.1 ?_
          refine pz 12 22 #[T,T,T,T,T,T,T,T,T,T,T,T,T,F,F,F,F,F,F,F,F,F,F] HT_.1 ?_
          refine pz 13 23 #[T,T,T,T,T,T,T,T,T,T,T,T,T,T,F,F,F,F,F,F,F,F,F] HT_.1 ?_
          refine pz 15 25 #[T,T,T,T,T,T,T,T,T,T,T,T,T,T,F,T,F,F,F,F,F,F,F] HT_.1 ?_
          refine pz 16 26 #[T,T,T,T,T,T,T,T,T,T,T,T,T,T,F,T,T,F,F,F,F,F,F] HT_.1 ?_
          refine pz 17 27 #[T,T,T,T,T,T,T,T,T,T,T,T,T,T,F,T,T,T,F,F,F,F,F] HT_.1 ?_
          refine tz 14 24 #[T,T,T,T,T,T,T,T,T,T,T,T,T,T,T,T,T,T,F,F,F,F,F] HT_.1 HW_.1 hHeld ?_
          refine tz 18 28 #[T,T,T,T,T,T,T,T,T,T,T,T,T,T,T,T,T,T,T,F,F,F,F] HT_.1 HW_.1 hHeld ?_
          refine one_ (i:=19) (N:=some 29) #[T,T,T,T,T,T,T,T,T,T,T,T,T,T,T,T,T,T,T,T,F,F,F] rfl rfl (one_of HT_.out (by kernel_rfl)) (by decide) (fun K hK => ?_)
          refine goes_ Try.func50 (by kernel_rfl) rfl #[.agg #[.int .i64 ((rd_T61 l0 (ji7)).f0),.int .i64 ((rd_T61 l0 (ji7)).f1),.float .f64 ((rd_T61 l0 (ji7)).f2),.float .f64 ((rd_T61 l0 (ji7)).f3),.int .i64 ((rd_T61 l0 (ji7)).f4)],.agg #[.int .i64 ((rd_T61 l0 x3_1).f0),.int .i64 ((rd_T61 l0 x3_1).f1),.float .f64 ((rd_T61 l0 x3_1).f2),.float .f64 ((rd_T61 l0 x3_1).f3),.int .i64 ((rd_T61 l0 x3_1).f4)]] (by rfl) rfl rfl (by (try simp only [List.map_toArray,List.map_cons,List.map_nil]);first|done|(simp only [hji7];rfl)|rfl|(simp only [List.length_drop,List.length_take];rfl)) ?_
          with_reducible refine (beaconref06_Before.calls ((rd_T61 l0 (ji7)).f0) ((rd_T61 l0 (ji7)).f1) ((rd_T61 l0 (ji7)).f2) ((rd_T61 l0 (ji7)).f3) ((rd_T61 l0 (ji7)).f4) ((rd_T61 l0 x3_1).f0) ((rd_T61 l0 x3_1).f1) ((rd_T61 l0 x3_1).f2) ((rd_T61 l0 x3_1).f3) ((rd_T61 l0 x3_1).f4) false _ A10.out).mono ?_
          rintro e w17 ⟨rfl,hb⟩
          refine ⟨_,rfl,?_⟩
          replace HB:=zS HB hb
          (try clear hb)
          (try clear hb2)
          (try clear hk)
          (try clear hi)
          refine hK.out _ _ ⟨(zh HB hw206_0),(zh HB hw206_1),(zh HB hw206_2),(zh HB hw206_3),(zh HB hw206_4),(zh HB hw208_0),(zh HB hw208_1),(zh HB hw208_2),(zh HB hw208_3),(zh HB hw208_4),(zh HB hw209_0),(zh HB hw209_1),(zh HB hw209_2),(zh HB hw209_3),(zh HB hw209_4)⟩ (fun hHeld => ?_)
          clear hK K
          refine nz 29 ?_
          refine pz 20 30 #[T,T,T,T,T,T,T,T,T,T,T,T,T,T,T,T,T,T,T,T,T,F,F] HT_.1 ?_
          refine pz 21 31 #[T,T,T,T,T,T,T,T,T,T,T,T,T,T,T,T,T,T,T,T,T,T,F] HT_.1 ?_
          refine pz 22 32 #[T,T,T,T,T,T,T,T,T,T,T,T,T,T,T,T,T,T,T,T,T,T,T] HT_.1 ?_
          refine done_ (done_of HT_.out (by kernel_rfl)) ?_
          try go_wp2
          go_ret
          exact ⟨by first|rfl|(simp [errW_none,errW_some] <;> rfl)|(simp only [← hji7];first|rfl|(simp [errW_none,errW_some] <;> rfl))|(simp [*,errW_none,errW_some] <;> rfl),zH HB⟩
        ·rw [if_neg c9] at H
         exact absurd H (by simp)
       ·rw [if_neg c8] at H
        exact absurd H (by simp)
      ·rw [if_neg c6] at H
       have c6b0 : decide (0 < x3_1) = false:=decide_eq_false c6
       clear c6
       have H':=zA H
       clear H
       try go_wp2
       replace HB:=zA (bw1 HB.1)
       have p206 : 0 ≤ (x3_1 : Int):=zd
       have q206 : x3_1 < (l0.length : Int):=zd
       obtain ⟨ad206,e206,hx206_0,hx206_1,hx206_2,hx206_3,hx206_4⟩:=at_T61 HR0.out x3_1 p206 q206
       have hw206_4:=hx206_4
       have hw206_3:=hx206_3
       have hw206_2:=hx206_2
       have hw206_1:=hx206_1
       have hw206_0:=hx206_0
       cases e206
       replace hx206_0:=zh HB hx206_0
       replace hx206_1:=zh HB hx206_1
       replace hx206_2:=zh HB hx206_2
       replace hx206_3:=zh HB hx206_3
       replace hx206_4:=zh HB hx206_4
       replace p206:=eq_true p206
       replace q206:=eq_true q206
       refine start_ (n:=23) (S:=fun w' => w'.cell? (ad206.add ((x3_1).toNat * 5)) = some (.int .i64 ((rd_T61 l0 x3_1).f0)) ∧ w'.cell? ⟨(ad206.add ((x3_1).toNat * 5)).block,(ad206.add ((x3_1).toNat * 5)).off + 1,none⟩ = some (.int .i64 ((rd_T61 l0 x3_1).f1)) ∧ w'.cell? ⟨(ad206.add ((x3_1).toNat * 5)).block,(ad206.add ((x3_1).toNat * 5)).off + 2,none⟩ = some (.float .f64 ((rd_T61 l0 x3_1).f2)) ∧ w'.cell? ⟨(ad206.add ((x3_1).toNat * 5)).block,(ad206.add ((x3_1).toNat * 5)).off + 3,none⟩ = some (.float .f64 ((rd_T61 l0 x3_1).f3)) ∧ w'.cell? ⟨(ad206.add ((x3_1).toNat * 5)).block,(ad206.add ((x3_1).toNat * 5)).off + 4,none⟩ = some (.int .i64 ((rd_T61 l0 x3_1).f4))) (ds:=[]) #[F,F,F,F,F,F,F,F,F,F,F,F,F,F,F,F,F,F,F,F,F,F,F] (by kernel_rfl) rfl rfl ⟨(zh HB hw206_0),(zh HB hw206_1),(zh HB hw206_2),(zh HB hw206_3),(zh HB hw206_4)⟩ (fun hHeld => ?_);refine with_tabW beaconref14_rising.tab4 beaconref14_rising.bits4 (fun HT_ HW_ => ?_)
       generalize wr.drew = w18 at HB hx206_0 hx206_1 hx206_2 hx206_3 hx206_4 hHeld ⊢
       refine pz 0 10 #[T,F,F,F,F,F,F,F,F,F,F,F,F,F,F,F,F,F,F,F,F,F,F] HT_.1 ?_
       refine pz 1 11 #[T,T,F,F,F,F,F,F,F,F,F,F,F,F,F,F,F,F,F,F,F,F,F] HT_.1 ?_
       refine pz 2 12 #[T,T,T,F,F,F,F,F,F,F,F,F,F,F,F,F,F,F,F,F,F,F,F] HT_.1 ?_
       refine tz 3 13 #[T,T,T,T,F,F,F,F,F,F,F,F,F,F,F,F,F,F,F,F,F,F,F] HT_.1 HW_.1 hHeld ?_
       refine one_ (i:=4) (N:=some 14) #[T,T,T,T,T,F,F,F,F,F,F,F,F,F,F,F,F,F,F,F,F,F,F] rfl rfl (one_of HT_.out (by kernel_rfl)) (by decide) (fun K hK => ?_)
       refine zo_ Try.func49 #[.agg #[.int .i64 ((rd_T61 l0 x3_1).f0),.int .i64 ((rd_T61 l0 x3_1).f1),.float .f64 ((rd_T61 l0 x3_1).f2),.float .f64 ((rd_T61 l0 x3_1).f3),.int .i64 ((rd_T61 l0 x3_1).f4)]] ?_
       with_reducible refine (beaconref06_May.calls k1 ((rd_T61 l0 x3_1).f0) ((rd_T61 l0 x3_1).f1) ((rd_T61 l0 x3_1).f2) ((rd_T61 l0 x3_1).f3) ((rd_T61 l0 x3_1).f4) true _ A4.out).mono ?_
       rintro e w19 ⟨rfl,hb⟩
       refine ⟨_,rfl,?_⟩
       replace HB:=zS HB hb
       (try clear hb)
       (try clear hb2)
       (try clear hk)
       (try clear hi)
       refine hK.out _ _ ⟨(zh HB hw206_0),(zh HB hw206_1),(zh HB hw206_2),(zh HB hw206_3),(zh HB hw206_4)⟩ (fun hHeld => ?_)
       clear hK K
       refine nz 14 ?_
       refine pz 5 15 #[T,T,T,T,T,T,F,F,F,F,F,F,F,F,F,F,F,F,F,F,F,F,F] HT_.1 ?_
       refine pz 6 16 #[T,T,T,T,T,T,T,F,F,F,F,F,F,F,F,F,F,F,F,F,F,F,F] HT_.1 ?_
       refine pz 7 17 #[T,T,T,T,T,T,T,T,F,F,F,F,F,F,F,F,F,F,F,F,F,F,F] HT_.1 ?_
       refine pz 8 18 #[T,T,T,T,T,T,T,T,T,F,F,F,F,F,F,F,F,F,F,F,F,F,F] HT_.1 ?_
       refine pz 9 19 #[T,T,T,T,T,T,T,T,T,T,F,F,F,F,F,F,F,F,F,F,F,F,F] HT_.1 ?_
       refine pu 10 20 #[T,T,T,T,T,T,T,T,T,T,T,F,F,F,F,F,F,F,F,F,F,F,F] HT_.1 ?_
       refine pu 11 21 #[T,T,T,T,T,T,T,T,T,T,T,T,F,F,F,F,F,F,F,F,F,F,F] HT_.1 ?_
       refine pu 12 22 #[T,T,T,T,T,T,T,T,T,T,T,T,T,F,F,F,F,F,F,F,F,F,F] HT_.1 ?_
       refine pu 13 23 #[T,T,T,T,T,T,T,T,T,T,T,T,T,T,F,F,F,F,F,F,F,F,F] HT_.1 ?_
       refine pu 14 24 #[T,T,T,T,T,T,T,T,T,T,T,T,T,T,T,F,F,F,F,F,F,F,F] HT_.1 ?_
       refine pu 15 25 #[T,T,T,T,T,T,T,T,T,T,T,T,T,T,T,T,F,F,F,F,F,F,F] HT_.1 ?_
       refine pu 16 26 #[T,T,T,T,T,T,T,T,T,T,T,T,T,T,T,T,T,F,F,F,F,F,F] HT_.1 ?_
       refine pu 17 27 #[T,T,T,T,T,T,T,T,T,T,T,T,T,T,T,T,T,T,F,F,F,F,F] HT_.1 ?_
       refine pu 18 28 #[T,T,T,T,T,T,T,T,T,T,T,T,T,T,T,T,T,T,T,F,F,F,F] HT_.1 ?_
       refine pu 19 29 #[T,T,T,T,T,T,T,T,T,T,T,T,T,T,T,T,T,T,T,T,F,F,F] HT_.1 ?_
       refine pu 20 30 #[T,T,T,T,T,T,T,T,T,T,T,T,T,T,T,T,T,T,T,T,T,F,F] HT_.1 ?_
       refine pz 21 31 #[T,T,T,T,T,T,T,T,T,T,T,T,T,T,T,T,T,T,T,T,T,T,F] HT_.1 ?_
       refine pz 22 32 #[T,T,T,T,T,T,T,T,T,T,T,T,T,T,T,T,T,T,T,T,T,T,T] HT_.1 ?_
       refine done_ (done_of HT_.out (by kernel_rfl)) ?_
       try go_wp2
       go_roundg k1
       case measure => have:=HK1.out;omega
       case rel => exact ⟨(wrap64 (x3_1 + 1)),ze,H',⟨by have:=HK1.out;omega⟩,⟨zH HB⟩⟩
     ·replace c5:=Bool.eq_false_iff.mpr c5
      subst c5
      rw [if_neg (show ¬ (false = true) by decide)] at H
      obtain rfl:=Option.some.inj H
      try go_wp2
      replace HB:=zA (bw1 HB.1)
      have p206 : 0 ≤ (x3_1 : Int):=zd
      have q206 : x3_1 < (l0.length : Int):=zd
      obtain ⟨ad206,e206,hx206_0,hx206_1,hx206_2,hx206_3,hx206_4⟩:=at_T61 HR0.out x3_1 p206 q206
      have hw206_4:=hx206_4
      have hw206_3:=hx206_3
      have hw206_2:=hx206_2
      have hw206_1:=hx206_1
      have hw206_0:=hx206_0
      cases e206
      replace hx206_0:=zh HB hx206_0
      replace hx206_1:=zh HB hx206_1
      replace hx206_2:=zh HB hx206_2
      replace hx206_3:=zh HB hx206_3
      replace hx206_4:=zh HB hx206_4
      replace p206:=eq_true p206
      replace q206:=eq_true q206
      refine start_ (n:=23) (S:=fun w' => w'.cell? (ad206.add ((x3_1).toNat * 5)) = some (.int .i64 ((rd_T61 l0 x3_1).f0)) ∧ w'.cell? ⟨(ad206.add ((x3_1).toNat * 5)).block,(ad206.add ((x3_1).toNat * 5)).off + 1,none⟩ = some (.int .i64 ((rd_T61 l0 x3_1).f1)) ∧ w'.cell? ⟨(ad206.add ((x3_1).toNat * 5)).block,(ad206.add ((x3_1).toNat * 5)).off + 2,none⟩ = some (.float .f64 ((rd_T61 l0 x3_1).f2)) ∧ w'.cell? ⟨(ad206.add ((x3_1).toNat * 5)).block,(ad206.add ((x3_1).toNat * 5)).off + 3,none⟩ = some (.float .f64 ((rd_T61 l0 x3_1).f3)) ∧ w'.cell? ⟨(ad206.add ((x3_1).toNat * 5)).block,(ad206.add ((x3_1).toNat * 5)).off + 4,none⟩ = some (.int .i64 ((rd_T61 l0 x3_1).f4))) (ds:=[]) #[F,F,F,F,F,F,F,F,F,F,F,F,F,F,F,F,F,F,F,F,F,F,F] (by kernel_rfl) rfl rfl ⟨(zh HB hw206_0),(zh HB hw206_1),(zh HB hw206_2),(zh HB hw206_3),(zh HB hw206_4)⟩ (fun hHeld => ?_);refine with_tabW beaconref14_rising.tab4 beaconref14_rising.bits4 (fun HT_ HW_ => ?_)
      generalize wr.drew = w20 at HB hx206_0 hx206_1 hx206_2 hx206_3 hx206_4 hHeld ⊢
      refine pz 0 10 #[T,F,F,F,F,F,F,F,F,F,F,F,F,F,F,F,F,F,F,F,F,F,F] HT_.1 ?_
      refine pz 1 11 #[T,T,F,F,F,F,F,F,F,F,F,F,F,F,F,F,F,F,F,F,F,F,F] HT_.1 ?_
      refine pz 2 12 #[T,T,T,F,F,F,F,F,F,F,F,F,F,F,F,F,F,F,F,F,F,F,F] HT_.1 ?_
      refine tz 3 13 #[T,T,T,T,F,F,F,F,F,F,F,F,F,F,F,F,F,F,F,F,F,F,F] HT_.1 HW_.1 hHeld ?_
      refine one_ (i:=4) (N:=some 14) #[T,T,T,T,T,F,F,F,F,F,F,F,F,F,F,F,F,F,F,F,F,F,F] rfl rfl (one_of HT_.out (by kernel_rfl)) (by decide) (fun K hK => ?_)
      refine zo_ Try.func49 #[.agg #[.int .i64 ((rd_T61 l0 x3_1).f0),.int .i64 ((rd_T61 l0 x3_1).f1),.float .f64 ((rd_T61 l0 x3_1).f2),.float .f64 ((rd_T61 l0 x3_1).f3),.int .i64 ((rd_T61 l0 x3_1).f4)]] ?_
      with_reducible refine (beaconref06_May.calls k1 ((rd_T61 l0 x3_1).f0) ((rd_T61 l0 x3_1).f1) ((rd_T61 l0 x3_1).f2) ((rd_T61 l0 x3_1).f3) ((rd_T61 l0 x3_1).f4) false _ A4.out).mono ?_
      rintro e w21 ⟨rfl,hb⟩
      refine ⟨_,rfl,?_⟩
      replace HB:=zS HB hb
      (try clear hb)
      (try clear hb2)
      (try clear hk)
      (try clear hi)
      refine hK.out _ _ ⟨(zh HB hw206_0),(zh HB hw206_1),(zh HB hw206_2),(zh HB hw206_3),(zh HB hw206_4)⟩ (fun hHeld => ?_)
      clear hK K
      refine nz 14 ?_
      refine pz 5 15 #[T,T,T,T,T,T,F,F,F,F,F,F,F,F,F,F,F,F,F,F,F,F,F] HT_.1 ?_
      refine pz 6 16 #[T,T,T,T,T,T,T,F,F,F,F,F,F,F,F,F,F,F,F,F,F,F,F] HT_.1 ?_
      refine pu 7 17 #[T,T,T,T,T,T,T,T,F,F,F,F,F,F,F,F,F,F,F,F,F,F,F] HT_.1 ?_
      refine pu 8 18 #[T,T,T,T,T,T,T,T,T,F,F,F,F,F,F,F,F,F,F,F,F,F,F] HT_.1 ?_
      refine pu 9 19 #[T,T,T,T,T,T,T,T,T,T,F,F,F,F,F,F,F,F,F,F,F,F,F] HT_.1 ?_
      refine pu 10 20 #[T,T,T,T,T,T,T,T,T,T,T,F,F,F,F,F,F,F,F,F,F,F,F] HT_.1 ?_
      refine pu 11 21 #[T,T,T,T,T,T,T,T,T,T,T,T,F,F,F,F,F,F,F,F,F,F,F] HT_.1 ?_
      refine pu 12 22 #[T,T,T,T,T,T,T,T,T,T,T,T,T,F,F,F,F,F,F,F,F,F,F] HT_.1 ?_
      refine pu 13 23 #[T,T,T,T,T,T,T,T,T,T,T,T,T,T,F,F,F,F,F,F,F,F,F] HT_.1 ?_
      refine pu 14 24 #[T,T,T,T,T,T,T,T,T,T,T,T,T,T,T,F,F,F,F,F,F,F,F] HT_.1 ?_
      refine pu 15 25 #[T,T,T,T,T,T,T,T,T,T,T,T,T,T,T,T,F,F,F,F,F,F,F] HT_.1 ?_
      refine pu 16 26 #[T,T,T,T,T,T,T,T,T,T,T,T,T,T,T,T,T,F,F,F,F,F,F] HT_.1 ?_
      refine pu 17 27 #[T,T,T,T,T,T,T,T,T,T,T,T,T,T,T,T,T,T,F,F,F,F,F] HT_.1 ?_
      refine pu 18 28 #[T,T,T,T,T,T,T,T,T,T,T,T,T,T,T,T,T,T,T,F,F,F,F] HT_.1 ?_
      refine pu 19 29 #[T,T,T,T,T,T,T,T,T,T,T,T,T,T,T,T,T,T,T,T,F,F,F] HT_.1 ?_
      refine pu 20 30 #[T,T,T,T,T,T,T,T,T,T,T,T,T,T,T,T,T,T,T,T,T,F,F] HT_.1 ?_
      refine pu 21 31 #[T,T,T,T,T,T,T,T,T,T,T,T,T,T,T,T,T,T,T,T,T,T,F] HT_.1 ?_
      refine pz 22 32 #[T,T,T,T,T,T,T,T,T,T,T,T,T,T,T,T,T,T,T,T,T,T,T] HT_.1 ?_
      refine done_ (done_of HT_.out (by kernel_rfl)) ?_
      try go_wp2
      go_ret
      exact ⟨zE,zH HB⟩
    ·rw [if_neg c3] at H
     exact absurd H (by simp)
   ·rw [if_neg c2] at H
    have c2b0 : decide (x3_1 < (l0.length : Int)) = false:=decide_eq_false c2
    clear c2
    obtain rfl:=Option.some.inj H
    go_wp2
    go_ret
    exact ⟨zE,zH HB⟩

end Go.Proofs.Ytpcgjdllgdkobaa.XD
