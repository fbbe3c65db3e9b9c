/- Go functions of this seat as Lean functions, with proofs that the calls come to them. (Written by xprint.py, a program of this session, over the kit's print.) -/
import Derived.Test.YtgmjlhpigfaicaaXAx0
import Derived.Test.YtgmjlhpigfaicaaXAx8
namespace Go.Proofs.Ytgmjlhpigfaicaa.XA
open Go.RowKit Go.Proofs.YtgmjlhpigfaicaaW.PrintWords Go.Proofs.YtgmjlhpigfaicaaW.PrintLast Go.Proofs.YtgmjlhpigfaicaaW.PrintMore
attribute [local go_sem] max2_int min2_int max_two min_two max_three min_three max_four min_four   -- for this text's walks alone
set_option linter.unusedVariables false
set_option linter.unusedSimpArgs false
open List renaming setIfInBounds_toArray → xA, set_cons_zero → xB, set_cons_succ → xC
open Go.Proofs.YtgmjlhpigfaicaaW.PrintWords renaming blk_drewN → bN, blk_drew → bD, blk_alloc → bA, below_set → bS, blk_frozen → bF, blk_cell → bC, cell_far → cF, blk_far → bZ, blk_below → bB, pw_below_drewN → bwN, below_drew1 → bw1, below_alloc → bwA
open Go.Proofs.YtgmjlhpigfaicaaW.PrintZ
open Bool renaming true → T,false → F

/-! ### beaconref09_SameEntries: function 21 -/
def beaconref09_SameEntries.l0 : Nat → List (S39) → List (S39) → Int → Option (Bool)
 | 0, _, _, _ => none
 | k + 1, x0, x1, x5 => if x5 < (x0.length : Int) then (if 0 ≤ x5 then (if x5 < (x1.length : Int) then (if ((rd_T39 x0 x5).f0) = ((rd_T39 x1 x5).f0) then (if ((rd_T39 x0 x5).f1) = ((rd_T39 x1 x5).f1) then (if ((rd_T39 x0 x5).f3) = ((rd_T39 x1 x5).f3) then (if ((rd_T39 x0 x5).f5) = ((rd_T39 x1 x5).f5) then ((beaconref01_Same.f ((rd_T39 x0 x5).f2) ((rd_T39 x1 x5).f2)).bind fun t183 => (if t183 = true then ((beaconref01_Same.f ((rd_T39 x0 x5).f4) ((rd_T39 x1 x5).f4)).bind fun t184 => (if t184 = true then (beaconref09_SameEntries.l0 k x0 x1 (wrap64 (x5 + 1))) else (some false))) else (some false))) else (some false)) else (some false)) else (some false)) else (some false)) else (none)) else (none)) else (some true)
def beaconref09_SameEntries.f (k : Nat) (l0 : List (S39)) (l1 : List (S39)) : Option (Bool) := if (l0.length : Int) = (l1.length : Int) then (beaconref09_SameEntries.l0 k l0 l1 0) else (some false)
theorem beaconref09_SameEntries.mono_l : ∀ k, (∀ y0 y1 y2, LeO (beaconref09_SameEntries.l0 k y0 y1 y2) (beaconref09_SameEntries.l0 (k + 1) y0 y1 y2))
 | 0 => fun _ _ _ r h => by simp [beaconref09_SameEntries.l0] at h
 | k + 1 => by
  have ih0:=beaconref09_SameEntries.mono_l k
  ·intro y0 y1 y2
   unfold beaconref09_SameEntries.l0
   repeat' first
   | (with_reducible exact ih0 _ _ _)
   | (with_reducible exact LeO.refl _)
   | (with_reducible exact LeO.none _)
   | (with_reducible refine LeO.ite ?_ ?_)
   | (with_reducible refine LeO.bind ?_ (fun _ => ?_))
   | exact ih0 _ _ _
   | exact LeO.none _
   | refine LeO.ite ?_ ?_
   | refine LeO.bind ?_ (fun _ => ?_)
theorem beaconref09_SameEntries.mono : ∀ a0 a1 k, LeO (beaconref09_SameEntries.f k a0 a1) (beaconref09_SameEntries.f (k + 1) a0 a1) := by
 intro a0 a1 k
 have ih0:=beaconref09_SameEntries.mono_l k
 unfold beaconref09_SameEntries.f
 repeat' first
   | (with_reducible exact ih0 _ _ _)
   | (with_reducible exact LeO.refl _)
   | (with_reducible exact LeO.none _)
   | (with_reducible refine LeO.ite ?_ ?_)
   | (with_reducible refine LeO.bind ?_ (fun _ => ?_))
   | exact ih0 _ _ _
   | exact LeO.none _
   | refine LeO.ite ?_ ?_
   | refine LeO.bind ?_ (fun _ => ?_)
def beaconref09_SameEntries.T6 : Bool × List (List Nat × List Nat) := (true, [([], []), ([], []), ([0, 1], [0, 1]), ([2], [2]), ([], []), ([], []), ([4, 5], [4, 5]), ([6], [6]), ([], []), ([], []), ([8, 3, 0, 1, 2, 3, 8, 9], [3, 8]), ([9, 7, 10, 0, 1, 2, 3, 4, 5, 6, 7, 8, 9, 10], [7, 9])])
def beaconref09_SameEntries.B6 : List Nat := [0, 0, 3, 7, 0, 0, 48, 112, 0, 0, 783, 2047]
theorem beaconref09_SameEntries.tab6 : rtab .any (opsOf Try.f21 6) = beaconref09_SameEntries.T6 := by kernel_rfl
theorem beaconref09_SameEntries.bits6 : waitsOk beaconref09_SameEntries.T6.2 beaconref09_SameEntries.B6 = true := by kernel_rfl
set_option maxHeartbeats 8000000 in
set_option maxRecDepth 100000 in
theorem beaconref09_SameEntries.calls (k : Nat) (A0 : Option Addr) (c0 : Nat) (l0 : List (S39)) (A1 : Option Addr) (c1 : Nat) (l1 : List (S39)) (r : Bool) (w : World) (hr0 : Kd.C k39 w A0 l0.length l0) (hc0 : l0.length ≤ c0) (hr1 : Kd.C k39 w A1 l1.length l1) (hc1 : l1.length ≤ c1) (h : beaconref09_SameEntries.f k l0 l1 = some r) :
  Calls Try.prog 21 #[.slice A0 l0.length c0,.slice A1 l1.length c1] w fun e w' => e = .returned (.bool r) ∧ Below w.heap.size w w':=by
 have hu39:=Try.underlying39
 have HR0:=Aside0.mk hr0
 have HC0:=Aside0.mk hc0
 clear hr0 hc0
 have HR1:=Aside0.mk hr1
 have HC1:=Aside0.mk hc1
 clear hr1 hc1
 have HB:=Aside0.mk (Below.refl w.heap.size w)
 have H : (if (l0.length : Int) = (l1.length : Int) then (beaconref09_SameEntries.l0 k l0 l1 0) else (some false)) = some r:=h
 clear h
 by_cases c3 : (l0.length : Int) = (l1.length : Int)
 ·rw [if_pos c3] at H
  have c3b0 : ((l0.length : Int) == (l1.length : Int)) = true:=beq_iff_eq.mpr c3
  have c3b1 : ((l0.length : Int) != (l1.length : Int)) = false:=bne_eq_false_iff_eq.mpr c3
  have c3b2 : (l0.length == l1.length) = true:=by first|simpa using c3|(simp at c3 ⊢;omega)
  clear c3
  have H':=Aside0.mk H
  clear H
  go_enter Try.func21,Try.ntmps21
  go_wp2
  go_loopg [5] k (fun kq v5 w' => ∃ (x5_1 : Int),v5 = .int .i64 x5_1 ∧ Aside0 (beaconref09_SameEntries.l0 kq l0 l1 x5_1 = some r) ∧ Aside0 (kq ≤ k) ∧ Aside0 (Below w.heap.size w w'))
  case atStart => exact ⟨(0),ze,H',⟨Nat.le_refl _⟩,⟨zH HB⟩⟩
  case round =>
   clear H'
   try clear c1;try clear c2;try clear p2;try clear c3;try clear c3b0;try clear c3b1;try clear c3b2
   obtain ⟨x5_1,rfl,HA,HK1,HB⟩:=hrel
   cases gk with
   | zero => exact absurd HA.out (by simp [beaconref09_SameEntries.l0])
   | succ k1 =>
    have H:=HA.out
    clear HA
    simp only [beaconref09_SameEntries.l0] at H
    by_cases c4 : x5_1 < (l0.length : Int)
    ·rw [if_pos c4] at H
     have c4b0 : decide (x5_1 < (l0.length : Int)) = true:=decide_eq_true c4
     clear c4
     by_cases c5 : 0 ≤ x5_1
     ·rw [if_pos c5] at H
      have c5b0 : decide (0 ≤ x5_1) = true:=decide_eq_true c5
      clear c5
      by_cases c6 : x5_1 < (l1.length : Int)
      ·rw [if_pos c6] at H
       have c6b0 : decide (x5_1 < (l1.length : Int)) = true:=decide_eq_true c6
       clear c6
       by_cases c7 : ((rd_T39 l0 x5_1).f0) = ((rd_T39 l1 x5_1).f0)
       ·rw [if_pos c7] at H
        have c7b0 : (((rd_T39 l0 x5_1).f0) == ((rd_T39 l1 x5_1).f0)) = true:=beq_iff_eq.mpr c7
        have c7b1 : (((rd_T39 l0 x5_1).f0) != ((rd_T39 l1 x5_1).f0)) = false:=bne_eq_false_iff_eq.mpr c7
        clear c7
        by_cases c8 : ((rd_T39 l0 x5_1).f1) = ((rd_T39 l1 x5_1).f1)
        ·rw [if_pos c8] at H
         have c8b0 : (((rd_T39 l0 x5_1).f1) == ((rd_T39 l1 x5_1).f1)) = true:=beq_iff_eq.mpr c8
         have c8b1 : (((rd_T39 l0 x5_1).f1) != ((rd_T39 l1 x5_1).f1)) = false:=bne_eq_false_iff_eq.mpr c8
         clear c8
         by_cases c9 : ((rd_T39 l0 x5_1).f3) = ((rd_T39 l1 x5_1).f3)
         ·rw [if_pos c9] at H
          have c9b0 : (((rd_T39 l0 x5_1).f3) == ((rd_T39 l1 x5_1).f3)) = true:=beq_iff_eq.mpr c9
          have c9b1 : (((rd_T39 l0 x5_1).f3) != ((rd_T39 l1 x5_1).f3)) = false:=bne_eq_false_iff_eq.mpr c9
          clear c9
          by_cases c10 : ((rd_T39 l0 x5_1).f5) = ((rd_T39 l1 x5_1).f5)
          ·rw [if_pos c10] at H
           have c10b0 : (((rd_T39 l0 x5_1).f5) == ((rd_T39 l1 x5_1).f5)) = true:=beq_iff_eq.mpr c10
           have c10b1 : (((rd_T39 l0 x5_1).f5) != ((rd_T39 l1 x5_1).f5)) = false:=bne_eq_false_iff_eq.mpr c10
           clear c10
           replace H:=Option.bind_eq_some_iff.mp H
           obtain ⟨t183,A110,H⟩:=H
           replace H : (if t183 = true then ((beaconref01_Same.f ((rd_T39 l0 x5_1).f4) ((rd_T39 l1 x5_1).f4)).bind fun t184 => (if t184 = true then (beaconref09_SameEntries.l0 k1 l0 l1 (wrap64 (x5_1 + 1))) else (some false))) else (some false)) = some r:=H
           have A11:=Aside0.mk A110
           clear A110
           by_cases c12 : t183 = true
           ·subst c12
            have H1 : ((beaconref01_Same.f ((rd_T39 l0 x5_1).f4) ((rd_T39 l1 x5_1).f4)).bind fun t184 => (if t184 = true then (beaconref09_SameEntries.l0 k1 l0 l1 (wrap64 (x5_1 + 1))) else (some false))) = some r:=by rw [if_pos rfl] at H;exact H
            clear H
            have H:=H1
            clear H1
            replace H:=Option.bind_eq_some_iff.mp H
            obtain ⟨t184,A130,H⟩:=H
            replace H : (if t184 = true then (beaconref09_SameEntries.l0 k1 l0 l1 (wrap64 (x5_1 + 1))) else (some false)) = some r:=H
            have A13:=Aside0.mk A130
            clear A130
            by_cases c14 : t184 = true
            ·subst c14
             have H1 : (beaconref09_SameEntries.l0 k1 l0 l1 (wrap64 (x5_1 + 1))) = some r:=by rw [if_pos rfl] at H;exact H
             clear H
             have H:=H1
             clear H1
             have H':=Aside0.mk H
             clear H
             try go_wp2
             replace HB:=Aside0.mk (bw1 HB.1)
             have p179 : 0 ≤ (x5_1 : Int):=zd
             have q179 : x5_1 < (l0.length : Int):=zd
             obtain ⟨ad179,e179,hx179_0,hx179_1,hx179_2,hx179_3,hx179_4,hx179_5⟩:=at_T39 HR0.out x5_1 p179 q179
             have hw179_5:=hx179_5
             have hw179_4:=hx179_4
             have hw179_3:=hx179_3
             have hw179_2:=hx179_2
             have hw179_1:=hx179_1
             have hw179_0:=hx179_0
             cases e179
             replace hx179_0:=zh HB hx179_0
             replace hx179_1:=zh HB hx179_1
             replace hx179_2:=zh HB hx179_2
             replace hx179_3:=zh HB hx179_3
             replace hx179_4:=zh HB hx179_4
             replace hx179_5:=zh HB hx179_5
             replace p179:=eq_true p179
             replace q179:=eq_true q179
             have p180 : 0 ≤ (x5_1 : Int):=zd
             have q180 : x5_1 < (l1.length : Int):=zd
             obtain ⟨ad180,e180,hx180_0,hx180_1,hx180_2,hx180_3,hx180_4,hx180_5⟩:=at_T39 HR1.out x5_1 p180 q180
             have hw180_5:=hx180_5
             have hw180_4:=hx180_4
             have hw180_3:=hx180_3
             have hw180_2:=hx180_2
             have hw180_1:=hx180_1
             have hw180_0:=hx180_0
             cases e180
             replace hx180_0:=zh HB hx180_0
             replace hx180_1:=zh HB hx180_1
             replace hx180_2:=zh HB hx180_2
             replace hx180_3:=zh HB hx180_3
             replace hx180_4:=zh HB hx180_4
             replace hx180_5:=zh HB hx180_5
             replace p180:=eq_true p180
             replace q180:=eq_true q180
             refine start_ (n:=12) (S:=fun w' => w'.cell? (ad179.add ((x5_1).toNat * 6)) = some (.int .i64 ((rd_T39 l0 x5_1).f0)) ∧ w'.cell? ⟨(ad179.add ((x5_1).toNat * 6)).block,(ad179.add ((x5_1).toNat * 6)).off + 1,none⟩ = some (.int .i64 ((rd_T39 l0 x5_1).f1)) ∧ w'.cell? ⟨(ad179.add ((x5_1).toNat * 6)).block,(ad179.add ((x5_1).toNat * 6)).off + 2,none⟩ = some (.float .f64 ((rd_T39 l0 x5_1).f2)) ∧ w'.cell? ⟨(ad179.add ((x5_1).toNat * 6)).block,(ad179.add ((x5_1).toNat * 6)).off + 3,none⟩ = some (.int .i64 ((rd_T39 l0 x5_1).f3)) ∧ w'.cell? ⟨(ad179.add ((x5_1).toNat * 6)).block,(ad179.add ((x5_1).toNat * 6)).off + 4,none⟩ = some (.float .f64 ((rd_T39 l0 x5_1).f4)) ∧ w'.cell? ⟨(ad179.add ((x5_1).toNat * 6)).block,(ad179.add ((x5_1).toNat * 6)).off + 5,none⟩ = some (.int .i64 ((rd_T39 l0 x5_1).f5)) ∧ w'.cell? (ad180.add ((x5_1).toNat * 6)) = some (.int .i64 ((rd_T39 l1 x5_1).f0)) ∧ w'.cell? ⟨(ad180.add ((x5_1).toNat * 6)).block,(ad180.add ((x5_1).toNat * 6)).off + 1,none⟩ = some (.int .i64 ((rd_T39 l1 x5_1).f1)) ∧ w'.cell? ⟨(ad180.add ((x5_1).toNat * 6)).block,(ad180.add ((x5_1).toNat * 6)).off + 2,none⟩ = some (.float .f64 ((rd_T39 l1 x5_1).f2)) ∧ w'.cell? ⟨(ad180.add ((x5_1).toNat * 6)).block,(ad180.add ((x5_1).toNat * 6)).off + 3,none⟩ = some (.int .i64 ((rd_T39 l1 x5_1).f3)) ∧ w'.cell? ⟨(ad180.add ((x5_1).toNat * 6)).block,(ad180.add ((x5_1).toNat * 6)).off + 4,none⟩ = some (.float .f64 ((rd_T39 l1 x5_1).f4)) ∧ w'.cell? ⟨(ad180.add ((x5_1).toNat * 6)).block,(ad180.add ((x5_1).toNat * 6)).off + 5,none⟩ = some (.int .i64 ((rd_T39 l1 x5_1).f5))) (ds:=[]) #[F,F,F,F,F,F,F,F,F,F,F,F] (by kernel_rfl) rfl rfl ⟨(zh HB hw179_0),(zh HB hw179_1),(zh HB hw179_2),(zh HB hw179_3),(zh HB hw179_4),(zh HB hw179_5),(zh HB hw180_0),(zh HB hw180_1),(zh HB hw180_2),(zh HB hw180_3),(zh HB hw180_4),(zh HB hw180_5)⟩ (fun hHeld => ?_);refine with_tabW beaconref09_SameEntries.tab6 beaconref09_SameEntries.bits6 (fun HT_ HW_ => ?_)
             generalize wr.drew = w15 at HB hx179_0 hx179_1 hx179_2 hx179_3 hx179_4 hx179_5 hx180_0 hx180_1 hx180_2 hx180_3 hx180_4 hx180_5 hHeld ⊢
             refine pz 0 19 #[T,F,F,F,F,F,F,F,F,F,F,F] HT_.1 ?_
             refine pz 1 20 #[T,T,F,F,F,F,F,F,F,F,F,F] HT_.1 ?_
             refine pz 2 21 #[T,T,T,F,F,F,F,F,F,F,F,F] HT_.1 ?_
             refine pz 4 23 #[T,T,T,F,T,F,F,F,F,F,F,F] HT_.1 ?_
             refine pz 5 24 #[T,T,T,F,T,T,F,F,F,F,F,F] HT_.1 ?_
             refine pz 6 25 #[T,T,T,F,T,T,T,F,F,F,F,F] HT_.1 ?_
             refine tz 3 22 #[T,T,T,T,T,T,T,F,F,F,F,F] HT_.1 HW_.1 hHeld ?_
             refine tz 7 26 #[T,T,T,T,T,T,T,T,F,F,F,F] HT_.1 HW_.1 hHeld ?_
             refine join_ (σ:=Nat × Nat) 2 #[T,T,T,T,T,T,T,T,T,T,F,F] (fun s_ => [(6,.pointer (some ⟨s_.1,0,none⟩)),(7,.pointer (some ⟨s_.2,0,none⟩))]) (fun s_ w' => (w'.cell? (ad179.add ((x5_1).toNat * 6)) = some (.int .i64 ((rd_T39 l0 x5_1).f0)) ∧ w'.cell? ⟨(ad179.add ((x5_1).toNat * 6)).block,(ad179.add ((x5_1).toNat * 6)).off + 1,none⟩ = some (.int .i64 ((rd_T39 l0 x5_1).f1)) ∧ w'.cell? ⟨(ad179.add ((x5_1).toNat * 6)).block,(ad179.add ((x5_1).toNat * 6)).off + 2,none⟩ = some (.float .f64 ((rd_T39 l0 x5_1).f2)) ∧ w'.cell? ⟨(ad179.add ((x5_1).toNat * 6)).block,(ad179.add ((x5_1).toNat * 6)).off + 3,none⟩ = some (.int .i64 ((rd_T39 l0 x5_1).f3)) ∧ w'.cell? ⟨(ad179.add ((x5_1).toNat * 6)).block,(ad179.add ((x5_1).toNat * 6)).off + 4,none⟩ = some (.float .f64 ((rd_T39 l0 x5_1).f4)) ∧ w'.cell? ⟨(ad179.add ((x5_1).toNat * 6)).block,(ad179.add ((x5_1).toNat * 6)).off + 5,none⟩ = some (.int .i64 ((rd_T39 l0 x5_1).f5)) ∧ w'.cell? (ad180.add ((x5_1).toNat * 6)) = some (.int .i64 ((rd_T39 l1 x5_1).f0)) ∧ w'.cell? ⟨(ad180.add ((x5_1).toNat * 6)).block,(ad180.add ((x5_1).toNat * 6)).off + 1,none⟩ = some (.int .i64 ((rd_T39 l1 x5_1).f1)) ∧ w'.cell? ⟨(ad180.add ((x5_1).toNat * 6)).block,(ad180.add ((x5_1).toNat * 6)).off + 2,none⟩ = some (.float .f64 ((rd_T39 l1 x5_1).f2)) ∧ w'.cell? ⟨(ad180.add ((x5_1).toNat * 6)).block,(ad180.add ((x5_1).toNat * 6)).off + 3,none⟩ = some (.int .i64 ((rd_T39 l1 x5_1).f3)) ∧ w'.cell? ⟨(ad180.add ((x5_1).toNat * 6)).block,(ad180.add ((x5_1).toNat * 6)).off + 4,none⟩ = some (.float .f64 ((rd_T39 l1 x5_1).f4)) ∧ w'.cell? ⟨(ad180.add ((x5_1).toNat * 6)).block,(ad180.add ((x5_1).toNat * 6)).off + 5,none⟩ = some (.int .i64 ((rd_T39 l1 x5_1).f5))) ∧ (w'.heap[s_.1]? = some (.cells #[.int .i64 0,.int .i64 0,.float .f64 0,.int .i64 0,.float .f64 0,.int .i64 0] 39 (0,0))) ∧ (w'.heap[s_.2]? = some (.cells #[.int .i64 0,.int .i64 0,.float .f64 0,.int .i64 0,.float .f64 0,.int .i64 0] 39 (0,0))) ∧ (w.heap.size ≤ s_.1) ∧ (w.heap.size ≤ s_.1) ∧ (s_.2 ≠ s_.1) ∧ (s_.1 ≠ s_.2) ∧ (w.heap.size ≤ s_.2) ∧ (w.heap.size ≤ s_.2) ∧ (Below w.heap.size w w')) ?_ ?_
             rotate_left
             ·intro hCont
              refine two_ (i:=8) (j:=9) (Ni:=some 6) (Nj:=some 7) #[T,T,T,T,T,T,T,T,T,F,F,F] #[T,T,T,T,T,T,T,T,F,T,F,F] rfl rfl rfl rfl (two_of HT_.out (by kernel_rfl)) (by decide) (by decide) (fun K hK => ?_) (fun K hK => ?_)
              ·skip
               refine box_step ?hg (N:=6) ?hd (cs:=#[.int .i64 0,.int .i64 0,.float .f64 0,.int .i64 0,.float .f64 0,.int .i64 0]) (t:=39) ?hr ?_;(case hd => rfl);(case hg => exact zw);(case hr => first|(go_simp;done)|(go_simp;rfl))
               intro G181 hg w16 hbox hb
               have K181:=Aside0.mk (hbox)
               have GW181:=zN HB hg
               have GE181:=zN HB hg
               replace HB:=zS HB hb
               clear hb hbox hg
               refine hK.out _ _ ⟨(zh HB hw179_0),(zh HB hw179_1),(zh HB hw179_2),(zh HB hw179_3),(zh HB hw179_4),(zh HB hw179_5),(zh HB hw180_0),(zh HB hw180_1),(zh HB hw180_2),(zh HB hw180_3),(zh HB hw180_4),(zh HB hw180_5)⟩ (fun hHeld => ?_)
               clear hK K
               refine nz 6 ?_
               refine one_ (i:=9) (N:=some 7) #[T,T,T,T,T,T,T,T,T,T,F,F] rfl rfl (one_of HT_.out (by kernel_rfl)) (by decide) (fun K hK => ?_)
               refine box_step ?hg (N:=7) ?hd (cs:=#[.int .i64 0,.int .i64 0,.float .f64 0,.int .i64 0,.float .f64 0,.int .i64 0]) (t:=39) ?hr ?_;(case hd => rfl);(case hg => exact zw);(case hr => first|(go_simp;done)|(go_simp;rfl))
               intro G182 hg w17 hbox hb
               have K182:=Aside0.mk (hbox)
               have GW182:=zN HB hg
               have GE182:=zN HB hg
               replace HB:=zS HB hb
               have NB181_182:=zL K181 hg
               have NB182_181:=zG K181 hg
               replace K181:=zB K181 hb
               clear hb hbox hg
               refine hK.out _ _ ⟨(zh HB hw179_0),(zh HB hw179_1),(zh HB hw179_2),(zh HB hw179_3),(zh HB hw179_4),(zh HB hw179_5),(zh HB hw180_0),(zh HB hw180_1),(zh HB hw180_2),(zh HB hw180_3),(zh HB hw180_4),(zh HB hw180_5)⟩ (fun hHeld => ?_)
               clear hK K
               refine nz 7 ?_
               exact norm_ (by simp only [putAll,Act.put,xA,xB,xC]) (hCont (G181,G182) _ ⟨hHeld,(z1 K181.1),(z1 K182.1),GW181.1,GE181.1,NB182_181.1,NB181_182.1,GW182.1,GE182.1,(zH HB)⟩)
              ·skip
               refine box_step ?hg (N:=7) ?hd (cs:=#[.int .i64 0,.int .i64 0,.float .f64 0,.int .i64 0,.float .f64 0,.int .i64 0]) (t:=39) ?hr ?_;(case hd => rfl);(case hg => exact zw);(case hr => first|(go_simp;done)|(go_simp;rfl))
               intro G182 hg w16 hbox hb
               have K182:=Aside0.mk (hbox)
               have GW182:=zN HB hg
               have GE182:=zN HB hg
               replace HB:=zS HB hb
               clear hb hbox hg
               refine hK.out _ _ ⟨(zh HB hw179_0),(zh HB hw179_1),(zh HB hw179_2),(zh HB hw179_3),(zh HB hw179_4),(zh HB hw179_5),(zh HB hw180_0),(zh HB hw180_1),(zh HB hw180_2),(zh HB hw180_3),(zh HB hw180_4),(zh HB hw180_5)⟩ (fun hHeld => ?_)
               clear hK K
               refine nz 7 ?_
               refine one_ (i:=8) (N:=some 6) #[T,T,T,T,T,T,T,T,T,T,F,F] rfl rfl (one_of HT_.out (by kernel_rfl)) (by decide) (fun K hK => ?_)
               refine box_step ?hg (N:=6) ?hd (cs:=#[.int .i64 0,.int .i64 0,.float .f64 0,.int .i64 0,.float .f64 0,.int .i64 0]) (t:=39) ?hr ?_;(case hd => rfl);(case hg => exact zw);(case hr => first|(go_simp;done)|(go_simp;rfl))
               intro G181 hg w17 hbox hb
               have K181:=Aside0.mk (hbox)
               have GW181:=zN HB hg
               have GE181:=zN HB hg
               replace HB:=zS HB hb
               have NB182_181:=zL K182 hg
               have NB181_182:=zG K182 hg
               replace K182:=zB K182 hb
               clear hb hbox hg
               refine hK.out _ _ ⟨(zh HB hw179_0),(zh HB hw179_1),(zh HB hw179_2),(zh HB hw179_3),(zh HB hw179_4),(zh HB hw179_5),(zh HB hw180_0),(zh HB hw180_1),(zh HB hw180_2),(zh HB hw180_3),(zh HB hw180_4),(zh HB hw180_5)⟩ (fun hHeld => ?_)
               clear hK K
               refine nz 6 ?_
               exact norm_ (by simp only [putAll,Act.put,xA,xB,xC]) (hCont (G181,G182) _ ⟨hHeld,(z1 K181.1),(z1 K182.1),GW181.1,GE181.1,NB182_181.1,NB181_182.1,GW182.1,GE182.1,(zH HB)⟩)
             rintro ⟨G181,G182⟩ w18 ⟨hS_,h0_,h1_,h2_,h3_,h4_,h5_,h6_,h7_,h8_⟩
             have K181 : Aside0 (w18.heap[G181]? = some (.cells #[.int .i64 0,.int .i64 0,.float .f64 0,.int .i64 0,.float .f64 0,.int .i64 0] 39 (0,0))):=⟨h0_⟩
             have K182 : Aside0 (w18.heap[G182]? = some (.cells #[.int .i64 0,.int .i64 0,.float .f64 0,.int .i64 0,.float .f64 0,.int .i64 0] 39 (0,0))):=⟨h1_⟩
             have GW181 : Aside0 (w.heap.size ≤ G181):=⟨h2_⟩
             have GE181 : Aside0 (w.heap.size ≤ G181):=⟨h3_⟩
             have NB182_181 : Aside0 (G182 ≠ G181):=⟨h4_⟩
             have NB181_182 : Aside0 (G181 ≠ G182):=⟨h5_⟩
             have GW182 : Aside0 (w.heap.size ≤ G182):=⟨h6_⟩
             have GE182 : Aside0 (w.heap.size ≤ G182):=⟨h7_⟩
             replace HB : Aside0 (Below w.heap.size w w18):=⟨h8_⟩
             clear h0_ h1_ h2_ h3_ h4_ h5_ h6_ h7_ h8_
             have hHeld : w18.cell? (ad179.add ((x5_1).toNat * 6)) = some (.int .i64 ((rd_T39 l0 x5_1).f0)) ∧ w18.cell? ⟨(ad179.add ((x5_1).toNat * 6)).block,(ad179.add ((x5_1).toNat * 6)).off + 1,none⟩ = some (.int .i64 ((rd_T39 l0 x5_1).f1)) ∧ w18.cell? ⟨(ad179.add ((x5_1).toNat * 6)).block,(ad179.add ((x5_1).toNat * 6)).off + 2,none⟩ = some (.float .f64 ((rd_T39 l0 x5_1).f2)) ∧ w18.cell? ⟨(ad179.add ((x5_1).toNat * 6)).block,(ad179.add ((x5_1).toNat * 6)).off + 3,none⟩ = some (.int .i64 ((rd_T39 l0 x5_1).f3)) ∧ w18.cell? ⟨(ad179.add ((x5_1).toNat * 6)).block,(ad179.add ((x5_1).toNat * 6)).off + 4,none⟩ = some (.float .f64 ((rd_T39 l0 x5_1).f4)) ∧ w18.cell? ⟨(ad179.add ((x5_1).toNat * 6)).block,(ad179.add ((x5_1).toNat * 6)).off + 5,none⟩ = some (.int .i64 ((rd_T39 l0 x5_1).f5)) ∧ w18.cell? (ad180.add ((x5_1).toNat * 6)) = some (.int .i64 ((rd_T39 l1 x5_1).f0)) ∧ w18.cell? ⟨(ad180.add ((x5_1).toNat * 6)).block,(ad180.add ((x5_1).toNat * 6)).off + 1,none⟩ = some (.int .i64 ((rd_T39 l1 x5_1).f1)) ∧ w18.cell? ⟨(ad180.add ((x5_1).toNat * 6)).block,(ad180.add ((x5_1).toNat * 6)).off + 2,none⟩ = some (.float .f64 ((rd_T39 l1 x5_1).f2)) ∧ w18.cell? ⟨(ad180.add ((x5_1).toNat * 6)).block,(ad180.add ((x5_1).toNat * 6)).off + 3,none⟩ = some (.int .i64 ((rd_T39 l1 x5_1).f3)) ∧ w18.cell? ⟨(ad180.add ((x5_1).toNat * 6)).block,(ad180.add ((x5_1).toNat * 6)).off + 4,none⟩ = some (.float .f64 ((rd_T39 l1 x5_1).f4)) ∧ w18.cell? ⟨(ad180.add ((x5_1).toNat * 6)).block,(ad180.add ((x5_1).toNat * 6)).off + 5,none⟩ = some (.int .i64 ((rd_T39 l1 x5_1).f5)):=hS_
             refine norm_ (a':=?_) ?_ ?_
             rotate_left
             ·simp only [putAll,Act.put,xA,xB,xC]
              rfl
             refine one_ (i:=10) (N:=none) #[T,T,T,T,T,T,T,T,T,T,T,F] rfl rfl (one_of HT_.out (by kernel_rfl)) (by decide) (fun K hK => ?_)
             have hs19 : w18.cell? ⟨G181,0,none⟩ = some (.int .i64 0):=zk K181 0
             have hfs19:=bF K181.1 0
             have hns19_1:=NB182_181.1
             have hms19_1:=NB181_182.1
             have hs20 : w18.cell? ⟨G181,1,none⟩ = some (.int .i64 0):=zk K181 1
             have hfs20:=bF K181.1 1
             have hns20_1:=NB182_181.1
             have hms20_1:=NB181_182.1
             have hs21 : w18.cell? ⟨G181,2,none⟩ = some (.float .f64 0):=zk K181 2
             have hfs21:=bF K181.1 2
             have hns21_1:=NB182_181.1
             have hms21_1:=NB181_182.1
             have hs22 : w18.cell? ⟨G181,3,none⟩ = some (.int .i64 0):=zk K181 3
             have hfs22:=bF K181.1 3
             have hns22_1:=NB182_181.1
             have hms22_1:=NB181_182.1
             have hs23 : w18.cell? ⟨G181,4,none⟩ = some (.float .f64 0):=zk K181 4
             have hfs23:=bF K181.1 4
             have hns23_1:=NB182_181.1
             have hms23_1:=NB181_182.1
             have hs24 : w18.cell? ⟨G181,5,none⟩ = some (.int .i64 0):=zk K181 5
             have hfs24:=bF K181.1 5
             have hns24_1:=NB182_181.1
             have hms24_1:=NB181_182.1
             refine sz ?_
             refine hK.out _ _ ⟨((cF (p:=⟨G181,_,none⟩) (ne_c hw179_0 GW181.1) _).trans (((cF (p:=⟨G181,_,none⟩) (ne_c hw179_0 GW181.1) _).trans (((cF (p:=⟨G181,_,none⟩) (ne_c hw179_0 GW181.1) _).trans (((cF (p:=⟨G181,_,none⟩) (ne_c hw179_0 GW181.1) _).trans (((cF (p:=⟨G181,_,none⟩) (ne_c hw179_0 GW181.1) _).trans (((cF (p:=⟨G181,_,none⟩) (ne_c hw179_0 GW181.1) _).trans (hHeld.1)))))))))))),((cF (p:=⟨G181,_,none⟩) (ne_c hw179_1 GW181.1) _).trans (((cF (p:=⟨G181,_,none⟩) (ne_c hw179_1 GW181.1) _).trans (((cF (p:=⟨G181,_,none⟩) (ne_c hw179_1 GW181.1) _).trans (((cF (p:=⟨G181,_,none⟩) (ne_c hw179_1 GW181.1) _).trans (((cF (p:=⟨G181,_,none⟩) (ne_c hw179_1 GW181.1) _).trans (((cF (p:=⟨G181,_,none⟩) (ne_c hw179_1 GW181.1) _).trans (hHeld.2.1)))))))))))),((cF (p:=⟨G181,_,none⟩) (ne_c hw179_2 GW181.1) _).trans (((cF (p:=⟨G181,_,none⟩) (ne_c hw179_2 GW181.1) _).trans (((cF (p:=⟨G181,_,none⟩) (ne_c hw179_2 GW181.1) _).trans (((cF (p:=⟨G181,_,none⟩) (ne_c hw179_2 GW181.1) _).trans (((cF (p:=⟨G181,_,none⟩) (ne_c hw179_2 GW181.1) _).trans (((cF (p:=⟨G181,_,none⟩) (ne_c hw179_2 GW181.1) _).trans (hHeld.2.2.1)))))))))))),((cF (p:=⟨G181,_,none⟩) (ne_c hw179_3 GW181.1) _).trans (((cF (p:=⟨G181,_,none⟩) (ne_c hw179_3 GW181.1) _).trans (((cF (p:=⟨G181,_,none⟩) (ne_c hw179_3 GW181.1) _).trans (((cF (p:=⟨G181,_,none⟩) (ne_c hw179_3 GW181.1) _).trans (((cF (p:=⟨G181,_,none⟩) (ne_c hw179_3 GW181.1) _).trans (((cF (p:=⟨G181,_,none⟩) (ne_c hw179_3 GW181.1) _).trans (hHeld.2.2.2.1)))))))))))),((cF (p:=⟨G181,_,none⟩) (ne_c hw179_4 GW181.1) _).trans (((cF (p:=⟨G181,_,none⟩) (ne_c hw179_4 GW181.1) _).trans (((cF (p:=⟨G181,_,none⟩) (ne_c hw179_4 GW181.1) _).trans (((cF (p:=⟨G181,_,none⟩) (ne_c hw179_4 GW181.1) _).trans (((cF (p:=⟨G181,_,none⟩) (ne_c hw179_4 GW181.1) _).trans (((cF (p:=⟨G181,_,none⟩) (ne_c hw179_4 GW181.1) _).trans (hHeld.2.2.2.2.1)))))))))))),((cF (p:=⟨G181,_,none⟩) (ne_c hw179_5 GW181.1) _).trans (((cF (p:=⟨G181,_,none⟩) (ne_c hw179_5 GW181.1) _).trans (((cF (p:=⟨G181,_,none⟩) (ne_c hw179_5 GW181.1) _).trans (((cF (p:=⟨G181,_,none⟩) (ne_c hw179_5 GW181.1) _).trans (((cF (p:=⟨G181,_,none⟩) (ne_c hw179_5 GW181.1) _).trans (((cF (p:=⟨G181,_,none⟩) (ne_c hw179_5 GW181.1) _).trans (hHeld.2.2.2.2.2.1)))))))))))),((cF (p:=⟨G181,_,none⟩) (ne_c hw180_0 GW181.1) _).trans (((cF (p:=⟨G181,_,none⟩) (ne_c hw180_0 GW181.1) _).trans (((cF (p:=⟨G181,_,none⟩) (ne_c hw180_0 GW181.1) _).trans (((cF (p:=⟨G181,_,none⟩) (ne_c hw180_0 GW181.1) _).trans (((cF (p:=⟨G181,_,none⟩) (ne_c hw180_0 GW181.1) _).trans (((cF (p:=⟨G181,_,none⟩) (ne_c hw180_0 GW181.1) _).trans (hHeld.2.2.2.2.2.2.1)))))))))))),((cF (p:=⟨G181,_,none⟩) (ne_c hw180_1 GW181.1) _).trans (((cF (p:=⟨G181,_,none⟩) (ne_c hw180_1 GW181.1) _).trans (((cF (p:=⟨G181,_,none⟩) (ne_c hw180_1 GW181.1) _).trans (((cF (p:=⟨G181,_,none⟩) (ne_c hw180_1 GW181.1) _).trans (((cF (p:=⟨G181,_,none⟩) (ne_c hw180_1 GW181.1) _).trans (((cF (p:=⟨G181,_,none⟩) (ne_c hw180_1 GW181.1) _).trans (hHeld.2.2.2.2.2.2.2.1)))))))))))),((cF (p:=⟨G181,_,none⟩) (ne_c hw180_2 GW181.1) _).trans (((cF (p:=⟨G181,_,none⟩) (ne_c hw180_2 GW181.1) _).trans (((cF (p:=⟨G181,_,none⟩) (ne_c hw180_2 GW181.1) _).trans (((cF (p:=⟨G181,_,none⟩) (ne_c hw180_2 GW181.1) _).trans (((cF (p:=⟨G181,_,none⟩) (ne_c hw180_2 GW181.1) _).trans (((cF (p:=⟨G181,_,none⟩) (ne_c hw180_2 GW181.1) _).trans (hHeld.2.2.2.2.2.2.2.2.1)))))))))))),((cF (p:=⟨G181,_,none⟩) (ne_c hw180_3 GW181.1) _).trans (((cF (p:=⟨G181,_,none⟩) (ne_c hw180_3 GW181.1) _).trans (((cF (p:=⟨G181,_,none⟩) (ne_c hw180_3 GW181.1) _).trans (((cF (p:=⟨G181,_,none⟩) (ne_c hw180_3 GW181.1) _).trans (((cF (p:=⟨G181,_,none⟩) (ne_c hw180_3 GW181.1) _).trans (((cF (p:=⟨G181,_,none⟩) (ne_c hw180_3 GW181.1) _).trans (hHeld.2.2.2.2.2.2.2.2.2.1)))))))))))),((cF (p:=⟨G181,_,none⟩) (ne_c hw180_4 GW181.1) _).trans (((cF (p:=⟨G181,_,none⟩) (ne_c hw180_4 GW181.1) _).trans (((cF (p:=⟨G181,_,none⟩) (ne_c hw180_4 GW181.1) _).trans (((cF (p:=⟨G181,_,none⟩) (ne_c hw180_4 GW181.1) _).trans (((cF (p:=⟨G181,_,none⟩) (ne_c hw180_4 GW181.1) _).trans (((cF (p:=⟨G181,_,none⟩) (ne_c hw180_4 GW181.1) _).trans (hHeld.2.2.2.2.2.2.2.2.2.2.1)))))))))))),((cF (p:=⟨G181,_,none⟩) (ne_c hw180_5 GW181.1) _).trans (((cF (p:=⟨G181,_,none⟩) (ne_c hw180_5 GW181.1) _).trans (((cF (p:=⟨G181,_,none⟩) (ne_c hw180_5 GW181.1) _).trans (((cF (p:=⟨G181,_,none⟩) (ne_c hw180_5 GW181.1) _).trans (((cF (p:=⟨G181,_,none⟩) (ne_c hw180_5 GW181.1) _).trans (((cF (p:=⟨G181,_,none⟩) (ne_c hw180_5 GW181.1) _).trans (hHeld.2.2.2.2.2.2.2.2.2.2.2))))))))))))⟩ (fun hHeld => ?_)
             clear hK K
             refine one_ (i:=11) (N:=none) #[T,T,T,T,T,T,T,T,T,T,T,T] rfl rfl (one_of HT_.out (by kernel_rfl)) (by decide) (fun K hK => ?_)
             have hs25 : w18.cell? ⟨G182,0,none⟩ = some (.int .i64 0):=zk K182 0
             have hfs25:=bF K182.1 0
             have hns25_0:=NB181_182.1
             have hms25_0:=NB182_181.1
             have hs26 : w18.cell? ⟨G182,1,none⟩ = some (.int .i64 0):=zk K182 1
             have hfs26:=bF K182.1 1
             have hns26_0:=NB181_182.1
             have hms26_0:=NB182_181.1
             have hs27 : w18.cell? ⟨G182,2,none⟩ = some (.float .f64 0):=zk K182 2
             have hfs27:=bF K182.1 2
             have hns27_0:=NB181_182.1
             have hms27_0:=NB182_181.1
             have hs28 : w18.cell? ⟨G182,3,none⟩ = some (.int .i64 0):=zk K182 3
             have hfs28:=bF K182.1 3
             have hns28_0:=NB181_182.1
             have hms28_0:=NB182_181.1
             have hs29 : w18.cell? ⟨G182,4,none⟩ = some (.float .f64 0):=zk K182 4
             have hfs29:=bF K182.1 4
             have hns29_0:=NB181_182.1
             have hms29_0:=NB182_181.1
             have hs30 : w18.cell? ⟨G182,5,none⟩ = some (.int .i64 0):=zk K182 5
             have hfs30:=bF K182.1 5
             have hns30_0:=NB181_182.1
             have hms30_0:=NB182_181.1
             refine sz ?_
             refine hK.out _ _ ⟨((cF (p:=⟨G182,_,none⟩) (ne_c hw179_0 GW182.1) _).trans (((cF (p:=⟨G182,_,none⟩) (ne_c hw179_0 GW182.1) _).trans (((cF (p:=⟨G182,_,none⟩) (ne_c hw179_0 GW182.1) _).trans (((cF (p:=⟨G182,_,none⟩) (ne_c hw179_0 GW182.1) _).trans (((cF (p:=⟨G182,_,none⟩) (ne_c hw179_0 GW182.1) _).trans (((cF (p:=⟨G182,_,none⟩) (ne_c hw179_0 GW182.1) _).trans (hHeld.1)))))))))))),((cF (p:=⟨G182,_,none⟩) (ne_c hw179_1 GW182.1) _).trans (((cF (p:=⟨G182,_,none⟩) (ne_c hw179_1 GW182.1) _).trans (((cF (p:=⟨G182,_,none⟩) (ne_c hw179_1 GW182.1) _).trans (((cF (p:=⟨G182,_,none⟩) (ne_c hw179_1 GW182.1) _).trans (((cF (p:=⟨G182,_,none⟩) (ne_c hw179_1 GW182.1) _).trans (((cF (p:=⟨G182,_,none⟩) (ne_c hw179_1 GW182.1) _).trans (hHeld.2.1)))))))))))),((cF (p:=⟨G182,_,none⟩) (ne_c hw179_2 GW182.1) _).trans (((cF (p:=⟨G182,_,none⟩) (ne_c hw179_2 GW182.1) _).trans (((cF (p:=⟨G182,_,none⟩) (ne_c hw179_2 GW182.1) _).trans (((cF (p:=⟨G182,_,none⟩) (ne_c hw179_2 GW182.1) _).trans (((cF (p:=⟨G182,_,none⟩) (ne_c hw179_2 GW182.1) _).trans (((cF (p:=⟨G182,_,none⟩) (ne_c hw179_2 GW182.1) _).trans (hHeld.2.2.1)))))))))))),((cF (p:=⟨G182,_,none⟩) (ne_c hw179_3 GW182.1) _).trans (((cF (p:=⟨G182,_,none⟩) (ne_c hw179_3 GW182.1) _).trans (((cF (p:=⟨G182,_,none⟩) (ne_c hw179_3 GW182.1) _).trans (((cF (p:=⟨G182,_,none⟩) (ne_c hw179_3 GW182.1) _).trans (((cF (p:=⟨G182,_,none⟩) (ne_c hw179_3 GW182.1) _).trans (((cF (p:=⟨G182,_,none⟩) (ne_c hw179_3 GW182.1) _).trans (hHeld.2.2.2.1)))))))))))),((cF (p:=⟨G182,_,none⟩) (ne_c hw179_4 GW182.1) _).trans (((cF (p:=⟨G182,_,none⟩) (ne_c hw179_4 GW182.1) _).trans (((cF (p:=⟨G182,_,none⟩) (ne_c hw179_4 GW182.1) _).trans (((cF (p:=⟨G182,_,none⟩) (ne_c hw179_4 GW182.1) _).trans (((cF (p:=⟨G182,_,none⟩) (ne_c hw179_4 GW182.1) _).trans (((cF (p:=⟨G182,_,none⟩) (ne_c hw179_4 GW182.1) _).trans (hHeld.2.2.2.2.1)))))))))))),((cF (p:=⟨G182,_,none⟩) (ne_c hw179_5 GW182.1) _).trans (((cF (p:=⟨G182,_,none⟩) (ne_c hw179_5 GW182.1) _).trans (((cF (p:=⟨G182,_,none⟩) (ne_c hw179_5 GW182.1) _).trans (((cF (p:=⟨G182,_,none⟩) (ne_c hw179_5 GW182.1) _).trans (((cF (p:=⟨G182,_,none⟩) (ne_c hw179_5 GW182.1) _).trans (((cF (p:=⟨G182,_,none⟩) (ne_c hw179_5 GW182.1) _).trans (hHeld.2.2.2.2.2.1)))))))))))),((cF (p:=⟨G182,_,none⟩) (ne_c hw180_0 GW182.1) _).trans (((cF (p:=⟨G182,_,none⟩) (ne_c hw180_0 GW182.1) _).trans (((cF (p:=⟨G182,_,none⟩) (ne_c hw180_0 GW182.1) _).trans (((cF (p:=⟨G182,_,none⟩) (ne_c hw180_0 GW182.1) _).trans (((cF (p:=⟨G182,_,none⟩) (ne_c hw180_0 GW182.1) _).trans (((cF (p:=⟨G182,_,none⟩) (ne_c hw180_0 GW182.1) _).trans (hHeld.2.2.2.2.2.2.1)))))))))))),((cF (p:=⟨G182,_,none⟩) (ne_c hw180_1 GW182.1) _).trans (((cF (p:=⟨G182,_,none⟩) (ne_c hw180_1 GW182.1) _).trans (((cF (p:=⟨G182,_,none⟩) (ne_c hw180_1 GW182.1) _).trans (((cF (p:=⟨G182,_,none⟩) (ne_c hw180_1 GW182.1) _).trans (((cF (p:=⟨G182,_,none⟩) (ne_c hw180_1 GW182.1) _).trans (((cF (p:=⟨G182,_,none⟩) (ne_c hw180_1 GW182.1) _).trans (hHeld.2.2.2.2.2.2.2.1)))))))))))),((cF (p:=⟨G182,_,none⟩) (ne_c hw180_2 GW182.1) _).trans (((cF (p:=⟨G182,_,none⟩) (ne_c hw180_2 GW182.1) _).trans (((cF (p:=⟨G182,_,none⟩) (ne_c hw180_2 GW182.1) _).trans (((cF (p:=⟨G182,_,none⟩) (ne_c hw180_2 GW182.1) _).trans (((cF (p:=⟨G182,_,none⟩) (ne_c hw180_2 GW182.1) _).trans (((cF (p:=⟨G182,_,none⟩) (ne_c hw180_2 GW182.1) _).trans (hHeld.2.2.2.2.2.2.2.2.1)))))))))))),((cF (p:=⟨G182,_,none⟩) (ne_c hw180_3 GW182.1) _).trans (((cF (p:=⟨G182,_,none⟩) (ne_c hw180_3 GW182.1) _).trans (((cF (p:=⟨G182,_,none⟩) (ne_c hw180_3 GW182.1) _).trans (((cF (p:=⟨G182,_,none⟩) (ne_c hw180_3 GW182.1) _).trans (((cF (p:=⟨G182,_,none⟩) (ne_c hw180_3 GW182.1) _).trans (((cF (p:=⟨G182,_,none⟩) (ne_c hw180_3 GW182.1) _).trans (hHeld.2.2.2.2.2.2.2.2.2.1)))))))))))),((cF (p:=⟨G182,_,none⟩) (ne_c hw180_4 GW182.1) _).trans (((cF (p:=⟨G182,_,none⟩) (ne_c hw180_4 GW182.1) _).trans (((cF (p:=⟨G182,_,none⟩) (ne_c hw180_4 GW182.1) _).trans (((cF (p:=⟨G182,_,none⟩) (ne_c hw180_4 GW182.1) _).trans (((cF (p:=⟨G182,_,none⟩) (ne_c hw180_4 GW182.1) _).trans (((cF (p:=⟨G182,_,none⟩) (ne_c hw180_4 GW182.1) _).trans (hHeld.2.2.2.2.2.2.2.2.2.2.1)))))))))))),((cF (p:=⟨G182,_,none⟩) (ne_c hw180_5 GW182.1) _).trans (((cF (p:=⟨G182,_,none⟩) (ne_c hw180_5 GW182.1) _).trans (((cF (p:=⟨G182,_,none⟩) (ne_c hw180_5 GW182.1) _).trans (((cF (p:=⟨G182,_,none⟩) (ne_c hw180_5 GW182.1) _).trans (((cF (p:=⟨G182,_,none⟩) (ne_c hw180_5 GW182.1) _).trans (((cF (p:=⟨G182,_,none⟩) (ne_c hw180_5 GW182.1) _).trans (hHeld.2.2.2.2.2.2.2.2.2.2.2))))))))))))⟩ (fun hHeld => ?_)
             clear hK K
             refine done_ (done_of HT_.out (by kernel_rfl)) ?_
             have hnb31:=NB181_182.1
             have hnc31:=NB182_181.1
             have hcz32_0 : w18.cell? ⟨G181,0,none⟩ = some (.int .i64 0):=zk K181 0
             have hcz32_1 : w18.cell? ⟨G181,1,none⟩ = some (.int .i64 0):=zk K181 1
             have hcz32_2 : w18.cell? ⟨G181,2,none⟩ = some (.float .f64 0):=zk K181 2
             have hcz32_3 : w18.cell? ⟨G181,3,none⟩ = some (.int .i64 0):=zk K181 3
             have hcz32_4 : w18.cell? ⟨G181,4,none⟩ = some (.float .f64 0):=zk K181 4
             have hcz32_5 : w18.cell? ⟨G181,5,none⟩ = some (.int .i64 0):=zk K181 5
             have hfz32_0:=bF K181.1 0
             have hfz32_1:=bF K181.1 1
             have hfz32_2:=bF K181.1 2
             have hfz32_3:=bF K181.1 3
             have hfz32_4:=bF K181.1 4
             have hfz32_5:=bF K181.1 5
             have hcz33_0 : w18.cell? ⟨G182,0,none⟩ = some (.int .i64 0):=zk K182 0
             have hcz33_1 : w18.cell? ⟨G182,1,none⟩ = some (.int .i64 0):=zk K182 1
             have hcz33_2 : w18.cell? ⟨G182,2,none⟩ = some (.float .f64 0):=zk K182 2
             have hcz33_3 : w18.cell? ⟨G182,3,none⟩ = some (.int .i64 0):=zk K182 3
             have hcz33_4 : w18.cell? ⟨G182,4,none⟩ = some (.float .f64 0):=zk K182 4
             have hcz33_5 : w18.cell? ⟨G182,5,none⟩ = some (.int .i64 0):=zk K182 5
             have hfz33_0:=bF K182.1 0
             have hfz33_1:=bF K182.1 1
             have hfz33_2:=bF K182.1 2
             have hfz33_3:=bF K182.1 3
             have hfz33_4:=bF K182.1 4
             have hfz33_5:=bF K182.1 5
             try go_wp2_with (first|(go_at_call 52;(with_reducible refine (beaconref01_Same.calls ((rd_T39 l0 x5_1).f2) ((rd_T39 l1 x5_1).f2) true _ A11.out).mono ?_);rintro e w' ⟨rfl,⟨nd,rfl⟩⟩)|(go_at_call 52;(with_reducible refine (beaconref01_Same.calls ((rd_T39 l0 x5_1).f4) ((rd_T39 l1 x5_1).f4) true _ A13.out).mono ?_);rintro e w' ⟨rfl,⟨nd,rfl⟩⟩))
             go_roundg k1
             case measure => have:=HK1.out;omega
             case rel => exact ⟨(wrap64 (x5_1 + 1)),ze,H',⟨by have:=HK1.out;omega⟩,⟨zH HB⟩⟩
            ·replace c14:=Bool.eq_false_iff.mpr c14
             subst c14
             have H1 : (some false) = some r:=by rw [if_neg (show ¬ (false = true) by decide)] at H;exact H
             clear H
             have H:=H1
             clear H1
             obtain rfl:=Option.some.inj H
             try go_wp2
             replace HB:=Aside0.mk (bw1 HB.1)
             have p179 : 0 ≤ (x5_1 : Int):=zd
             have q179 : x5_1 < (l0.length : Int):=zd
             obtain ⟨ad179,e179,hx179_0,hx179_1,hx179_2,hx179_3,hx179_4,hx179_5⟩:=at_T39 HR0.out x5_1 p179 q179
             have hw179_5:=hx179_5
             have hw179_4:=hx179_4
             have hw179_3:=hx179_3
             have hw179_2:=hx179_2
             have hw179_1:=hx179_1
             have hw179_0:=hx179_0
             cases e179
             replace hx179_0:=zh HB hx179_0
             replace hx179_1:=zh HB hx179_1
             replace hx179_2:=zh HB hx179_2
             replace hx179_3:=zh HB hx179_3
             replace hx179_4:=zh HB hx179_4
             replace hx179_5:=zh HB hx179_5
             replace p179:=eq_true p179
             replace q179:=eq_true q179
             have p180 : 0 ≤ (x5_1 : Int):=zd
             have q180 : x5_1 < (l1.length : Int):=zd
             obtain ⟨ad180,e180,hx180_0,hx180_1,hx180_2,hx180_3,hx180_4,hx180_5⟩:=at_T39 HR1.out x5_1 p180 q180
             have hw180_5:=hx180_5
             have hw180_4:=hx180_4
             have hw180_3:=hx180_3
             have hw180_2:=hx180_2
             have hw180_1:=hx180_1
             have hw180_0:=hx180_0
             cases e180
             replace hx180_0:=zh HB hx180_0
             replace hx180_1:=zh HB hx180_1
             replace hx180_2:=zh HB hx180_2
             replace hx180_3:=zh HB hx180_3
             replace hx180_4:=zh HB hx180_4
             replace hx180_5:=zh HB hx180_5
             replace p180:=eq_true p180
             replace q180:=eq_true q180
             refine start_ (n:=12) (S:=fun w' => w'.cell? (ad179.add ((x5_1).toNat * 6)) = some (.int .i64 ((rd_T39 l0 x5_1).f0)) ∧ w'.cell? ⟨(ad179.add ((x5_1).toNat * 6)).block,(ad179.add ((x5_1).toNat * 6)).off + 1,none⟩ = some (.int .i64 ((rd_T39 l0 x5_1).f1)) ∧ w'.cell? ⟨(ad179.add ((x5_1).toNat * 6)).block,(ad179.add ((x5_1).toNat * 6)).off + 2,none⟩ = some (.float .f64 ((rd_T39 l0 x5_1).f2)) ∧ w'.cell? ⟨(ad179.add ((x5_1).toNat * 6)).block,(ad179.add ((x5_1).toNat * 6)).off + 3,none⟩ = some (.int .i64 ((rd_T39 l0 x5_1).f3)) ∧ w'.cell? ⟨(ad179.add ((x5_1).toNat * 6)).block,(ad179.add ((x5_1).toNat * 6)).off + 4,none⟩ = some (.float .f64 ((rd_T39 l0 x5_1).f4)) ∧ w'.cell? ⟨(ad179.add ((x5_1).toNat * 6)).block,(ad179.add ((x5_1).toNat * 6)).off + 5,none⟩ = some (.int .i64 ((rd_T39 l0 x5_1).f5)) ∧ w'.cell? (ad180.add ((x5_1).toNat * 6)) = some (.int .i64 ((rd_T39 l1 x5_1).f0)) ∧ w'.cell? ⟨(ad180.add ((x5_1).toNat * 6)).block,(ad180.add ((x5_1).toNat * 6)).off + 1,none⟩ = some (.int .i64 ((rd_T39 l1 x5_1).f1)) ∧ w'.cell? ⟨(ad180.add ((x5_1).toNat * 6)).block,(ad180.add ((x5_1).toNat * 6)).off + 2,none⟩ = some (.float .f64 ((rd_T39 l1 x5_1).f2)) ∧ w'.cell? ⟨(ad180.add ((x5_1).toNat * 6)).block,(ad180.add ((x5_1).toNat * 6)).off + 3,none⟩ = some (.int .i64 ((rd_T39 l1 x5_1).f3)) ∧ w'.cell? ⟨(ad180.add ((x5_1).toNat * 6)).block,(ad180.add ((x5_1).toNat * 6)).off + 4,none⟩ = some (.float .f64 ((rd_T39 l1 x5_1).f4)) ∧ w'.cell? ⟨(ad180.add ((x5_1).toNat * 6)).block,(ad180.add ((x5_1).toNat * 6)).off + 5,none⟩ = some (.int .i64 ((rd_T39 l1 x5_1).f5))) (ds:=[]) #[F,F,F,F,F,F,F,F,F,F,F,F] (by kernel_rfl) rfl rfl ⟨(zh HB hw179_0),(zh HB hw179_1),(zh HB hw179_2),(zh HB hw179_3),(zh HB hw179_4),(zh HB hw179_5),(zh HB hw180_0),(zh HB hw180_1),(zh HB hw180_2),(zh HB hw180_3),(zh HB hw180_4),(zh HB hw180_5)⟩ (fun hHeld => ?_);refine with_tabW beaconref09_SameEntries.tab6 beaconref09_SameEntries.bits6 (fun HT_ HW_ => ?_)
             generalize wr.drew = w34 at HB hx179_0 hx179_1 hx179_2 hx179_3 hx179_4 hx179_5 hx180_0 hx180_1 hx180_2 hx180_3 hx180_4 hx180_5 hHeld ⊢
             refine pz 0 19 #[T,F,F,F,F,F,F,F,F,F,F,F] HT_.1 ?_
             refine pz 1 20 #[T,T,F,F,F,F,F,F,F,F,F,F] HT_.1 ?_
             refine pz 2 21 #[T,T,T,F,F,F,F,F,F,F,F,F] HT_.1 ?_
             refine pz 4 23 #[T,T,T,F,T,F,F,F,F,F,F,F] HT_.1 ?_
             refine pz 5 24 #[T,T,T,F,T,T,F,F,F,F,F,F] HT_.1 ?_
             refine pz 6 25 #[T,T,T,F,T,T,T,F,F,F,F,F] HT_.1 ?_
             refine tz 3 22 #[T,T,T,T,T,T,T,F,F,F,F,F] HT_.1 HW_.1 hHeld ?_
             refine tz 7 26 #[T,T,T,T,T,T,T,T,F,F,F,F] HT_.1 HW_.1 hHeld ?_
             refine join_ (σ:=Nat × Nat) 2 #[T,T,T,T,T,T,T,T,T,T,F,F] (fun s_ => [(6,.pointer (some ⟨s_.1,0,none⟩)),(7,.pointer (some ⟨s_.2,0,none⟩))]) (fun s_ w' => (w'.cell? (ad179.add ((x5_1).toNat * 6)) = some (.int .i64 ((rd_T39 l0 x5_1).f0)) ∧ w'.cell? ⟨(ad179.add ((x5_1).toNat * 6)).block,(ad179.add ((x5_1).toNat * 6)).off + 1,none⟩ = some (.int .i64 ((rd_T39 l0 x5_1).f1)) ∧ w'.cell? ⟨(ad179.add ((x5_1).toNat * 6)).block,(ad179.add ((x5_1).toNat * 6)).off + 2,none⟩ = some (.float .f64 ((rd_T39 l0 x5_1).f2)) ∧ w'.cell? ⟨(ad179.add ((x5_1).toNat * 6)).block,(ad179.add ((x5_1).toNat * 6)).off + 3,none⟩ = some (.int .i64 ((rd_T39 l0 x5_1).f3)) ∧ w'.cell? ⟨(ad179.add ((x5_1).toNat * 6)).block,(ad179.add ((x5_1).toNat * 6)).off + 4,none⟩ = some (.float .f64 ((rd_T39 l0 x5_1).f4)) ∧ w'.cell? ⟨(ad179.add ((x5_1).toNat * 6)).block,(ad179.add ((x5_1).toNat * 6)).off + 5,none⟩ = some (.int .i64 ((rd_T39 l0 x5_1).f5)) ∧ w'.cell? (ad180.add ((x5_1).toNat * 6)) = some (.int .i64 ((rd_T39 l1 x5_1).f0)) ∧ w'.cell? ⟨(ad180.add ((x5_1).toNat * 6)).block,(ad180.add ((x5_1).toNat * 6)).off + 1,none⟩ = some (.int .i64 ((rd_T39 l1 x5_1).f1)) ∧ w'.cell? ⟨(ad180.add ((x5_1).toNat * 6)).block,(ad180.add ((x5_1).toNat * 6)).off + 2,none⟩ = some (.float .f64 ((rd_T39 l1 x5_1).f2)) ∧ w'.cell? ⟨(ad180.add ((x5_1).toNat * 6)).block,(ad180.add ((x5_1).toNat * 6)).off + 3,none⟩ = some (.int .i64 ((rd_T39 l1 x5_1).f3)) ∧ w'.cell? ⟨(ad180.add ((x5_1).toNat * 6)).block,(ad180.add ((x5_1).toNat * 6)).off + 4,none⟩ = some (.float .f64 ((rd_T39 l1 x5_1).f4)) ∧ w'.cell? ⟨(ad180.add ((x5_1).toNat * 6)).block,(ad180.add ((x5_1).toNat * 6)).off + 5,none⟩ = some (.int .i64 ((rd_T39 l1 x5_1).f5))) ∧ (w'.heap[s_.1]? = some (.cells #[.int .i64 0,.int .i64 0,.float .f64 0,.int .i64 0,.float .f64 0,.int .i64 0] 39 (0,0))) ∧ (w'.heap[s_.2]? = some (.cells #[.int .i64 0,.int .i64 0,.float .f64 0,.int .i64 0,.float .f64 0,.int .i64 0] 39 (0,0))) ∧ (w.heap.size ≤ s_.1) ∧ (w.heap.size ≤ s_.1) ∧ (s_.2 ≠ s_.1) ∧ (s_.1 ≠ s_.2) ∧ (w.heap.size ≤ s_.2) ∧ (w.heap.size ≤ s_.2) ∧ (Below w.heap.size w w')) ?_ ?_
             rotate_left
             ·intro hCont
              refine two_ (i:=8) (j:=9) (Ni:=some 6) (Nj:=some 7) #[T,T,T,T,T,T,T,T,T,F,F,F] #[T,T,T,T,T,T,T,T,F,T,F,F] rfl rfl rfl rfl (two_of HT_.out (by kernel_rfl)) (by decide) (by decide) (fun K hK => ?_) (fun K hK => ?_)
              ·skip
               refine box_step ?hg (N:=6) ?hd (cs:=#[.int .i64 0,.int .i64 0,.float .f64 0,.int .i64 0,.float .f64 0,.int .i64 0]) (t:=39) ?hr ?_;(case hd => rfl);(case hg => exact zw);(case hr => first|(go_simp;done)|(go_simp;rfl))
               intro G181 hg w35 hbox hb
               have K181:=Aside0.mk (hbox)
               have GW181:=zN HB hg
               have GE181:=zN HB hg
               replace HB:=zS HB hb
               clear hb hbox hg
               refine hK.out _ _ ⟨(zh HB hw179_0),(zh HB hw179_1),(zh HB hw179_2),(zh HB hw179_3),(zh HB hw179_4),(zh HB hw179_5),(zh HB hw180_0),(zh HB hw180_1),(zh HB hw180_2),(zh HB hw180_3),(zh HB hw180_4),(zh HB hw180_5)⟩ (fun hHeld => ?_)
               clear hK K
               refine nz 6 ?_
               refine one_ (i:=9) (N:=some 7) #[T,T,T,T,T,T,T,T,T,T,F,F] rfl rfl (one_of HT_.out (by kernel_rfl)) (by decide) (fun K hK => ?_)
               refine box_step ?hg (N:=7) ?hd (cs:=#[.int .i64 0,.int .i64 0,.float .f64 0,.int .i64 0,.float .f64 0,.int .i64 0]) (t:=39) ?hr ?_;(case hd => rfl);(case hg => exact zw);(case hr => first|(go_simp;done)|(go_simp;rfl))
               intro G182 hg w36 hbox hb
               have K182:=Aside0.mk (hbox)
               have GW182:=zN HB hg
               have GE182:=zN HB hg
               replace HB:=zS HB hb
               have NB181_182:=zL K181 hg
               have NB182_181:=zG K181 hg
               replace K181:=zB K181 hb
               clear hb hbox hg
               refine hK.out _ _ ⟨(zh HB hw179_0),(zh HB hw179_1),(zh HB hw179_2),(zh HB hw179_3),(zh HB hw179_4),(zh HB hw179_5),(zh HB hw180_0),(zh HB hw180_1),(zh HB hw180_2),(zh HB hw180_3),(zh HB hw180_4),(zh HB hw180_5)⟩ (fun hHeld => ?_)
               clear hK K
               refine nz 7 ?_
               exact norm_ (by simp only [putAll,Act.put,xA,xB,xC]) (hCont (G181,G182) _ ⟨hHeld,(z1 K181.1),(z1 K182.1),GW181.1,GE181.1,NB182_181.1,NB181_182.1,GW182.1,GE182.1,(zH HB)⟩)
              ·skip
               refine box_step ?hg (N:=7) ?hd (cs:=#[.int .i64 0,.int .i64 0,.float .f64 0,.int .i64 0,.float .f64 0,.int .i64 0]) (t:=39) ?hr ?_;(case hd => rfl);(case hg => exact zw);(case hr => first|(go_simp;done)|(go_simp;rfl))
               intro G182 hg w35 hbox hb
               have K182:=Aside0.mk (hbox)
               have GW182:=zN HB hg
               have GE182:=zN HB hg
               replace HB:=zS HB hb
               clear hb hbox hg
               refine hK.out _ _ ⟨(zh HB hw179_0),(zh HB hw179_1),(zh HB hw179_2),(zh HB hw179_3),(zh HB hw179_4),(zh HB hw179_5),(zh HB hw180_0),(zh HB hw180_1),(zh HB hw180_2),(zh HB hw180_3),(zh HB hw180_4),(zh HB hw180_5)⟩ (fun hHeld => ?_)
               clear hK K
               refine nz 7 ?_
               refine one_ (i:=8) (N:=some 6) #[T,T,T,T,T,T,T,T,T,T,F,F] rfl rfl (one_of HT_.out (by kernel_rfl)) (by decide) (fun K hK => ?_)
               refine box_step ?hg (N:=6) ?hd (cs:=#[.int .i64 0,.int .i64 0,.float .f64 0,.int .i64 0,.float .f64 0,.int .i64 0]) (t:=39) ?hr ?_;(case hd => rfl);(case hg => exact zw);(case hr => first|(go_simp;done)|(go_simp;rfl))
               intro G181 hg w36 hbox hb
               have K181:=Aside0.mk (hbox)
               have GW181:=zN HB hg
               have GE181:=zN HB hg
               replace HB:=zS HB hb
               have NB182_181:=zL K182 hg
               have NB181_182:=zG K182 hg
               replace K182:=zB K182 hb
               clear hb hbox hg
               refine hK.out _ _ ⟨(zh HB hw179_0),(zh HB hw179_1),(zh HB hw179_2),(zh HB hw179_3),(zh HB hw179_4),(zh HB hw179_5),(zh HB hw180_0),(zh HB hw180_1),(zh HB hw180_2),(zh HB hw180_3),(zh HB hw180_4),(zh HB hw180_5)⟩ (fun hHeld => ?_)
               clear hK K
               refine nz 6 ?_
               exact norm_ (by simp only [putAll,Act.put,xA,xB,xC]) (hCont (G181,G182) _ ⟨hHeld,(z1 K181.1),(z1 K182.1),GW181.1,GE181.1,NB182_181.1,NB181_182.1,GW182.1,GE182.1,(zH HB)⟩)
             rintro ⟨G181,G182⟩ w37 ⟨hS_,h0_,h1_,h2_,h3_,h4_,h5_,h6_,h7_,h8_⟩
             have K181 : Aside0 (w37.heap[G181]? = some (.cells #[.int .i64 0,.int .i64 0,.float .f64 0,.int .i64 0,.float .f64 0,.int .i64 0] 39 (0,0))):=⟨h0_⟩
             have K182 : Aside0 (w37.heap[G182]? = some (.cells #[.int .i64 0,.int .i64 0,.float .f64 0,.int .i64 0,.float .f64 0,.int .i64 0] 39 (0,0))):=⟨h1_⟩
             have GW181 : Aside0 (w.heap.size ≤ G181):=⟨h2_⟩
             have GE181 : Aside0 (w.heap.size ≤ G181):=⟨h3_⟩
             have NB182_181 : Aside0 (G182 ≠ G181):=⟨h4_⟩
             have NB181_182 : Aside0 (G181 ≠ G182):=⟨h5_⟩
             have GW182 : Aside0 (w.heap.size ≤ G182):=⟨h6_⟩
             have GE182 : Aside0 (w.heap.size ≤ G182):=⟨h7_⟩
             replace HB : Aside0 (Below w.heap.size w w37):=⟨h8_⟩
             clear h0_ h1_ h2_ h3_ h4_ h5_ h6_ h7_ h8_
             have hHeld : w37.cell? (ad179.add ((x5_1).toNat * 6)) = some (.int .i64 ((rd_T39 l0 x5_1).f0)) ∧ w37.cell? ⟨(ad179.add ((x5_1).toNat * 6)).block,(ad179.add ((x5_1).toNat * 6)).off + 1,none⟩ = some (.int .i64 ((rd_T39 l0 x5_1).f1)) ∧ w37.cell? ⟨(ad179.add ((x5_1).toNat * 6)).block,(ad179.add ((x5_1).toNat * 6)).off + 2,none⟩ = some (.float .f64 ((rd_T39 l0 x5_1).f2)) ∧ w37.cell? ⟨(ad179.add ((x5_1).toNat * 6)).block,(ad179.add ((x5_1).toNat * 6)).off + 3,none⟩ = some (.int .i64 ((rd_T39 l0 x5_1).f3)) ∧ w37.cell? ⟨(ad179.add ((x5_1).toNat * 6)).block,(ad179.add ((x5_1).toNat * 6)).off + 4,none⟩ = some (.float .f64 ((rd_T39 l0 x5_1).f4)) ∧ w37.cell? ⟨(ad179.add ((x5_1).toNat * 6)).block,(ad179.add ((x5_1).toNat * 6)).off + 5,none⟩ = some (.int .i64 ((rd_T39 l0 x5_1).f5)) ∧ w37.cell? (ad180.add ((x5_1).toNat * 6)) = some (.int .i64 ((rd_T39 l1 x5_1).f0)) ∧ w37.cell? ⟨(ad180.add ((x5_1).toNat * 6)).block,(ad180.add ((x5_1).toNat * 6)).off + 1,none⟩ = some (.int .i64 ((rd_T39 l1 x5_1).f1)) ∧ w37.cell? ⟨(ad180.add ((x5_1).toNat * 6)).block,(ad180.add ((x5_1).toNat * 6)).off + 2,none⟩ = some (.float .f64 ((rd_T39 l1 x5_1).f2)) ∧ w37.cell? ⟨(ad180.add ((x5_1).toNat * 6)).block,(ad180.add ((x5_1).toNat * 6)).off + 3,none⟩ = some (.int .i64 ((rd_T39 l1 x5_1).f3)) ∧ w37.cell? ⟨(ad180.add ((x5_1).toNat * 6)).block,(ad180.add ((x5_1).toNat * 6)).off + 4,none⟩ = some (.float .f64 ((rd_T39 l1 x5_1).f4)) ∧ w37.cell? ⟨(ad180.add ((x5_1).toNat * 6)).block,(ad180.add ((x5_1).toNat * 6)).off + 5,none⟩ = some (.int .i64 ((rd_T39 l1 x5_1).f5)):=hS_
             refine norm_ (a':=?_) ?_ ?_
             rotate_left
             ·simp only [putAll,Act.put,xA,xB,xC]
              rfl
             refine one_ (i:=10) (N:=none) #[T,T,T,T,T,T,T,T,T,T,T,F] rfl rfl (one_of HT_.out (by kernel_rfl)) (by decide) (fun K hK => ?_)
             have hs38 : w37.cell? ⟨G181,0,none⟩ = some (.int .i64 0):=zk K181 0
             have hfs38:=bF K181.1 0
             have hns38_1:=NB182_181.1
             have hms38_1:=NB181_182.1
             have hs39 : w37.cell? ⟨G181,1,none⟩ = some (.int .i64 0):=zk K181 1
             have hfs39:=bF K181.1 1
             have hns39_1:=NB182_181.1
             have hms39_1:=NB181_182.1
             have hs40 : w37.cell? ⟨G181,2,none⟩ = some (.float .f64 0):=zk K181 2
             have hfs40:=bF K181.1 2
             have hns40_1:=NB182_181.1
             have hms40_1:=NB181_182.1
             have hs41 : w37.cell? ⟨G181,3,none⟩ = some (.int .i64 0):=zk K181 3
             have hfs41:=bF K181.1 3
             have hns41_1:=NB182_181.1
             have hms41_1:=NB181_182.1
             have hs42 : w37.cell? ⟨G181,4,none⟩ = some (.float .f64 0):=zk K181 4
             have hfs42:=bF K181.1 4
             have hns42_1:=NB182_181.1
             have hms42_1:=NB181_182.1
             have hs43 : w37.cell? ⟨G181,5,none⟩ = some (.int .i64 0):=zk K181 5
             have hfs43:=bF K181.1 5
             have hns43_1:=NB182_181.1
             have hms43_1:=NB181_182.1
             refine sz ?_
             refine hK.out _ _ ⟨((cF (p:=⟨G181,_,none⟩) (ne_c hw179_0 GW181.1) _).trans (((cF (p:=⟨G181,_,none⟩) (ne_c hw179_0 GW181.1) _).trans (((cF (p:=⟨G181,_,none⟩) (ne_c hw179_0 GW181.1) _).trans (((cF (p:=⟨G181,_,none⟩) (ne_c hw179_0 GW181.1) _).trans (((cF (p:=⟨G181,_,none⟩) (ne_c hw179_0 GW181.1) _).trans (((cF (p:=⟨G181,_,none⟩) (ne_c hw179_0 GW181.1) _).trans (hHeld.1)))))))))))),((cF (p:=⟨G181,_,none⟩) (ne_c hw179_1 GW181.1) _).trans (((cF (p:=⟨G181,_,none⟩) (ne_c hw179_1 GW181.1) _).trans (((cF (p:=⟨G181,_,none⟩) (ne_c hw179_1 GW181.1) _).trans (((cF (p:=⟨G181,_,none⟩) (ne_c hw179_1 GW181.1) _).trans (((cF (p:=⟨G181,_,none⟩) (ne_c hw179_1 GW181.1) _).trans (((cF (p:=⟨G181,_,none⟩) (ne_c hw179_1 GW181.1) _).trans (hHeld.2.1)))))))))))),((cF (p:=⟨G181,_,none⟩) (ne_c hw179_2 GW181.1) _).trans (((cF (p:=⟨G181,_,none⟩) (ne_c hw179_2 GW181.1) _).trans (((cF (p:=⟨G181,_,none⟩) (ne_c hw179_2 GW181.1) _).trans (((cF (p:=⟨G181,_,none⟩) (ne_c hw179_2 GW181.1) _).trans (((cF (p:=⟨G181,_,none⟩) (ne_c hw179_2 GW181.1) _).trans (((cF (p:=⟨G181,_,none⟩) (ne_c hw179_2 GW181.1) _).trans (hHeld.2.2.1)))))))))))),((cF (p:=⟨G181,_,none⟩) (ne_c hw179_3 GW181.1) _).trans (((cF (p:=⟨G181,_,none⟩) (ne_c hw179_3 GW181.1) _).trans (((cF (p:=⟨G181,_,none⟩) (ne_c hw179_3 GW181.1) _).trans (((cF (p:=⟨G181,_,none⟩) (ne_c hw179_3 GW181.1) _).trans (((cF (p:=⟨G181,_,none⟩) (ne_c hw179_3 GW181.1) _).trans (((cF (p:=⟨G181,_,none⟩) (ne_c hw179_3 GW181.1) _).trans (hHeld.2.2.2.1)))))))))))),((cF (p:=⟨G181,_,none⟩) (ne_c hw179_4 GW181.1) _).trans (((cF (p:=⟨G181,_,none⟩) (ne_c hw179_4 GW181.1) _).trans (((cF (p:=⟨G181,_,none⟩) (ne_c hw179_4 GW181.1) _).trans (((cF (p:=⟨G181,_,none⟩) (ne_c hw179_4 GW181.1) _).trans (((cF (p:=⟨G181,_,none⟩) (ne_c hw179_4 GW181.1) _).trans (((cF (p:=⟨G181,_,none⟩) (ne_c hw179_4 GW181.1) _).trans (hHeld.2.2.2.2.1)))))))))))),((cF (p:=⟨G181,_,none⟩) (ne_c hw179_5 GW181.1) _).trans (((cF (p:=⟨G181,_,none⟩) (ne_c hw179_5 GW181.1) _).trans (((cF (p:=⟨G181,_,none⟩) (ne_c hw179_5 GW181.1) _).trans (((cF (p:=⟨G181,_,none⟩) (ne_c hw179_5 GW181.1) _).trans (((cF (p:=⟨G181,_,none⟩) (ne_c hw179_5 GW181.1) _).trans (((cF (p:=⟨G181,_,none⟩) (ne_c hw179_5 GW181.1) _).trans (hHeld.2.2.2.2.2.1)))))))))))),((cF (p:=⟨G181,_,none⟩) (ne_c hw180_0 GW181.1) _).trans (((cF (p:=⟨G181,_,none⟩) (ne_c hw180_0 GW181.1) _).trans (((cF (p:=⟨G181,_,none⟩) (ne_c hw180_0 GW181.1) _).trans (((cF (p:=⟨G181,_,none⟩) (ne_c hw180_0 GW181.1) _).trans (((cF (p:=⟨G181,_,none⟩) (ne_c hw180_0 GW181.1) _).trans (((cF (p:=⟨G181,_,none⟩) (ne_c hw180_0 GW181.1) _).trans (hHeld.2.2.2.2.2.2.1)))))))))))),((cF (p:=⟨G181,_,none⟩) (ne_c hw180_1 GW181.1) _).trans (((cF (p:=⟨G181,_,none⟩) (ne_c hw180_1 GW181.1) _).trans (((cF (p:=⟨G181,_,none⟩) (ne_c hw180_1 GW181.1) _).trans (((cF (p:=⟨G181,_,none⟩) (ne_c hw180_1 GW181.1) _).trans (((cF (p:=⟨G181,_,none⟩) (ne_c hw180_1 GW181.1) _).trans (((cF (p:=⟨G181,_,none⟩) (ne_c hw180_1 GW181.1) _).trans (hHeld.2.2.2.2.2.2.2.1)))))))))))),((cF (p:=⟨G181,_,none⟩) (ne_c hw180_2 GW181.1) _).trans (((cF (p:=⟨G181,_,none⟩) (ne_c hw180_2 GW181.1) _).trans (((cF (p:=⟨G181,_,none⟩) (ne_c hw180_2 GW181.1) _).trans (((cF (p:=⟨G181,_,none⟩) (ne_c hw180_2 GW181.1) _).trans (((cF (p:=⟨G181,_,none⟩) (ne_c hw180_2 GW181.1) _).trans (((cF (p:=⟨G181,_,none⟩) (ne_c hw180_2 GW181.1) _).trans (hHeld.2.2.2.2.2.2.2.2.1)))))))))))),((cF (p:=⟨G181,_,none⟩) (ne_c hw180_3 GW181.1) _).trans (((cF (p:=⟨G181,_,none⟩) (ne_c hw180_3 GW181.1) _).trans (((cF (p:=⟨G181,_,none⟩) (ne_c hw180_3 GW181.1) _).trans (((cF (p:=⟨G181,_,none⟩) (ne_c hw180_3 GW181.1) _).trans (((cF (p:=⟨G181,_,none⟩) (ne_c hw180_3 GW181.1) _).trans (((cF (p:=⟨G181,_,none⟩) (ne_c hw180_3 GW181.1) _).trans (hHeld.2.2.2.2.2.2.2.2.2.1)))))))))))),((cF (p:=⟨G181,_,none⟩) (ne_c hw180_4 GW181.1) _).trans (((cF (p:=⟨G181,_,none⟩) (ne_c hw180_4 GW181.1) _).trans (((cF (p:=⟨G181,_,none⟩) (ne_c hw180_4 GW181.1) _).trans (((cF (p:=⟨G181,_,none⟩) (ne_c hw180_4 GW181.1) _).trans (((cF (p:=⟨G181,_,none⟩) (ne_c hw180_4 GW181.1) _).trans (((cF (p:=⟨G181,_,none⟩) (ne_c hw180_4 GW181.1) _).trans (hHeld.2.2.2.2.2.2.2.2.2.2.1)))))))))))),((cF (p:=⟨G181,_,none⟩) (ne_c hw180_5 GW181.1) _).trans (((cF (p:=⟨G181,_,none⟩) (ne_c hw180_5 GW181.1) _).trans (((cF (p:=⟨G181,_,none⟩) (ne_c hw180_5 GW181.1) _).trans (((cF (p:=⟨G181,_,none⟩) (ne_c hw180_5 GW181.1) _).trans (((cF (p:=⟨G181,_,none⟩) (ne_c hw180_5 GW181.1) _).trans (((cF (p:=⟨G181,_,none⟩) (ne_c hw180_5 GW181.1) _).trans (hHeld.2.2.2.2.2.2.2.2.2.2.2))))))))))))⟩ (fun hHeld => ?_)
             clear hK K
             refine one_ (i:=11) (N:=none) #[T,T,T,T,T,T,T,T,T,T,T,T] rfl rfl (one_of HT_.out (by kernel_rfl)) (by decide) (fun K hK => ?_)
             have hs44 : w37.cell? ⟨G182,0,none⟩ = some (.int .i64 0):=zk K182 0
             have hfs44:=bF K182.1 0
             have hns44_0:=NB181_182.1
             have hms44_0:=NB182_181.1
             have hs45 : w37.cell? ⟨G182,1,none⟩ = some (.int .i64 0):=zk K182 1
             have hfs45:=bF K182.1 1
             have hns45_0:=NB181_182.1
             have hms45_0:=NB182_181.1
             have hs46 : w37.cell? ⟨G182,2,none⟩ = some (.float .f64 0):=zk K182 2
             have hfs46:=bF K182.1 2
             have hns46_0:=NB181_182.1
             have hms46_0:=NB182_181.1
             have hs47 : w37.cell? ⟨G182,3,none⟩ = some (.int .i64 0):=zk K182 3
             have hfs47:=bF K182.1 3
             have hns47_0:=NB181_182.1
             have hms47_0:=NB182_181.1
             have hs48 : w37.cell? ⟨G182,4,none⟩ = some (.float .f64 0):=zk K182 4
             have hfs48:=bF K182.1 4
             have hns48_0:=NB181_182.1
             have hms48_0:=NB182_181.1
             have hs49 : w37.cell? ⟨G182,5,none⟩ = some (.int .i64 0):=zk K182 5
             have hfs49:=bF K182.1 5
             have hns49_0:=NB181_182.1
             have hms49_0:=NB182_181.1
             refine sz ?_
             refine hK.out _ _ ⟨((cF (p:=⟨G182,_,none⟩) (ne_c hw179_0 GW182.1) _).trans (((cF (p:=⟨G182,_,none⟩) (ne_c hw179_0 GW182.1) _).trans (((cF (p:=⟨G182,_,none⟩) (ne_c hw179_0 GW182.1) _).trans (((cF (p:=⟨G182,_,none⟩) (ne_c hw179_0 GW182.1) _).trans (((cF (p:=⟨G182,_,none⟩) (ne_c hw179_0 GW182.1) _).trans (((cF (p:=⟨G182,_,none⟩) (ne_c hw179_0 GW182.1) _).trans (hHeld.1)))))))))))),((cF (p:=⟨G182,_,none⟩) (ne_c hw179_1 GW182.1) _).trans (((cF (p:=⟨G182,_,none⟩) (ne_c hw179_1 GW182.1) _).trans (((cF (p:=⟨G182,_,none⟩) (ne_c hw179_1 GW182.1) _).trans (((cF (p:=⟨G182,_,none⟩) (ne_c hw179_1 GW182.1) _).trans (((cF (p:=⟨G182,_,none⟩) (ne_c hw179_1 GW182.1) _).trans (((cF (p:=⟨G182,_,none⟩) (ne_c hw179_1 GW182.1) _).trans (hHeld.2.1)))))))))))),((cF (p:=⟨G182,_,none⟩) (ne_c hw179_2 GW182.1) _).trans (((cF (p:=⟨G182,_,none⟩) (ne_c hw179_2 GW182.1) _).trans (((cF (p:=⟨G182,_,none⟩) (ne_c hw179_2 GW182.1) _).trans (((cF (p:=⟨G182,_,none⟩) (ne_c hw179_2 GW182.1) _).trans (((cF (p:=⟨G182,_,none⟩) (ne_c hw179_2 GW182.1) _).trans (((cF (p:=⟨G182,_,none⟩) (ne_c hw179_2 GW182.1) _).trans (hHeld.2.2.1)))))))))))),((cF (p:=⟨G182,_,none⟩) (ne_c hw179_3 GW182.1) _).trans (((cF (p:=⟨G182,_,none⟩) (ne_c hw179_3 GW182.1) _).trans (((cF (p:=⟨G182,_,none⟩) (ne_c hw179_3 GW182.1) _).trans (((cF (p:=⟨G182,_,none⟩) (ne_c hw179_3 GW182.1) _).trans (((cF (p:=⟨G182,_,none⟩) (ne_c hw179_3 GW182.1) _).trans (((cF (p:=⟨G182,_,none⟩) (ne_c hw179_3 GW182.1) _).trans (hHeld.2.2.2.1)))))))))))),((cF (p:=⟨G182,_,none⟩) (ne_c hw179_4 GW182.1) _).trans (((cF (p:=⟨G182,_,none⟩) (ne_c hw179_4 GW182.1) _).trans (((cF (p:=⟨G182,_,none⟩) (ne_c hw179_4 GW182.1) _).trans (((cF (p:=⟨G182,_,none⟩) (ne_c hw179_4 GW182.1) _).trans (((cF (p:=⟨G182,_,none⟩) (ne_c hw179_4 GW182.1) _).trans (((cF (p:=⟨G182,_,none⟩) (ne_c hw179_4 GW182.1) _).trans (hHeld.2.2.2.2.1)))))))))))),((cF (p:=⟨G182,_,none⟩) (ne_c hw179_5 GW182.1) _).trans (((cF (p:=⟨G182,_,none⟩) (ne_c hw179_5 GW182.1) _).trans (((cF (p:=⟨G182,_,none⟩) (ne_c hw179_5 GW182.1) _).trans (((cF (p:=⟨G182,_,none⟩) (ne_c hw179_5 GW182.1) _).trans (((cF (p:=⟨G182,_,none⟩) (ne_c hw179_5 GW182.1) _).trans (((cF (p:=⟨G182,_,none⟩) (ne_c hw179_5 GW182.1) _).trans (hHeld.2.2.2.2.2.1)))))))))))),((cF (p:=⟨G182,_,none⟩) (ne_c hw180_0 GW182.1) _).trans (((cF (p:=⟨G182,_,none⟩) (ne_c hw180_0 GW182.1) _).trans (((cF (p:=⟨G182,_,none⟩) (ne_c hw180_0 GW182.1) _).trans (((cF (p:=⟨G182,_,none⟩) (ne_c hw180_0 GW182.1) _).trans (((cF (p:=⟨G182,_,none⟩) (ne_c hw180_0 GW182.1) _).trans (((cF (p:=⟨G182,_,none⟩) (ne_c hw180_0 GW182.1) _).trans (hHeld.2.2.2.2.2.2.1)))))))))))),((cF (p:=⟨G182,_,none⟩) (ne_c hw180_1 GW182.1) _).trans (((cF (p:=⟨G182,_,none⟩) (ne_c hw180_1 GW182.1) _).trans (((cF (p:=⟨G182,_,none⟩) (ne_c hw180_1 GW182.1) _).trans (((cF (p:=⟨G182,_,none⟩) (ne_c hw180_1 GW182.1) _).trans (((cF (p:=⟨G182,_,none⟩) (ne_c hw180_1 GW182.1) _).trans (((cF (p:=⟨G182,_,none⟩) (ne_c hw180_1 GW182.1) _).trans (hHeld.2.2.2.2.2.2.2.1)))))))))))),((cF (p:=⟨G182,_,none⟩) (ne_c hw180_2 GW182.1) _).trans (((cF (p:=⟨G182,_,none⟩) (ne_c hw180_2 GW182.1) _).trans (((cF (p:=⟨G182,_,none⟩) (ne_c hw180_2 GW182.1) _).trans (((cF (p:=⟨G182,_,none⟩) (ne_c hw180_2 GW182.1) _).trans (((cF (p:=⟨G182,_,none⟩) (ne_c hw180_2 GW182.1) _).trans (((cF (p:=⟨G182,_,none⟩) (ne_c hw180_2 GW182.1) _).trans (hHeld.2.2.2.2.2.2.2.2.1)))))))))))),((cF (p:=⟨G182,_,none⟩) (ne_c hw180_3 GW182.1) _).trans (((cF (p:=⟨G182,_,none⟩) (ne_c hw180_3 GW182.1) _).trans (((cF (p:=⟨G182,_,none⟩) (ne_c hw180_3 GW182.1) _).trans (((cF (p:=⟨G182,_,none⟩) (ne_c hw180_3 GW182.1) _).trans (((cF (p:=⟨G182,_,none⟩) (ne_c hw180_3 GW182.1) _).trans (((cF (p:=⟨G182,_,none⟩) (ne_c hw180_3 GW182.1) _).trans (hHeld.2.2.2.2.2.2.2.2.2.1)))))))))))),((cF (p:=⟨G182,_,none⟩) (ne_c hw180_4 GW182.1) _).trans (((cF (p:=⟨G182,_,none⟩) (ne_c hw180_4 GW182.1) _).trans (((cF (p:=⟨G182,_,none⟩) (ne_c hw180_4 GW182.1) _).trans (((cF (p:=⟨G182,_,none⟩) (ne_c hw180_4 GW182.1) _).trans (((cF (p:=⟨G182,_,none⟩) (ne_c hw180_4 GW182.1) _).trans (((cF (p:=⟨G182,_,none⟩) (ne_c hw180_4 GW182.1) _).trans (hHeld.2.2.2.2.2.2.2.2.2.2.1)))))))))))),((cF (p:=⟨G182,_,none⟩) (ne_c hw180_5 GW182.1) _).trans (((cF (p:=⟨G182,_,none⟩) (ne_c hw180_5 GW182.1) _).trans (((cF (p:=⟨G182,_,none⟩) (ne_c hw180_5 GW182.1) _).trans (((cF (p:=⟨G182,_,none⟩) (ne_c hw180_5 GW182.1) _).trans (((cF (p:=⟨G182,_,none⟩) (ne_c hw180_5 GW182.1) _).trans (((cF (p:=⟨G182,_,none⟩) (ne_c hw180_5 GW182.1) _).trans (hHeld.2.2.2.2.2.2.2.2.2.2.2))))))))))))⟩ (fun hHeld => ?_)
             clear hK K
             refine done_ (done_of HT_.out (by kernel_rfl)) ?_
             have hnb50:=NB181_182.1
             have hnc50:=NB182_181.1
             have hcz51_0 : w37.cell? ⟨G181,0,none⟩ = some (.int .i64 0):=zk K181 0
             have hcz51_1 : w37.cell? ⟨G181,1,none⟩ = some (.int .i64 0):=zk K181 1
             have hcz51_2 : w37.cell? ⟨G181,2,none⟩ = some (.float .f64 0):=zk K181 2
             have hcz51_3 : w37.cell? ⟨G181,3,none⟩ = some (.int .i64 0):=zk K181 3
             have hcz51_4 : w37.cell? ⟨G181,4,none⟩ = some (.float .f64 0):=zk K181 4
             have hcz51_5 : w37.cell? ⟨G181,5,none⟩ = some (.int .i64 0):=zk K181 5
             have hfz51_0:=bF K181.1 0
             have hfz51_1:=bF K181.1 1
             have hfz51_2:=bF K181.1 2
             have hfz51_3:=bF K181.1 3
             have hfz51_4:=bF K181.1 4
             have hfz51_5:=bF K181.1 5
             have hcz52_0 : w37.cell? ⟨G182,0,none⟩ = some (.int .i64 0):=zk K182 0
             have hcz52_1 : w37.cell? ⟨G182,1,none⟩ = some (.int .i64 0):=zk K182 1
             have hcz52_2 : w37.cell? ⟨G182,2,none⟩ = some (.float .f64 0):=zk K182 2
             have hcz52_3 : w37.cell? ⟨G182,3,none⟩ = some (.int .i64 0):=zk K182 3
             have hcz52_4 : w37.cell? ⟨G182,4,none⟩ = some (.float .f64 0):=zk K182 4
             have hcz52_5 : w37.cell? ⟨G182,5,none⟩ = some (.int .i64 0):=zk K182 5
             have hfz52_0:=bF K182.1 0
             have hfz52_1:=bF K182.1 1
             have hfz52_2:=bF K182.1 2
             have hfz52_3:=bF K182.1 3
             have hfz52_4:=bF K182.1 4
             have hfz52_5:=bF K182.1 5
             try go_wp2_with (first|(go_at_call 52;(with_reducible refine (beaconref01_Same.calls ((rd_T39 l0 x5_1).f2) ((rd_T39 l1 x5_1).f2) true _ A11.out).mono ?_);rintro e w' ⟨rfl,⟨nd,rfl⟩⟩)|(go_at_call 52;(with_reducible refine (beaconref01_Same.calls ((rd_T39 l0 x5_1).f4) ((rd_T39 l1 x5_1).f4) false _ A13.out).mono ?_);rintro e w' ⟨rfl,⟨nd,rfl⟩⟩))
             go_ret
             exact ⟨by first|rfl|(simp [errW_none,errW_some] <;> rfl)|(simp [*,errW_none,errW_some] <;> rfl),zH HB⟩
           ·replace c12:=Bool.eq_false_iff.mpr c12
            subst c12
            have H1 : (some false) = some r:=by rw [if_neg (show ¬ (false = true) by decide)] at H;exact H
            clear H
            have H:=H1
            clear H1
            obtain rfl:=Option.some.inj H
            try go_wp2
            replace HB:=Aside0.mk (bw1 HB.1)
            have p179 : 0 ≤ (x5_1 : Int):=zd
            have q179 : x5_1 < (l0.length : Int):=zd
            obtain ⟨ad179,e179,hx179_0,hx179_1,hx179_2,hx179_3,hx179_4,hx179_5⟩:=at_T39 HR0.out x5_1 p179 q179
            have hw179_5:=hx179_5
            have hw179_4:=hx179_4
            have hw179_3:=hx179_3
            have hw179_2:=hx179_2
            have hw179_1:=hx179_1
            have hw179_0:=hx179_0
            cases e179
            replace hx179_0:=zh HB hx179_0
            replace hx179_1:=zh HB hx179_1
            replace hx179_2:=zh HB hx179_2
            replace hx179_3:=zh HB hx179_3
            replace hx179_4:=zh HB hx179_4
            replace hx179_5:=zh HB hx179_5
            replace p179:=eq_true p179
            replace q179:=eq_true q179
            have p180 : 0 ≤ (x5_1 : Int):=zd
            have q180 : x5_1 < (l1.length : Int):=zd
            obtain ⟨ad180,e180,hx180_0,hx180_1,hx180_2,hx180_3,hx180_4,hx180_5⟩:=at_T39 HR1.out x5_1 p180 q180
            have hw180_5:=hx180_5
            have hw180_4:=hx180_4
            have hw180_3:=hx180_3
            have hw180_2:=hx180_2
            have hw180_1:=hx180_1
            have hw180_0:=hx180_0
            cases e180
            replace hx180_0:=zh HB hx180_0
            replace hx180_1:=zh HB hx180_1
            replace hx180_2:=zh HB hx180_2
            replace hx180_3:=zh HB hx180_3
            replace hx180_4:=zh HB hx180_4
            replace hx180_5:=zh HB hx180_5
            replace p180:=eq_true p180
            replace q180:=eq_true q180
            refine start_ (n:=12) (S:=fun w' => w'.cell? (ad179.add ((x5_1).toNat * 6)) = some (.int .i64 ((rd_T39 l0 x5_1).f0)) ∧ w'.cell? ⟨(ad179.add ((x5_1).toNat * 6)).block,(ad179.add ((x5_1).toNat * 6)).off + 1,none⟩ = some (.int .i64 ((rd_T39 l0 x5_1).f1)) ∧ w'.cell? ⟨(ad179.add ((x5_1).toNat * 6)).block,(ad179.add ((x5_1).toNat * 6)).off + 2,none⟩ = some (.float .f64 ((rd_T39 l0 x5_1).f2)) ∧ w'.cell? ⟨(ad179.add ((x5_1).toNat * 6)).block,(ad179.add ((x5_1).toNat * 6)).off + 3,none⟩ = some (.int .i64 ((rd_T39 l0 x5_1).f3)) ∧ w'.cell? ⟨(ad179.add ((x5_1).toNat * 6)).block,(ad179.add ((x5_1).toNat * 6)).off + 4,none⟩ = some (.float .f64 ((rd_T39 l0 x5_1).f4)) ∧ w'.cell? ⟨(ad179.add ((x5_1).toNat * 6)).block,(ad179.add ((x5_1).toNat * 6)).off + 5,none⟩ = some (.int .i64 ((rd_T39 l0 x5_1).f5)) ∧ w'.cell? (ad180.add ((x5_1).toNat * 6)) = some (.int .i64 ((rd_T39 l1 x5_1).f0)) ∧ w'.cell? ⟨(ad180.add ((x5_1).toNat * 6)).block,(ad180.add ((x5_1).toNat * 6)).off + 1,none⟩ = some (.int .i64 ((rd_T39 l1 x5_1).f1)) ∧ w'.cell? ⟨(ad180.add ((x5_1).toNat * 6)).block,(ad180.add ((x5_1).toNat * 6)).off + 2,none⟩ = some (.float .f64 ((rd_T39 l1 x5_1).f2)) ∧ w'.cell? ⟨(ad180.add ((x5_1).toNat * 6)).block,(ad180.add ((x5_1).toNat * 6)).off + 3,none⟩ = some (.int .i64 ((rd_T39 l1 x5_1).f3)) ∧ w'.cell? ⟨(ad180.add ((x5_1).toNat * 6)).block,(ad180.add ((x5_1).toNat * 6)).off + 4,none⟩ = some (.float .f64 ((rd_T39 l1 x5_1).f4)) ∧ w'.cell? ⟨(ad180.add ((x5_1).toNat * 6)).block,(ad180.add ((x5_1).toNat * 6)).off + 5,none⟩ = some (.int .i64 ((rd_T39 l1 x5_1).f5))) (ds:=[]) #[F,F,F,F,F,F,F,F,F,F,F,F] (by kernel_rfl) rfl rfl ⟨(zh HB hw179_0),(zh HB hw179_1),(zh HB hw179_2),(zh HB hw179_3),(zh HB hw179_4),(zh HB hw179_5),(zh HB hw180_0),(zh HB hw180_1),(zh HB hw180_2),(zh HB hw180_3),(zh HB hw180_4),(zh HB hw180_5)⟩ (fun hHeld => ?_);refine with_tabW beaconref09_SameEntries.tab6 beaconref09_SameEntries.bits6 (fun HT_ HW_ => ?_)
            generalize wr.drew = w53 at HB hx179_0 hx179_1 hx179_2 hx179_3 hx179_4 hx179_5 hx180_0 hx180_1 hx180_2 hx180_3 hx180_4 hx180_5 hHeld ⊢
            refine pz 0 19 #[T,F,F,F,F,F,F,F,F,F,F,F] HT_.1 ?_
            refine pz 1 20 #[T,T,F,F,F,F,F,F,F,F,F,F] HT_.1 ?_
            refine pz 2 21 #[T,T,T,F,F,F,F,F,F,F,F,F] HT_.1 ?_
            refine pz 4 23 #[T,T,T,F,T,F,F,F,F,F,F,F] HT_.1 ?_
            refine pz 5 24 #[T,T,T,F,T,T,F,F,F,F,F,F] HT_.1 ?_
            refine pz 6 25 #[T,T,T,F,T,T,T,F,F,F,F,F] HT_.1 ?_
            refine tz 3 22 #[T,T,T,T,T,T,T,F,F,F,F,F] HT_.1 HW_.1 hHeld ?_
            refine tz 7 26 #[T,T,T,T,T,T,T,T,F,F,F,F] HT_.1 HW_.1 hHeld ?_
            refine join_ (σ:=Nat × Nat) 2 #[T,T,T,T,T,T,T,T,T,T,F,F] (fun s_ => [(6,.pointer (some ⟨s_.1,0,none⟩)),(7,.pointer (some ⟨s_.2,0,none⟩))]) (fun s_ w' => (w'.cell? (ad179.add ((x5_1).toNat * 6)) = some (.int .i64 ((rd_T39 l0 x5_1).f0)) ∧ w'.cell? ⟨(ad179.add ((x5_1).toNat * 6)).block,(ad179.add ((x5_1).toNat * 6)).off + 1,none⟩ = some (.int .i64 ((rd_T39 l0 x5_1).f1)) ∧ w'.cell? ⟨(ad179.add ((x5_1).toNat * 6)).block,(ad179.add ((x5_1).toNat * 6)).off + 2,none⟩ = some (.float .f64 ((rd_T39 l0 x5_1).f2)) ∧ w'.cell? ⟨(ad179.add ((x5_1).toNat * 6)).block,(ad179.add ((x5_1).toNat * 6)).off + 3,none⟩ = some (.int .i64 ((rd_T39 l0 x5_1).f3)) ∧ w'.cell? ⟨(ad179.add ((x5_1).toNat * 6)).block,(ad179.add ((x5_1).toNat * 6)).off + 4,none⟩ = some (.float .f64 ((rd_T39 l0 x5_1).f4)) ∧ w'.cell? ⟨(ad179.add ((x5_1).toNat * 6)).block,(ad179.add ((x5_1).toNat * 6)).off + 5,none⟩ = some (.int .i64 ((rd_T39 l0 x5_1).f5)) ∧ w'.cell? (ad180.add ((x5_1).toNat * 6)) = some (.int .i64 ((rd_T39 l1 x5_1).f0)) ∧ w'.cell? ⟨(ad180.add ((x5_1).toNat * 6)).block,(ad180.add ((x5_1).toNat * 6)).off + 1,none⟩ = some (.int .i64 ((rd_T39 l1 x5_1).f1)) ∧ w'.cell? ⟨(ad180.add ((x5_1).toNat * 6)).block,(ad180.add ((x5_1).toNat * 6)).off + 2,none⟩ = some (.float .f64 ((rd_T39 l1 x5_1).f2)) ∧ w'.cell? ⟨(ad180.add ((x5_1).toNat * 6)).block,(ad180.add ((x5_1).toNat * 6)).off + 3,none⟩ = some (.int .i64 ((rd_T39 l1 x5_1).f3)) ∧ w'.cell? ⟨(ad180.add ((x5_1).toNat * 6)).block,(ad180.add ((x5_1).toNat * 6)).off + 4,none⟩ = some (.float .f64 ((rd_T39 l1 x5_1).f4)) ∧ w'.cell? ⟨(ad180.add ((x5_1).toNat * 6)).block,(ad180.add ((x5_1).toNat * 6)).off + 5,none⟩ = some (.int .i64 ((rd_T39 l1 x5_1).f5))) ∧ (w'.heap[s_.1]? = some (.cells #[.int .i64 0,.int .i64 0,.float .f64 0,.int .i64 0,.float .f64 0,.int .i64 0] 39 (0,0))) ∧ (w'.heap[s_.2]? = some (.cells #[.int .i64 0,.int .i64 0,.float .f64 0,.int .i64 0,.float .f64 0,.int .i64 0] 39 (0,0))) ∧ (w.heap.size ≤ s_.1) ∧ (w.heap.size ≤ s_.1) ∧ (s_.2 ≠ s_.1) ∧ (s_.1 ≠ s_.2) ∧ (w.heap.size ≤ s_.2) ∧ (w.heap.size ≤ s_.2) ∧ (Below w.heap.size w w')) ?_ ?_
            rotate_left
            ·intro hCont
             refine two_ (i:=8) (j:=9) (Ni:=some 6) (Nj:=some 7) #[T,T,T,T,T,T,T,T,T,F,F,F] #[T,T,T,T,T,T,T,T,F,T,F,F] rfl rfl rfl rfl (two_of HT_.out (by kernel_rfl)) (by decide) (by decide) (fun K hK => ?_) (fun K hK => ?_)
             ·skip
              refine box_step ?hg (N:=6) ?hd (cs:=#[.int .i64 0,.int .i64 0,.float .f64 0,.int .i64 0,.float .f64 0,.int .i64 0]) (t:=39) ?hr ?_;(case hd => rfl);(case hg => exact zw);(case hr => first|(go_simp;done)|(go_simp;rfl))
              intro G181 hg w54 hbox hb
              have K181:=Aside0.mk (hbox)
              have GW181:=zN HB hg
              have GE181:=zN HB hg
              replace HB:=zS HB hb
              clear hb hbox hg
              refine hK.out _ _ ⟨(zh HB hw179_0),(zh HB hw179_1),(zh HB hw179_2),(zh HB hw179_3),(zh HB hw179_4),(zh HB hw179_5),(zh HB hw180_0),(zh HB hw180_1),(zh HB hw180_2),(zh HB hw180_3),(zh HB hw180_4),(zh HB hw180_5)⟩ (fun hHeld => ?_)
              clear hK K
              refine nz 6 ?_
              refine one_ (i:=9) (N:=some 7) #[T,T,T,T,T,T,T,T,T,T,F,F] rfl rfl (one_of HT_.out (by kernel_rfl)) (by decide) (fun K hK => ?_)
              refine box_step ?hg (N:=7) ?hd (cs:=#[.int .i64 0,.int .i64 0,.float .f64 0,.int .i64 0,.float .f64 0,.int .i64 0]) (t:=39) ?hr ?_;(case hd => rfl);(case hg => exact zw);(case hr => first|(go_simp;done)|(go_simp;rfl))
              intro G182 hg w55 hbox hb
              have K182:=Aside0.mk (hbox)
              have GW182:=zN HB hg
              have GE182:=zN HB hg
              replace HB:=zS HB hb
              have NB181_182:=zL K181 hg
              have NB182_181:=zG K181 hg
              replace K181:=zB K181 hb
              clear hb hbox hg
              refine hK.out _ _ ⟨(zh HB hw179_0),(zh HB hw179_1),(zh HB hw179_2),(zh HB hw179_3),(zh HB hw179_4),(zh HB hw179_5),(zh HB hw180_0),(zh HB hw180_1),(zh HB hw180_2),(zh HB hw180_3),(zh HB hw180_4),(zh HB hw180_5)⟩ (fun hHeld => ?_)
              clear hK K
              refine nz 7 ?_
              exact norm_ (by simp only [putAll,Act.put,xA,xB,xC]) (hCont (G181,G182) _ ⟨hHeld,(z1 K181.1),(z1 K182.1),GW181.1,GE181.1,NB182_181.1,NB181_182.1,GW182.1,GE182.1,(zH HB)⟩)
             ·skip
              refine box_step ?hg (N:=7) ?hd (cs:=#[.int .i64 0,.int .i64 0,.float .f64 0,.int .i64 0,.float .f64 0,.int .i64 0]) (t:=39) ?hr ?_;(case hd => rfl);(case hg => exact zw);(case hr => first|(go_simp;done)|(go_simp;rfl))
              intro G182 hg w54 hbox hb
              have K182:=Aside0.mk (hbox)
              have GW182:=zN HB hg
              have GE182:=zN HB hg
              replace HB:=zS HB hb
              clear hb hbox hg
              refine hK.out _ _ ⟨(zh HB hw179_0),(zh HB hw179_1),(zh HB hw179_2),(zh HB hw179_3),(zh HB hw179_4),(zh HB hw179_5),(zh HB hw180_0),(zh HB hw180_1),(zh HB hw180_2),(zh HB hw180_3),(zh HB hw180_4),(zh HB hw180_5)⟩ (fun hHeld => ?_)
              clear hK K
              refine nz 7 ?_
              refine one_ (i:=8) (N:=some 6) #[T,T,T,T,T,T,T,T,T,T,F,F] rfl rfl (one_of HT_.out (by kernel_rfl)) (by decide) (fun K hK => ?_)
              refine box_step ?hg (N:=6) ?hd (cs:=#[.int .i64 0,.int .i64 0,.float .f64 0,.int .i64 0,.float .f64 0,.int .i64 0]) (t:=39) ?hr ?_;(case hd => rfl);(case hg => exact zw);(case hr => first|(go_simp;done)|(go_simp;rfl))
              intro G181 hg w55 hbox hb
              have K181:=Aside0.mk (hbox)
              have GW181:=zN HB hg
              have GE181:=zN HB hg
              replace HB:=zS HB hb
              have NB182_181:=zL K182 hg
              have NB181_182:=zG K182 hg
              replace K182:=zB K182 hb
              clear hb hbox hg
              refine hK.out _ _ ⟨(zh HB hw179_0),(zh HB hw179_1),(zh HB hw179_2),(zh HB hw179_3),(zh HB hw179_4),(zh HB hw179_5),(zh HB hw180_0),(zh HB hw180_1),(zh HB hw180_2),(zh HB hw180_3),(zh HB hw180_4),(zh HB hw180_5)⟩ (fun hHeld => ?_)
              clear hK K
              refine nz 6 ?_
              exact norm_ (by simp only [putAll,Act.put,xA,xB,xC]) (hCont (G181,G182) _ ⟨hHeld,(z1 K181.1),(z1 K182.1),GW181.1,GE181.1,NB182_181.1,NB181_182.1,GW182.1,GE182.1,(zH HB)⟩)
            rintro ⟨G181,G182⟩ w56 ⟨hS_,h0_,h1_,h2_,h3_,h4_,h5_,h6_,h7_,h8_⟩
            have K181 : Aside0 (w56.heap[G181]? = some (.cells #[.int .i64 0,.int .i64 0,.float .f64 0,.int .i64 0,.float .f64 0,.int .i64 0] 39 (0,0))):=⟨h0_⟩
            have K182 : Aside0 (w56.heap[G182]? = some (.cells #[.int .i64 0,.int .i64 0,.float .f64 0,.int .i64 0,.float .f64 0,.int .i64 0] 39 (0,0))):=⟨h1_⟩
            have GW181 : Aside0 (w.heap.size ≤ G181):=⟨h2_⟩
            have GE181 : Aside0 (w.heap.size ≤ G181):=⟨h3_⟩
            have NB182_181 : Aside0 (G182 ≠ G181):=⟨h4_⟩
            have NB181_182 : Aside0 (G181 ≠ G182):=⟨h5_⟩
            have GW182 : Aside0 (w.heap.size ≤ G182):=⟨h6_⟩
            have GE182 : Aside0 (w.heap.size ≤ G182):=⟨h7_⟩
            replace HB : Aside0 (Below w.heap.size w w56):=⟨h8_⟩
            clear h0_ h1_ h2_ h3_ h4_ h5_ h6_ h7_ h8_
            have hHeld : w56.cell? (ad179.add ((x5_1).toNat * 6)) = some (.int .i64 ((rd_T39 l0 x5_1).f0)) ∧ w56.cell? ⟨(ad179.add ((x5_1).toNat * 6)).block,(ad179.add ((x5_1).toNat * 6)).off + 1,none⟩ = some (.int .i64 ((rd_T39 l0 x5_1).f1)) ∧ w56.cell? ⟨(ad179.add ((x5_1).toNat * 6)).block,(ad179.add ((x5_1).toNat * 6)).off + 2,none⟩ = some (.float .f64 ((rd_T39 l0 x5_1).f2)) ∧ w56.cell? ⟨(ad179.add ((x5_1).toNat * 6)).block,(ad179.add ((x5_1).toNat * 6)).off + 3,none⟩ = some (.int .i64 ((rd_T39 l0 x5_1).f3)) ∧ w56.cell? ⟨(ad179.add ((x5_1).toNat * 6)).block,(ad179.add ((x5_1).toNat * 6)).off + 4,none⟩ = some (.float .f64 ((rd_T39 l0 x5_1).f4)) ∧ w56.cell? ⟨(ad179.add ((x5_1).toNat * 6)).block,(ad179.add ((x5_1).toNat * 6)).off + 5,none⟩ = some (.int .i64 ((rd_T39 l0 x5_1).f5)) ∧ w56.cell? (ad180.add ((x5_1).toNat * 6)) = some (.int .i64 ((rd_T39 l1 x5_1).f0)) ∧ w56.cell? ⟨(ad180.add ((x5_1).toNat * 6)).block,(ad180.add ((x5_1).toNat * 6)).off + 1,none⟩ = some (.int .i64 ((rd_T39 l1 x5_1).f1)) ∧ w56.cell? ⟨(ad180.add ((x5_1).toNat * 6)).block,(ad180.add ((x5_1).toNat * 6)).off + 2,none⟩ = some (.float .f64 ((rd_T39 l1 x5_1).f2)) ∧ w56.cell? ⟨(ad180.add ((x5_1).toNat * 6)).block,(ad180.add ((x5_1).toNat * 6)).off + 3,none⟩ = some (.int .i64 ((rd_T39 l1 x5_1).f3)) ∧ w56.cell? ⟨(ad180.add ((x5_1).toNat * 6)).block,(ad180.add ((x5_1).toNat * 6)).off + 4,none⟩ = some (.float .f64 ((rd_T39 l1 x5_1).f4)) ∧ w56.cell? ⟨(ad180.add ((x5_1).toNat * 6)).block,(ad180.add ((x5_1).toNat * 6)).off + 5,none⟩ = some (.int .i64 ((rd_T39 l1 x5_1).f5)):=hS_
            refine norm_ (a':=?_) ?_ ?_
            rotate_left
            ·simp only [putAll,Act.put,xA,xB,xC]
             rfl
            refine one_ (i:=10) (N:=none) #[T,T,T,T,T,T,T,T,T,T,T,F] rfl rfl (one_of HT_.out (by kernel_rfl)) (by decide) (fun K hK => ?_)
            have hs57 : w56.cell? ⟨G181,0,none⟩ = some (.int .i64 0):=zk K181 0
            have hfs57:=bF K181.1 0
            have hns57_1:=NB182_181.1
            have hms57_1:=NB181_182.1
            have hs58 : w56.cell? ⟨G181,1,none⟩ = some (.int .i64 0):=zk K181 1
            have hfs58:=bF K181.1 1
            have hns58_1:=NB182_181.1
            have hms58_1:=NB181_182.1
            have hs59 : w56.cell? ⟨G181,2,none⟩ = some (.float .f64 0):=zk K181 2
            have hfs59:=bF K181.1 2
            have hns59_1:=NB182_181.1
            have hms59_1:=NB181_182.1
            have hs60 : w56.cell? ⟨G181,3,none⟩ = some (.int .i64 0):=zk K181 3
            have hfs60:=bF K181.1 3
            have hns60_1:=NB182_181.1
            have hms60_1:=NB181_182.1
            have hs61 : w56.cell? ⟨G181,4,none⟩ = some (.float .f64 0):=zk K181 4
            have hfs61:=bF K181.1 4
            have hns61_1:=NB182_181.1
            have hms61_1:=NB181_182.1
            have hs62 : w56.cell? ⟨G181,5,none⟩ = some (.int .i64 0):=zk K181 5
            have hfs62:=bF K181.1 5
            have hns62_1:=NB182_181.1
            have hms62_1:=NB181_182.1
            refine sz ?_
            refine hK.out _ _ ⟨((cF (p:=⟨G181,_,none⟩) (ne_c hw179_0 GW181.1) _).trans (((cF (p:=⟨G181,_,none⟩) (ne_c hw179_0 GW181.1) _).trans (((cF (p:=⟨G181,_,none⟩) (ne_c hw179_0 GW181.1) _).trans (((cF (p:=⟨G181,_,none⟩) (ne_c hw179_0 GW181.1) _).trans (((cF (p:=⟨G181,_,none⟩) (ne_c hw179_0 GW181.1) _).trans (((cF (p:=⟨G181,_,none⟩) (ne_c hw179_0 GW181.1) _).trans (hHeld.1)))))))))))),((cF (p:=⟨G181,_,none⟩) (ne_c hw179_1 GW181.1) _).trans (((cF (p:=⟨G181,_,none⟩) (ne_c hw179_1 GW181.1) _).trans (((cF (p:=⟨G181,_,none⟩) (ne_c hw179_1 GW181.1) _).trans (((cF (p:=⟨G181,_,none⟩) (ne_c hw179_1 GW181.1) _).trans (((cF (p:=⟨G181,_,none⟩) (ne_c hw179_1 GW181.1) _).trans (((cF (p:=⟨G181,_,none⟩) (ne_c hw179_1 GW181.1) _).trans (hHeld.2.1)))))))))))),((cF (p:=⟨G181,_,none⟩) (ne_c hw179_2 GW181.1) _).trans (((cF (p:=⟨G181,_,none⟩) (ne_c hw179_2 GW181.1) _).trans (((cF (p:=⟨G181,_,none⟩) (ne_c hw179_2 GW181.1) _).trans (((cF (p:=⟨G181,_,none⟩) (ne_c hw179_2 GW181.1) _).trans (((cF (p:=⟨G181,_,none⟩) (ne_c hw179_2 GW181.1) _).trans (((cF (p:=⟨G181,_,none⟩) (ne_c hw179_2 GW181.1) _).trans (hHeld.2.2.1)))))))))))),((cF (p:=⟨G181,_,none⟩) (ne_c hw179_3 GW181.1) _).trans (((cF (p:=⟨G181,_,none⟩) (ne_c hw179_3 GW181.1) _).trans (((cF (p:=⟨G181,_,none⟩) (ne_c hw179_3 GW181.1) _).trans (((cF (p:=⟨G181,_,none⟩) (ne_c hw179_3 GW181.1) _).trans (((cF (p:=⟨G181,_,none⟩) (ne_c hw179_3 GW181.1) _).trans (((cF (p:=⟨G181,_,none⟩) (ne_c hw179_3 GW181.1) _).trans (hHeld.2.2.2.1)))))))))))),((cF (p:=⟨G181,_,none⟩) (ne_c hw179_4 GW181.1) _).trans (((cF (p:=⟨G181,_,none⟩) (ne_c hw179_4 GW181.1) _).trans (((cF (p:=⟨G181,_,none⟩) (ne_c hw179_4 GW181.1) _).trans (((cF (p:=⟨G181,_,none⟩) (ne_c hw179_4 GW181.1) _).trans (((cF (p:=⟨G181,_,none⟩) (ne_c hw179_4 GW181.1) _).trans (((cF (p:=⟨G181,_,none⟩) (ne_c hw179_4 GW181.1) _).trans (hHeld.2.2.2.2.1)))))))))))),((cF (p:=⟨G181,_,none⟩) (ne_c hw179_5 GW181.1) _).trans (((cF (p:=⟨G181,_,none⟩) (ne_c hw179_5 GW181.1) _).trans (((cF (p:=⟨G181,_,none⟩) (ne_c hw179_5 GW181.1) _).trans (((cF (p:=⟨G181,_,none⟩) (ne_c hw179_5 GW181.1) _).trans (((cF (p:=⟨G181,_,none⟩) (ne_c hw179_5 GW181.1) _).trans (((cF (p:=⟨G181,_,none⟩) (ne_c hw179_5 GW181.1) _).trans (hHeld.2.2.2.2.2.1)))))))))))),((cF (p:=⟨G181,_,none⟩) (ne_c hw180_0 GW181.1) _).trans (((cF (p:=⟨G181,_,none⟩) (ne_c hw180_0 GW181.1) _).trans (((cF (p:=⟨G181,_,none⟩) (ne_c hw180_0 GW181.1) _).trans (((cF (p:=⟨G181,_,none⟩) (ne_c hw180_0 GW181.1) _).trans (((cF (p:=⟨G181,_,none⟩) (ne_c hw180_0 GW181.1) _).trans (((cF (p:=⟨G181,_,none⟩) (ne_c hw180_0 GW181.1) _).trans (hHeld.2.2.2.2.2.2.1)))))))))))),((cF (p:=⟨G181,_,none⟩) (ne_c hw180_1 GW181.1) _).trans (((cF (p:=⟨G181,_,none⟩) (ne_c hw180_1 GW181.1) _).trans (((cF (p:=⟨G181,_,none⟩) (ne_c hw180_1 GW181.1) _).trans (((cF (p:=⟨G181,_,none⟩) (ne_c hw180_1 GW181.1) _).trans (((cF (p:=⟨G181,_,none⟩) (ne_c hw180_1 GW181.1) _).trans (((cF (p:=⟨G181,_,none⟩) (ne_c hw180_1 GW181.1) _).trans (hHeld.2.2.2.2.2.2.2.1)))))))))))),((cF (p:=⟨G181,_,none⟩) (ne_c hw180_2 GW181.1) _).trans (((cF (p:=⟨G181,_,none⟩) (ne_c hw180_2 GW181.1) _).trans (((cF (p:=⟨G181,_,none⟩) (ne_c hw180_2 GW181.1) _).trans (((cF (p:=⟨G181,_,none⟩) (ne_c hw180_2 GW181.1) _).trans (((cF (p:=⟨G181,_,none⟩) (ne_c hw180_2 GW181.1) _).trans (((cF (p:=⟨G181,_,none⟩) (ne_c hw180_2 GW181.1) _).trans (hHeld.2.2.2.2.2.2.2.2.1)))))))))))),((cF (p:=⟨G181,_,none⟩) (ne_c hw180_3 GW181.1) _).trans (((cF (p:=⟨G181,_,none⟩) (ne_c hw180_3 GW181.1) _).trans (((cF (p:=⟨G181,_,none⟩) (ne_c hw180_3 GW181.1) _).trans (((cF (p:=⟨G181,_,none⟩) (ne_c hw180_3 GW181.1) _).trans (((cF (p:=⟨G181,_,none⟩) (ne_c hw180_3 GW181.1) _).trans (((cF (p:=⟨G181,_,none⟩) (ne_c hw180_3 GW181.1) _).trans (hHeld.2.2.2.2.2.2.2.2.2.1)))))))))))),((cF (p:=⟨G181,_,none⟩) (ne_c hw180_4 GW181.1) _).trans (((cF (p:=⟨G181,_,none⟩) (ne_c hw180_4 GW181.1) _).trans (((cF (p:=⟨G181,_,none⟩) (ne_c hw180_4 GW181.1) _).trans (((cF (p:=⟨G181,_,none⟩) (ne_c hw180_4 GW181.1) _).trans (((cF (p:=⟨G181,_,none⟩) (ne_c hw180_4 GW181.1) _).trans (((cF (p:=⟨G181,_,none⟩) (ne_c hw180_4 GW181.1) _).trans (hHeld.2.2.2.2.2.2.2.2.2.2.1)))))))))))),((cF (p:=⟨G181,_,none⟩) (ne_c hw180_5 GW181.1) _).trans (((cF (p:=⟨G181,_,none⟩) (ne_c hw180_5 GW181.1) _).trans (((cF (p:=⟨G181,_,none⟩) (ne_c hw180_5 GW181.1) _).trans (((cF (p:=⟨G181,_,none⟩) (ne_c hw180_5 GW181.1) _).trans (((cF (p:=⟨G181,_,none⟩) (ne_c hw180_5 GW181.1) _).trans (((cF (p:=⟨G181,_,none⟩) (ne_c hw180_5 GW181.1) _).trans (hHeld.2.2.2.2.2.2.2.2.2.2.2))))))))))))⟩ (fun hHeld => ?_)
            clear hK K
            refine one_ (i:=11) (N:=none) #[T,T,T,T,T,T,T,T,T,T,T,T] rfl rfl (one_of HT_.out (by kernel_rfl)) (by decide) (fun K hK => ?_)
            have hs63 : w56.cell? ⟨G182,0,none⟩ = some (.int .i64 0):=zk K182 0
            have hfs63:=bF K182.1 0
            have hns63_0:=NB181_182.1
            have hms63_0:=NB182_181.1
            have hs64 : w56.cell? ⟨G182,1,none⟩ = some (.int .i64 0):=zk K182 1
            have hfs64:=bF K182.1 1
            have hns64_0:=NB181_182.1
            have hms64_0:=NB182_181.1
            have hs65 : w56.cell? ⟨G182,2,none⟩ = some (.float .f64 0):=zk K182 2
            have hfs65:=bF K182.1 2
            have hns65_0:=NB181_182.1
            have hms65_0:=NB182_181.1
            have hs66 : w56.cell? ⟨G182,3,none⟩ = some (.int .i64 0):=zk K182 3
            have hfs66:=bF K182.1 3
            have hns66_0:=NB181_182.1
            have hms66_0:=NB182_181.1
            have hs67 : w56.cell? ⟨G182,4,none⟩ = some (.float .f64 0):=zk K182 4
            have hfs67:=bF K182.1 4
            have hns67_0:=NB181_182.1
            have hms67_0:=NB182_181.1
            have hs68 : w56.cell? ⟨G182,5,none⟩ = some (.int .i64 0):=zk K182 5
            have hfs68:=bF K182.1 5
            have hns68_0:=NB181_182.1
            have hms68_0:=NB182_181.1
            refine sz ?_
            refine hK.out _ _ ⟨((cF (p:=⟨G182,_,none⟩) (ne_c hw179_0 GW182.1) _).trans (((cF (p:=⟨G182,_,none⟩) (ne_c hw179_0 GW182.1) _).trans (((cF (p:=⟨G182,_,none⟩) (ne_c hw179_0 GW182.1) _).trans (((cF (p:=⟨G182,_,none⟩) (ne_c hw179_0 GW182.1) _).trans (((cF (p:=⟨G182,_,none⟩) (ne_c hw179_0 GW182.1) _).trans (((cF (p:=⟨G182,_,none⟩) (ne_c hw179_0 GW182.1) _).trans (hHeld.1)))))))))))),((cF (p:=⟨G182,_,none⟩) (ne_c hw179_1 GW182.1) _).trans (((cF (p:=⟨G182,_,none⟩) (ne_c hw179_1 GW182.1) _).trans (((cF (p:=⟨G182,_,none⟩) (ne_c hw179_1 GW182.1) _).trans (((cF (p:=⟨G182,_,none⟩) (ne_c hw179_1 GW182.1) _).trans (((cF (p:=⟨G182,_,none⟩) (ne_c hw179_1 GW182.1) _).trans (((cF (p:=⟨G182,_,none⟩) (ne_c hw179_1 GW182.1) _).trans (hHeld.2.1)))))))))))),((cF (p:=⟨G182,_,none⟩) (ne_c hw179_2 GW182.1) _).trans (((cF (p:=⟨G182,_,none⟩) (ne_c hw179_2 GW182.1) _).trans (((cF (p:=⟨G182,_,none⟩) (ne_c hw179_2 GW182.1) _).trans (((cF (p:=⟨G182,_,none⟩) (ne_c hw179_2 GW182.1) _).trans (((cF (p:=⟨G182,_,none⟩) (ne_c hw179_2 GW182.1) _).trans (((cF (p:=⟨G182,_,none⟩) (ne_c hw179_2 GW182.1) _).trans (hHeld.2.2.1)))))))))))),((cF (p:=⟨G182,_,none⟩) (ne_c hw179_3 GW182.1) _).trans (((cF (p:=⟨G182,_,none⟩) (ne_c hw179_3 GW182.1) _).trans (((cF (p:=⟨G182,_,none⟩) (ne_c hw179_3 GW182.1) _).trans (((cF (p:=⟨G182,_,none⟩) (ne_c hw179_3 GW182.1) _).trans (((cF (p:=⟨G182,_,none⟩) (ne_c hw179_3 GW182.1) _).trans (((cF (p:=⟨G182,_,none⟩) (ne_c hw179_3 GW182.1) _).trans (hHeld.2.2.2.1)))))))))))),((cF (p:=⟨G182,_,none⟩) (ne_c hw179_4 GW182.1) _).trans (((cF (p:=⟨G182,_,none⟩) (ne_c hw179_4 GW182.1) _).trans (((cF (p:=⟨G182,_,none⟩) (ne_c hw179_4 GW182.1) _).trans (((cF (p:=⟨G182,_,none⟩) (ne_c hw179_4 GW182.1) _).trans (((cF (p:=⟨G182,_,none⟩) (ne_c hw179_4 GW182.1) _).trans (((cF (p:=⟨G182,_,none⟩) (ne_c hw179_4 GW182.1) _).trans (hHeld.2.2.2.2.1)))))))))))),((cF (p:=⟨G182,_,none⟩) (ne_c hw179_5 GW182.1) _).trans (((cF (p:=⟨G182,_,none⟩) (ne_c hw179_5 GW182.1) _).trans (((cF (p:=⟨G182,_,none⟩) (ne_c hw179_5 GW182.1) _).trans (((cF (p:=⟨G182,_,none⟩) (ne_c hw179_5 GW182.1) _).trans (((cF (p:=⟨G182,_,none⟩) (ne_c hw179_5 GW182.1) _).trans (((cF (p:=⟨G182,_,none⟩) (ne_c hw179_5 GW182.1) _).trans (hHeld.2.2.2.2.2.1)))))))))))),((cF (p:=⟨G182,_,none⟩) (ne_c hw180_0 GW182.1) _).trans (((cF (p:=⟨G182,_,none⟩) (ne_c hw180_0 GW182.1) _).trans (((cF (p:=⟨G182,_,none⟩) (ne_c hw180_0 GW182.1) _).trans (((cF (p:=⟨G182,_,none⟩) (ne_c hw180_0 GW182.1) _).trans (((cF (p:=⟨G182,_,none⟩) (ne_c hw180_0 GW182.1) _).trans (((cF (p:=⟨G182,_,none⟩) (ne_c hw180_0 GW182.1) _).trans (hHeld.2.2.2.2.2.2.1)))))))))))),((cF (p:=⟨G182,_,none⟩) (ne_c hw180_1 GW182.1) _).trans (((cF (p:=⟨G182,_,none⟩) (ne_c hw180_1 GW182.1) _).trans (((cF (p:=⟨G182,_,none⟩) (ne_c hw180_1 GW182.1) _).trans (((cF (p:=⟨G182,_,none⟩) (ne_c hw180_1 GW182.1) _).trans (((cF (p:=⟨G182,_,none⟩) (ne_c hw180_1 GW182.1) _).trans (((cF (p:=⟨G182,_,none⟩) (ne_c hw180_1 GW182.1) _).trans (hHeld.2.2.2.2.2.2.2.1)))))))))))),((cF (p:=⟨G182,_,none⟩) (ne_c hw180_2 GW182.1) _).trans (((cF (p:=⟨G182,_,none⟩) (ne_c hw180_2 GW182.1) _).trans (((cF (p:=⟨G182,_,none⟩) (ne_c hw180_2 GW182.1) _).trans (((cF (p:=⟨G182,_,none⟩) (ne_c hw180_2 GW182.1) _).trans (((cF (p:=⟨G182,_,none⟩) (ne_c hw180_2 GW182.1) _).trans (((cF (p:=⟨G182,_,none⟩) (ne_c hw180_2 GW182.1) _).trans (hHeld.2.2.2.2.2.2.2.2.1)))))))))))),((cF (p:=⟨G182,_,none⟩) (ne_c hw180_3 GW182.1) _).trans (((cF (p:=⟨G182,_,none⟩) (ne_c hw180_3 GW182.1) _).trans (((cF (p:=⟨G182,_,none⟩) (ne_c hw180_3 GW182.1) _).trans (((cF (p:=⟨G182,_,none⟩) (ne_c hw180_3 GW182.1) _).trans (((cF (p:=⟨G182,_,none⟩) (ne_c hw180_3 GW182.1) _).trans (((cF (p:=⟨G182,_,none⟩) (ne_c hw180_3 GW182.1) _).trans (hHeld.2.2.2.2.2.2.2.2.2.1)))))))))))),((cF (p:=⟨G182,_,none⟩) (ne_c hw180_4 GW182.1) _).trans (((cF (p:=⟨G182,_,none⟩) (ne_c hw180_4 GW182.1) _).trans (((cF (p:=⟨G182,_,none⟩) (ne_c hw180_4 GW182.1) _).trans (((cF (p:=⟨G182,_,none⟩) (ne_c hw180_4 GW182.1) _).trans (((cF (p:=⟨G182,_,none⟩) (ne_c hw180_4 GW182.1) _).trans (((cF (p:=⟨G182,_,none⟩) (ne_c hw180_4 GW182.1) _).trans (hHeld.2.2.2.2.2.2.2.2.2.2.1)))))))))))),((cF (p:=⟨G182,_,none⟩) (ne_c hw180_5 GW182.1) _).trans (((cF (p:=⟨G182,_,none⟩) (ne_c hw180_5 GW182.1) _).trans (((cF (p:=⟨G182,_,none⟩) (ne_c hw180_5 GW182.1) _).trans (((cF (p:=⟨G182,_,none⟩) (ne_c hw180_5 GW182.1) _).trans (((cF (p:=⟨G182,_,none⟩) (ne_c hw180_5 GW182.1) _).trans (((cF (p:=⟨G182,_,none⟩) (ne_c hw180_5 GW182.1) _).trans (hHeld.2.2.2.2.2.2.2.2.2.2.2))))))))))))⟩ (fun hHeld => ?_)
            clear hK K
            refine done_ (done_of HT_.out (by kernel_rfl)) ?_
            have hnb69:=NB181_182.1
            have hnc69:=NB182_181.1
            have hcz70_0 : w56.cell? ⟨G181,0,none⟩ = some (.int .i64 0):=zk K181 0
            have hcz70_1 : w56.cell? ⟨G181,1,none⟩ = some (.int .i64 0):=zk K181 1
            have hcz70_2 : w56.cell? ⟨G181,2,none⟩ = some (.float .f64 0):=zk K181 2
            have hcz70_3 : w56.cell? ⟨G181,3,none⟩ = some (.int .i64 0):=zk K181 3
            have hcz70_4 : w56.cell? ⟨G181,4,none⟩ = some (.float .f64 0):=zk K181 4
            have hcz70_5 : w56.cell? ⟨G181,5,none⟩ = some (.int .i64 0):=zk K181 5
            have hfz70_0:=bF K181.1 0
            have hfz70_1:=bF K181.1 1
            have hfz70_2:=bF K181.1 2
            have hfz70_3:=bF K181.1 3
            have hfz70_4:=bF K181.1 4
            have hfz70_5:=bF K181.1 5
            have hcz71_0 : w56.cell? ⟨G182,0,none⟩ = some (.int .i64 0):=zk K182 0
            have hcz71_1 : w56.cell? ⟨G182,1,none⟩ = some (.int .i64 0):=zk K182 1
            have hcz71_2 : w56.cell? ⟨G182,2,none⟩ = some (.float .f64 0):=zk K182 2
            have hcz71_3 : w56.cell? ⟨G182,3,none⟩ = some (.int .i64 0):=zk K182 3
            have hcz71_4 : w56.cell? ⟨G182,4,none⟩ = some (.float .f64 0):=zk K182 4
            have hcz71_5 : w56.cell? ⟨G182,5,none⟩ = some (.int .i64 0):=zk K182 5
            have hfz71_0:=bF K182.1 0
            have hfz71_1:=bF K182.1 1
            have hfz71_2:=bF K182.1 2
            have hfz71_3:=bF K182.1 3
            have hfz71_4:=bF K182.1 4
            have hfz71_5:=bF K182.1 5
            try go_wp2_with (first|(go_at_call 52;(with_reducible refine (beaconref01_Same.calls ((rd_T39 l0 x5_1).f2) ((rd_T39 l1 x5_1).f2) false _ A11.out).mono ?_);rintro e w' ⟨rfl,⟨nd,rfl⟩⟩))
            go_ret
            exact ⟨by first|rfl|(simp [errW_none,errW_some] <;> rfl)|(simp [*,errW_none,errW_some] <;> rfl),zH HB⟩
          ·rw [if_neg c10] at H
           have c10b0 : (((rd_T39 l0 x5_1).f5) == ((rd_T39 l1 x5_1).f5)) = false:=beq_eq_false_iff_ne.mpr c10
           have c10b1 : (((rd_T39 l0 x5_1).f5) != ((rd_T39 l1 x5_1).f5)) = true:=bne_iff_ne.mpr c10
           obtain rfl:=Option.some.inj H
           try go_wp2
           replace HB:=Aside0.mk (bw1 HB.1)
           have p179 : 0 ≤ (x5_1 : Int):=zd
           have q179 : x5_1 < (l0.length : Int):=zd
           obtain ⟨ad179,e179,hx179_0,hx179_1,hx179_2,hx179_3,hx179_4,hx179_5⟩:=at_T39 HR0.out x5_1 p179 q179
           have hw179_5:=hx179_5
           have hw179_4:=hx179_4
           have hw179_3:=hx179_3
           have hw179_2:=hx179_2
           have hw179_1:=hx179_1
           have hw179_0:=hx179_0
           cases e179
           replace hx179_0:=zh HB hx179_0
           replace hx179_1:=zh HB hx179_1
           replace hx179_2:=zh HB hx179_2
           replace hx179_3:=zh HB hx179_3
           replace hx179_4:=zh HB hx179_4
           replace hx179_5:=zh HB hx179_5
           replace p179:=eq_true p179
           replace q179:=eq_true q179
           have p180 : 0 ≤ (x5_1 : Int):=zd
           have q180 : x5_1 < (l1.length : Int):=zd
           obtain ⟨ad180,e180,hx180_0,hx180_1,hx180_2,hx180_3,hx180_4,hx180_5⟩:=at_T39 HR1.out x5_1 p180 q180
           have hw180_5:=hx180_5
           have hw180_4:=hx180_4
           have hw180_3:=hx180_3
           have hw180_2:=hx180_2
           have hw180_1:=hx180_1
           have hw180_0:=hx180_0
           cases e180
           replace hx180_0:=zh HB hx180_0
           replace hx180_1:=zh HB hx180_1
           replace hx180_2:=zh HB hx180_2
           replace hx180_3:=zh HB hx180_3
           replace hx180_4:=zh HB hx180_4
           replace hx180_5:=zh HB hx180_5
           replace p180:=eq_true p180
           replace q180:=eq_true q180
           refine start_ (n:=12) (S:=fun w' => w'.cell? (ad179.add ((x5_1).toNat * 6)) = some (.int .i64 ((rd_T39 l0 x5_1).f0)) ∧ w'.cell? ⟨(ad179.add ((x5_1).toNat * 6)).block,(ad179.add ((x5_1).toNat * 6)).off + 1,none⟩ = some (.int .i64 ((rd_T39 l0 x5_1).f1)) ∧ w'.cell? ⟨(ad179.add ((x5_1).toNat * 6)).block,(ad179.add ((x5_1).toNat * 6)).off + 2,none⟩ = some (.float .f64 ((rd_T39 l0 x5_1).f2)) ∧ w'.cell? ⟨(ad179.add ((x5_1).toNat * 6)).block,(ad179.add ((x5_1).toNat * 6)).off + 3,none⟩ = some (.int .i64 ((rd_T39 l0 x5_1).f3)) ∧ w'.cell? ⟨(ad179.add ((x5_1).toNat * 6)).block,(ad179.add ((x5_1).toNat * 6)).off + 4,none⟩ = some (.float .f64 ((rd_T39 l0 x5_1).f4)) ∧ w'.cell? ⟨(ad179.add ((x5_1).toNat * 6)).block,(ad179.add ((x5_1).toNat * 6)).off + 5,none⟩ = some (.int .i64 ((rd_T39 l0 x5_1).f5)) ∧ w'.cell? (ad180.add ((x5_1).toNat * 6)) = some (.int .i64 ((rd_T39 l1 x5_1).f0)) ∧ w'.cell? ⟨(ad180.add ((x5_1).toNat * 6)).block,(ad180.add ((x5_1).toNat * 6)).off + 1,none⟩ = some (.int .i64 ((rd_T39 l1 x5_1).f1)) ∧ w'.cell? ⟨(ad180.add ((x5_1).toNat * 6)).block,(ad180.add ((x5_1).toNat * 6)).off + 2,none⟩ = some (.float .f64 ((rd_T39 l1 x5_1).f2)) ∧ w'.cell? ⟨(ad180.add ((x5_1).toNat * 6)).block,(ad180.add ((x5_1).toNat * 6)).off + 3,none⟩ = some (.int .i64 ((rd_T39 l1 x5_1).f3)) ∧ w'.cell? ⟨(ad180.add ((x5_1).toNat * 6)).block,(ad180.add ((x5_1).toNat * 6)).off + 4,none⟩ = some (.float .f64 ((rd_T39 l1 x5_1).f4)) ∧ w'.cell? ⟨(ad180.add ((x5_1).toNat * 6)).block,(ad180.add ((x5_1).toNat * 6)).off + 5,none⟩ = some (.int .i64 ((rd_T39 l1 x5_1).f5))) (ds:=[]) #[F,F,F,F,F,F,F,F,F,F,F,F] (by kernel_rfl) rfl rfl ⟨(zh HB hw179_0),(zh HB hw179_1),(zh HB hw179_2),(zh HB hw179_3),(zh HB hw179_4),(zh HB hw179_5),(zh HB hw180_0),(zh HB hw180_1),(zh HB hw180_2),(zh HB hw180_3),(zh HB hw180_4),(zh HB hw180_5)⟩ (fun hHeld => ?_);refine with_tabW beaconref09_SameEntries.tab6 beaconref09_SameEntries.bits6 (fun HT_ HW_ => ?_)
           generalize wr.drew = w72 at HB hx179_0 hx179_1 hx179_2 hx179_3 hx179_4 hx179_5 hx180_0 hx180_1 hx180_2 hx180_3 hx180_4 hx180_5 hHeld ⊢
           refine pz 0 19 #[T,F,F,F,F,F,F,F,F,F,F,F] HT_.1 ?_
           refine pz 1 20 #[T,T,F,F,F,F,F,F,F,F,F,F] HT_.1 ?_
           refine pz 2 21 #[T,T,T,F,F,F,F,F,F,F,F,F] HT_.1 ?_
           refine pz 4 23 #[T,T,T,F,T,F,F,F,F,F,F,F] HT_.1 ?_
           refine pz 5 24 #[T,T,T,F,T,T,F,F,F,F,F,F] HT_.1 ?_
           refine pz 6 25 #[T,T,T,F,T,T,T,F,F,F,F,F] HT_.1 ?_
           refine tz 3 22 #[T,T,T,T,T,T,T,F,F,F,F,F] HT_.1 HW_.1 hHeld ?_
           refine tz 7 26 #[T,T,T,T,T,T,T,T,F,F,F,F] HT_.1 HW_.1 hHeld ?_
           refine join_ (σ:=Nat × Nat) 2 #[T,T,T,T,T,T,T,T,T,T,F,F] (fun s_ => [(6,.pointer (some ⟨s_.1,0,none⟩)),(7,.pointer (some ⟨s_.2,0,none⟩))]) (fun s_ w' => (w'.cell? (ad179.add ((x5_1).toNat * 6)) = some (.int .i64 ((rd_T39 l0 x5_1).f0)) ∧ w'.cell? ⟨(ad179.add ((x5_1).toNat * 6)).block,(ad179.add ((x5_1).toNat * 6)).off + 1,none⟩ = some (.int .i64 ((rd_T39 l0 x5_1).f1)) ∧ w'.cell? ⟨(ad179.add ((x5_1).toNat * 6)).block,(ad179.add ((x5_1).toNat * 6)).off + 2,none⟩ = some (.float .f64 ((rd_T39 l0 x5_1).f2)) ∧ w'.cell? ⟨(ad179.add ((x5_1).toNat * 6)).block,(ad179.add ((x5_1).toNat * 6)).off + 3,none⟩ = some (.int .i64 ((rd_T39 l0 x5_1).f3)) ∧ w'.cell? ⟨(ad179.add ((x5_1).toNat * 6)).block,(ad179.add ((x5_1).toNat * 6)).off + 4,none⟩ = some (.float .f64 ((rd_T39 l0 x5_1).f4)) ∧ w'.cell? ⟨(ad179.add ((x5_1).toNat * 6)).block,(ad179.add ((x5_1).toNat * 6)).off + 5,none⟩ = some (.int .i64 ((rd_T39 l0 x5_1).f5)) ∧ w'.cell? (ad180.add ((x5_1).toNat * 6)) = some (.int .i64 ((rd_T39 l1 x5_1).f0)) ∧ w'.cell? ⟨(ad180.add ((x5_1).toNat * 6)).block,(ad180.add ((x5_1).toNat * 6)).off + 1,none⟩ = some (.int .i64 ((rd_T39 l1 x5_1).f1)) ∧ w'.cell? ⟨(ad180.add ((x5_1).toNat * 6)).block,(ad180.add ((x5_1).toNat * 6)).off + 2,none⟩ = some (.float .f64 ((rd_T39 l1 x5_1).f2)) ∧ w'.cell? ⟨(ad180.add ((x5_1).toNat * 6)).block,(ad180.add ((x5_1).toNat * 6)).off + 3,none⟩ = some (.int .i64 ((rd_T39 l1 x5_1).f3)) ∧ w'.cell? ⟨(ad180.add ((x5_1).toNat * 6)).block,(ad180.add ((x5_1).toNat * 6)).off + 4,none⟩ = some (.float .f64 ((rd_T39 l1 x5_1).f4)) ∧ w'.cell? ⟨(ad180.add ((x5_1).toNat * 6)).block,(ad180.add ((x5_1).toNat * 6)).off + 5,none⟩ = some (.int .i64 ((rd_T39 l1 x5_1).f5))) ∧ (w'.heap[s_.1]? = some (.cells #[.int .i64 0,.int .i64 0,.float .f64 0,.int .i64 0,.float .f64 0,.int .i64 0] 39 (0,0))) ∧ (w'.heap[s_.2]? = some (.cells #[.int .i64 0,.int .i64 0,.float .f64 0,.int .i64 0,.float .f64 0,.int .i64 0] 39 (0,0))) ∧ (w.heap.size ≤ s_.1) ∧ (w.heap.size ≤ s_.1) ∧ (s_.2 ≠ s_.1) ∧ (s_.1 ≠ s_.2) ∧ (w.heap.size ≤ s_.2) ∧ (w.heap.size ≤ s_.2) ∧ (Below w.heap.size w w')) ?_ ?_
           rotate_left
           ·intro hCont
            refine two_ (i:=8) (j:=9) (Ni:=some 6) (Nj:=some 7) #[T,T,T,T,T,T,T,T,T,F,F,F] #[T,T,T,T,T,T,T,T,F,T,F,F] rfl rfl rfl rfl (two_of HT_.out (by kernel_rfl)) (by decide) (by decide) (fun K hK => ?_) (fun K hK => ?_)
            ·skip
             refine box_step ?hg (N:=6) ?hd (cs:=#[.int .i64 0,.int .i64 0,.float .f64 0,.int .i64 0,.float .f64 0,.int .i64 0]) (t:=39) ?hr ?_;(case hd => rfl);(case hg => exact zw);(case hr => first|(go_simp;done)|(go_simp;rfl))
             intro G181 hg w73 hbox hb
             have K181:=Aside0.mk (hbox)
             have GW181:=zN HB hg
             have GE181:=zN HB hg
             replace HB:=zS HB hb
             clear hb hbox hg
             refine hK.out _ _ ⟨(zh HB hw179_0),(zh HB hw179_1),(zh HB hw179_2),(zh HB hw179_3),(zh HB hw179_4),(zh HB hw179_5),(zh HB hw180_0),(zh HB hw180_1),(zh HB hw180_2),(zh HB hw180_3),(zh HB hw180_4),(zh HB hw180_5)⟩ (fun hHeld => ?_)
             clear hK K
             refine nz 6 ?_
             refine one_ (i:=9) (N:=some 7) #[T,T,T,T,T,T,T,T,T,T,F,F] rfl rfl (one_of HT_.out (by kernel_rfl)) (by decide) (fun K hK => ?_)
             refine box_step ?hg (N:=7) ?hd (cs:=#[.int .i64 0,.int .i64 0,.float .f64 0,.int .i64 0,.float .f64 0,.int .i64 0]) (t:=39) ?hr ?_;(case hd => rfl);(case hg => exact zw);(case hr => first|(go_simp;done)|(go_simp;rfl))
             intro G182 hg w74 hbox hb
             have K182:=Aside0.mk (hbox)
             have GW182:=zN HB hg
             have GE182:=zN HB hg
             replace HB:=zS HB hb
             have NB181_182:=zL K181 hg
             have NB182_181:=zG K181 hg
             replace K181:=zB K181 hb
             clear hb hbox hg
             refine hK.out _ _ ⟨(zh HB hw179_0),(zh HB hw179_1),(zh HB hw179_2),(zh HB hw179_3),(zh HB hw179_4),(zh HB hw179_5),(zh HB hw180_0),(zh HB hw180_1),(zh HB hw180_2),(zh HB hw180_3),(zh HB hw180_4),(zh HB hw180_5)⟩ (fun hHeld => ?_)
             clear hK K
             refine nz 7 ?_
             exact norm_ (by simp only [putAll,Act.put,xA,xB,xC]) (hCont (G181,G182) _ ⟨hHeld,(z1 K181.1),(z1 K182.1),GW181.1,GE181.1,NB182_181.1,NB181_182.1,GW182.1,GE182.1,(zH HB)⟩)
            ·skip
             refine box_step ?hg (N:=7) ?hd (cs:=#[.int .i64 0,.int .i64 0,.float .f64 0,.int .i64 0,.float .f64 0,.int .i64 0]) (t:=39) ?hr ?_;(case hd => rfl);(case hg => exact zw);(case hr => first|(go_simp;done)|(go_simp;rfl))
             intro G182 hg w73 hbox hb
             have K182:=Aside0.mk (hbox)
             have GW182:=zN HB hg
             have GE182:=zN HB hg
             replace HB:=zS HB hb
             clear hb hbox hg
             refine hK.out _ _ ⟨(zh HB hw179_0),(zh HB hw179_1),(zh HB hw179_2),(zh HB hw179_3),(zh HB hw179_4),(zh HB hw179_5),(zh HB hw180_0),(zh HB hw180_1),(zh HB hw180_2),(zh HB hw180_3),(zh HB hw180_4),(zh HB hw180_5)⟩ (fun hHeld => ?_)
             clear hK K
             refine nz 7 ?_
             refine one_ (i:=8) (N:=some 6) #[T,T,T,T,T,T,T,T,T,T,F,F] rfl rfl (one_of HT_.out (by kernel_rfl)) (by decide) (fun K hK => ?_)
             refine box_step ?hg (N:=6) ?hd (cs:=#[.int .i64 0,.int .i64 0,.float .f64 0,.int .i64 0,.float .f64 0,.int .i64 0]) (t:=39) ?hr ?_;(case hd => rfl);(case hg => exact zw);(case hr => first|(go_simp;done)|(go_simp;rfl))
             intro G181 hg w74 hbox hb
             have K181:=Aside0.mk (hbox)
             have GW181:=zN HB hg
             have GE181:=zN HB hg
             replace HB:=zS HB hb
             have NB182_181:=zL K182 hg
             have NB181_182:=zG K182 hg
             replace K182:=zB K182 hb
             clear hb hbox hg
             refine hK.out _ _ ⟨(zh HB hw179_0),(zh HB hw179_1),(zh HB hw179_2),(zh HB hw179_3),(zh HB hw179_4),(zh HB hw179_5),(zh HB hw180_0),(zh HB hw180_1),(zh HB hw180_2),(zh HB hw180_3),(zh HB hw180_4),(zh HB hw180_5)⟩ (fun hHeld => ?_)
             clear hK K
             refine nz 6 ?_
             exact norm_ (by simp only [putAll,Act.put,xA,xB,xC]) (hCont (G181,G182) _ ⟨hHeld,(z1 K181.1),(z1 K182.1),GW181.1,GE181.1,NB182_181.1,NB181_182.1,GW182.1,GE182.1,(zH HB)⟩)
           rintro ⟨G181,G182⟩ w75 ⟨hS_,h0_,h1_,h2_,h3_,h4_,h5_,h6_,h7_,h8_⟩
           have K181 : Aside0 (w75.heap[G181]? = some (.cells #[.int .i64 0,.int .i64 0,.float .f64 0,.int .i64 0,.float .f64 0,.int .i64 0] 39 (0,0))):=⟨h0_⟩
           have K182 : Aside0 (w75.heap[G182]? = some (.cells #[.int .i64 0,.int .i64 0,.float .f64 0,.int .i64 0,.float .f64 0,.int .i64 0] 39 (0,0))):=⟨h1_⟩
           have GW181 : Aside0 (w.heap.size ≤ G181):=⟨h2_⟩
           have GE181 : Aside0 (w.heap.size ≤ G181):=⟨h3_⟩
           have NB182_181 : Aside0 (G182 ≠ G181):=⟨h4_⟩
           have NB181_182 : Aside0 (G181 ≠ G182):=⟨h5_⟩
           have GW182 : Aside0 (w.heap.size ≤ G182):=⟨h6_⟩
           have GE182 : Aside0 (w.heap.size ≤ G182):=⟨h7_⟩
           replace HB : Aside0 (Below w.heap.size w w75):=⟨h8_⟩
           clear h0_ h1_ h2_ h3_ h4_ h5_ h6_ h7_ h8_
           have hHeld : w75.cell? (ad179.add ((x5_1).toNat * 6)) = some (.int .i64 ((rd_T39 l0 x5_1).f0)) ∧ w75.cell? ⟨(ad179.add ((x5_1).toNat * 6)).block,(ad179.add ((x5_1).toNat * 6)).off + 1,none⟩ = some (.int .i64 ((rd_T39 l0 x5_1).f1)) ∧ w75.cell? ⟨(ad179.add ((x5_1).toNat * 6)).block,(ad179.add ((x5_1).toNat * 6)).off + 2,none⟩ = some (.float .f64 ((rd_T39 l0 x5_1).f2)) ∧ w75.cell? ⟨(ad179.add ((x5_1).toNat * 6)).block,(ad179.add ((x5_1).toNat * 6)).off + 3,none⟩ = some (.int .i64 ((rd_T39 l0 x5_1).f3)) ∧ w75.cell? ⟨(ad179.add ((x5_1).toNat * 6)).block,(ad179.add ((x5_1).toNat * 6)).off + 4,none⟩ = some (.float .f64 ((rd_T39 l0 x5_1).f4)) ∧ w75.cell? ⟨(ad179.add ((x5_1).toNat * 6)).block,(ad179.add ((x5_1).toNat * 6)).off + 5,none⟩ = some (.int .i64 ((rd_T39 l0 x5_1).f5)) ∧ w75.cell? (ad180.add ((x5_1).toNat * 6)) = some (.int .i64 ((rd_T39 l1 x5_1).f0)) ∧ w75.cell? ⟨(ad180.add ((x5_1).toNat * 6)).block,(ad180.add ((x5_1).toNat * 6)).off + 1,none⟩ = some (.int .i64 ((rd_T39 l1 x5_1).f1)) ∧ w75.cell? ⟨(ad180.add ((x5_1).toNat * 6)).block,(ad180.add ((x5_1).toNat * 6)).off + 2,none⟩ = some (.float .f64 ((rd_T39 l1 x5_1).f2)) ∧ w75.cell? ⟨(ad180.add ((x5_1).toNat * 6)).block,(ad180.add ((x5_1).toNat * 6)).off + 3,none⟩ = some (.int .i64 ((rd_T39 l1 x5_1).f3)) ∧ w75.cell? ⟨(ad180.add ((x5_1).toNat * 6)).block,(ad180.add ((x5_1).toNat * 6)).off + 4,none⟩ = some (.float .f64 ((rd_T39 l1 x5_1).f4)) ∧ w75.cell? ⟨(ad180.add ((x5_1).toNat * 6)).block,(ad180.add ((x5_1).toNat * 6)).off + 5,none⟩ = some (.int .i64 ((rd_T39 l1 x5_1).f5)):=hS_
           refine norm_ (a':=?_) ?_ ?_
           rotate_left
           ·simp only [putAll,Act.put,xA,xB,xC]
            rfl
           refine one_ (i:=10) (N:=none) #[T,T,T,T,T,T,T,T,T,T,T,F] rfl rfl (one_of HT_.out (by kernel_rfl)) (by decide) (fun K hK => ?_)
           have hs76 : w75.cell? ⟨G181,0,none⟩ = some (.int .i64 0):=zk K181 0
           have hfs76:=bF K181.1 0
           have hns76_1:=NB182_181.1
           have hms76_1:=NB181_182.1
           have hs77 : w75.cell? ⟨G181,1,none⟩ = some (.int .i64 0):=zk K181 1
           have hfs77:=bF K181.1 1
           have hns77_1:=NB182_181.1
           have hms77_1:=NB181_182.1
           have hs78 : w75.cell? ⟨G181,2,none⟩ = some (.float .f64 0):=zk K181 2
           have hfs78:=bF K181.1 2
           have hns78_1:=NB182_181.1
           have hms78_1:=NB181_182.1
           have hs79 : w75.cell? ⟨G181,3,none⟩ = some (.int .i64 0):=zk K181 3
           have hfs79:=bF K181.1 3
           have hns79_1:=NB182_181.1
           have hms79_1:=NB181_182.1
           have hs80 : w75.cell? ⟨G181,4,none⟩ = some (.float .f64 0):=zk K181 4
           have hfs80:=bF K181.1 4
           have hns80_1:=NB182_181.1
           have hms80_1:=NB181_182.1
           have hs81 : w75.cell? ⟨G181,5,none⟩ = some (.int .i64 0):=zk K181 5
           have hfs81:=bF K181.1 5
           have hns81_1:=NB182_181.1
           have hms81_1:=NB181_182.1
           refine sz ?_
           refine hK.out _ _ ⟨((cF (p:=⟨G181,_,none⟩) (ne_c hw179_0 GW181.1) _).trans (((cF (p:=⟨G181,_,none⟩) (ne_c hw179_0 GW181.1) _).trans (((cF (p:=⟨G181,_,none⟩) (ne_c hw179_0 GW181.1) _).trans (((cF (p:=⟨G181,_,none⟩) (ne_c hw179_0 GW181.1) _).trans (((cF (p:=⟨G181,_,none⟩) (ne_c hw179_0 GW181.1) _).trans (((cF (p:=⟨G181,_,none⟩) (ne_c hw179_0 GW181.1) _).trans (hHeld.1)))))))))))),((cF (p:=⟨G181,_,none⟩) (ne_c hw179_1 GW181.1) _).trans (((cF (p:=⟨G181,_,none⟩) (ne_c hw179_1 GW181.1) _).trans (((cF (p:=⟨G181,_,none⟩) (ne_c hw179_1 GW181.1) _).trans (((cF (p:=⟨G181,_,none⟩) (ne_c hw179_1 GW181.1) _).trans (((cF (p:=⟨G181,_,none⟩) (ne_c hw179_1 GW181.1) _).trans (((cF (p:=⟨G181,_,none⟩) (ne_c hw179_1 GW181.1) _).trans (hHeld.2.1)))))))))))),((cF (p:=⟨G181,_,none⟩) (ne_c hw179_2 GW181.1) _).trans (((cF (p:=⟨G181,_,none⟩) (ne_c hw179_2 GW181.1) _).trans (((cF (p:=⟨G181,_,none⟩) (ne_c hw179_2 GW181.1) _).trans (((cF (p:=⟨G181,_,none⟩) (ne_c hw179_2 GW181.1) _).trans (((cF (p:=⟨G181,_,none⟩) (ne_c hw179_2 GW181.1) _).trans (((cF (p:=⟨G181,_,none⟩) (ne_c hw179_2 GW181.1) _).trans (hHeld.2.2.1)))))))))))),((cF (p:=⟨G181,_,none⟩) (ne_c hw179_3 GW181.1) _).trans (((cF (p:=⟨G181,_,none⟩) (ne_c hw179_3 GW181.1) _).trans (((cF (p:=⟨G181,_,none⟩) (ne_c hw179_3 GW181.1) _).trans (((cF (p:=⟨G181,_,none⟩) (ne_c hw179_3 GW181.1) _).trans (((cF (p:=⟨G181,_,none⟩) (ne_c hw179_3 GW181.1) _).trans (((cF (p:=⟨G181,_,none⟩) (ne_c hw179_3 GW181.1) _).trans (hHeld.2.2.2.1)))))))))))),((cF (p:=⟨G181,_,none⟩) (ne_c hw179_4 GW181.1) _).trans (((cF (p:=⟨G181,_,none⟩) (ne_c hw179_4 GW181.1) _).trans (((cF (p:=⟨G181,_,none⟩) (ne_c hw179_4 GW181.1) _).trans (((cF (p:=⟨G181,_,none⟩) (ne_c hw179_4 GW181.1) _).trans (((cF (p:=⟨G181,_,none⟩) (ne_c hw179_4 GW181.1) _).trans (((cF (p:=⟨G181,_,none⟩) (ne_c hw179_4 GW181.1) _).trans (hHeld.2.2.2.2.1)))))))))))),((cF (p:=⟨G181,_,none⟩) (ne_c hw179_5 GW181.1) _).trans (((cF (p:=⟨G181,_,none⟩) (ne_c hw179_5 GW181.1) _).trans (((cF (p:=⟨G181,_,none⟩) (ne_c hw179_5 GW181.1) _).trans (((cF (p:=⟨G181,_,none⟩) (ne_c hw179_5 GW181.1) _).trans (((cF (p:=⟨G181,_,none⟩) (ne_c hw179_5 GW181.1) _).trans (((cF (p:=⟨G181,_,none⟩) (ne_c hw179_5 GW181.1) _).trans (hHeld.2.2.2.2.2.1)))))))))))),((cF (p:=⟨G181,_,none⟩) (ne_c hw180_0 GW181.1) _).trans (((cF (p:=⟨G181,_,none⟩) (ne_c hw180_0 GW181.1) _).trans (((cF (p:=⟨G181,_,none⟩) (ne_c hw180_0 GW181.1) _).trans (((cF (p:=⟨G181,_,none⟩) (ne_c hw180_0 GW181.1) _).trans (((cF (p:=⟨G181,_,none⟩) (ne_c hw180_0 GW181.1) _).trans (((cF (p:=⟨G181,_,none⟩) (ne_c hw180_0 GW181.1) _).trans (hHeld.2.2.2.2.2.2.1)))))))))))),((cF (p:=⟨G181,_,none⟩) (ne_c hw180_1 GW181.1) _).trans (((cF (p:=⟨G181,_,none⟩) (ne_c hw180_1 GW181.1) _).trans (((cF (p:=⟨G181,_,none⟩) (ne_c hw180_1 GW181.1) _).trans (((cF (p:=⟨G181,_,none⟩) (ne_c hw180_1 GW181.1) _).trans (((cF (p:=⟨G181,_,none⟩) (ne_c hw180_1 GW181.1) _).trans (((cF (p:=⟨G181,_,none⟩) (ne_c hw180_1 GW181.1) _).trans (hHeld.2.2.2.2.2.2.2.1)))))))))))),((cF (p:=⟨G181,_,none⟩) (ne_c hw180_2 GW181.1) _).trans (((cF (p:=⟨G181,_,none⟩) (ne_c hw180_2 GW181.1) _).trans (((cF (p:=⟨G181,_,none⟩) (ne_c hw180_2 GW181.1) _).trans (((cF (p:=⟨G181,_,none⟩) (ne_c hw180_2 GW181.1) _).trans (((cF (p:=⟨G181,_,none⟩) (ne_c hw180_2 GW181.1) _).trans (((cF (p:=⟨G181,_,none⟩) (ne_c hw180_2 GW181.1) _).trans (hHeld.2.2.2.2.2.2.2.2.1)))))))))))),((cF (p:=⟨G181,_,none⟩) (ne_c hw180_3 GW181.1) _).trans (((cF (p:=⟨G181,_,none⟩) (ne_c hw180_3 GW181.1) _).trans (((cF (p:=⟨G181,_,none⟩) (ne_c hw180_3 GW181.1) _).trans (((cF (p:=⟨G181,_,none⟩) (ne_c hw180_3 GW181.1) _).trans (((cF (p:=⟨G181,_,none⟩) (ne_c hw180_3 GW181.1) _).trans (((cF (p:=⟨G181,_,none⟩) (ne_c hw180_3 GW181.1) _).trans (hHeld.2.2.2.2.2.2.2.2.2.1)))))))))))),((cF (p:=⟨G181,_,none⟩) (ne_c hw180_4 GW181.1) _).trans (((cF (p:=⟨G181,_,none⟩) (ne_c hw180_4 GW181.1) _).trans (((cF (p:=⟨G181,_,none⟩) (ne_c hw180_4 GW181.1) _).trans (((cF (p:=⟨G181,_,none⟩) (ne_c hw180_4 GW181.1) _).trans (((cF (p:=⟨G181,_,none⟩) (ne_c hw180_4 GW181.1) _).trans (((cF (p:=⟨G181,_,none⟩) (ne_c hw180_4 GW181.1) _).trans (hHeld.2.2.2.2.2.2.2.2.2.2.1)))))))))))),((cF (p:=⟨G181,_,none⟩) (ne_c hw180_5 GW181.1) _).trans (((cF (p:=⟨G181,_,none⟩) (ne_c hw180_5 GW181.1) _).trans (((cF (p:=⟨G181,_,none⟩) (ne_c hw180_5 GW181.1) _).trans (((cF (p:=⟨G181,_,none⟩) (ne_c hw180_5 GW181.1) _).trans (((cF (p:=⟨G181,_,none⟩) (ne_c hw180_5 GW181.1) _).trans (((cF (p:=⟨G181,_,none⟩) (ne_c hw180_5 GW181.1) _).trans (hHeld.2.2.2.2.2.2.2.2.2.2.2))))))))))))⟩ (fun hHeld => ?_)
           clear hK K
           refine one_ (i:=11) (N:=none) #[T,T,T,T,T,T,T,T,T,T,T,T] rfl rfl (one_of HT_.out (by kernel_rfl)) (by decide) (fun K hK => ?_)
           have hs82 : w75.cell? ⟨G182,0,none⟩ = some (.int .i64 0):=zk K182 0
           have hfs82:=bF K182.1 0
           have hns82_0:=NB181_182.1
           have hms82_0:=NB182_181.1
           have hs83 : w75.cell? ⟨G182,1,none⟩ = some (.int .i64 0):=zk K182 1
           have hfs83:=bF K182.1 1
           have hns83_0:=NB181_182.1
           have hms83_0:=NB182_181.1
           have hs84 : w75.cell? ⟨G182,2,none⟩ = some (.float .f64 0):=zk K182 2
           have hfs84:=bF K182.1 2
           have hns84_0:=NB181_182.1
           have hms84_0:=NB182_181.1
           have hs85 : w75.cell? ⟨G182,3,none⟩ = some (.int .i64 0):=zk K182 3
           have hfs85:=bF K182.1 3
           have hns85_0:=NB181_182.1
           have hms85_0:=NB182_181.1
           have hs86 : w75.cell? ⟨G182,4,none⟩ = some (.float .f64 0):=zk K182 4
           have hfs86:=bF K182.1 4
           have hns86_0:=NB181_182.1
           have hms86_0:=NB182_181.1
           have hs87 : w75.cell? ⟨G182,5,none⟩ = some (.int .i64 0):=zk K182 5
           have hfs87:=bF K182.1 5
           have hns87_0:=NB181_182.1
           have hms87_0:=NB182_181.1
           refine sz ?_
           refine hK.out _ _ ⟨((cF (p:=⟨G182,_,none⟩) (ne_c hw179_0 GW182.1) _).trans (((cF (p:=⟨G182,_,none⟩) (ne_c hw179_0 GW182.1) _).trans (((cF (p:=⟨G182,_,none⟩) (ne_c hw179_0 GW182.1) _).trans (((cF (p:=⟨G182,_,none⟩) (ne_c hw179_0 GW182.1) _).trans (((cF (p:=⟨G182,_,none⟩) (ne_c hw179_0 GW182.1) _).trans (((cF (p:=⟨G182,_,none⟩) (ne_c hw179_0 GW182.1) _).trans (hHeld.1)))))))))))),((cF (p:=⟨G182,_,none⟩) (ne_c hw179_1 GW182.1) _).trans (((cF (p:=⟨G182,_,none⟩) (ne_c hw179_1 GW182.1) _).trans (((cF (p:=⟨G182,_,none⟩) (ne_c hw179_1 GW182.1) _).trans (((cF (p:=⟨G182,_,none⟩) (ne_c hw179_1 GW182.1) _).trans (((cF (p:=⟨G182,_,none⟩) (ne_c hw179_1 GW182.1) _).trans (((cF (p:=⟨G182,_,none⟩) (ne_c hw179_1 GW182.1) _).trans (hHeld.2.1)))))))))))),((cF (p:=⟨G182,_,none⟩) (ne_c hw179_2 GW182.1) _).trans (((cF (p:=⟨G182,_,none⟩) (ne_c hw179_2 GW182.1) _).trans (((cF (p:=⟨G182,_,none⟩) (ne_c hw179_2 GW182.1) _).trans (((cF (p:=⟨G182,_,none⟩) (ne_c hw179_2 GW182.1) _).trans (((cF (p:=⟨G182,_,none⟩) (ne_c hw179_2 GW182.1) _).trans (((cF (p:=⟨G182,_,none⟩) (ne_c hw179_2 GW182.1) _).trans (hHeld.2.2.1)))))))))))),((cF (p:=⟨G182,_,none⟩) (ne_c hw179_3 GW182.1) _).trans (((cF (p:=⟨G182,_,none⟩) (ne_c hw179_3 GW182.1) _).trans (((cF (p:=⟨G182,_,none⟩) (ne_c hw179_3 GW182.1) _).trans (((cF (p:=⟨G182,_,none⟩) (ne_c hw179_3 GW182.1) _).trans (((cF (p:=⟨G182,_,none⟩) (ne_c hw179_3 GW182.1) _).trans (((cF (p:=⟨G182,_,none⟩) (ne_c hw179_3 GW182.1) _).trans (hHeld.2.2.2.1)))))))))))),((cF (p:=⟨G182,_,none⟩) (ne_c hw179_4 GW182.1) _).trans (((cF (p:=⟨G182,_,none⟩) (ne_c hw179_4 GW182.1) _).trans (((cF (p:=⟨G182,_,none⟩) (ne_c hw179_4 GW182.1) _).trans (((cF (p:=⟨G182,_,none⟩) (ne_c hw179_4 GW182.1) _).trans (((cF (p:=⟨G182,_,none⟩) (ne_c hw179_4 GW182.1) _).trans (((cF (p:=⟨G182,_,none⟩) (ne_c hw179_4 GW182.1) _).trans (hHeld.2.2.2.2.1)))))))))))),((cF (p:=⟨G182,_,none⟩) (ne_c hw179_5 GW182.1) _).trans (((cF (p:=⟨G182,_,none⟩) (ne_c hw179_5 GW182.1) _).trans (((cF (p:=⟨G182,_,none⟩) (ne_c hw179_5 GW182.1) _).trans (((cF (p:=⟨G182,_,none⟩) (ne_c hw179_5 GW182.1) _).trans (((cF (p:=⟨G182,_,none⟩) (ne_c hw179_5 GW182.1) _).trans (((cF (p:=⟨G182,_,none⟩) (ne_c hw179_5 GW182.1) _).trans (hHeld.2.2.2.2.2.1)))))))))))),((cF (p:=⟨G182,_,none⟩) (ne_c hw180_0 GW182.1) _).trans (((cF (p:=⟨G182,_,none⟩) (ne_c hw180_0 GW182.1) _).trans (((cF (p:=⟨G182,_,none⟩) (ne_c hw180_0 GW182.1) _).trans (((cF (p:=⟨G182,_,none⟩) (ne_c hw180_0 GW182.1) _).trans (((cF (p:=⟨G182,_,none⟩) (ne_c hw180_0 GW182.1) _).trans (((cF (p:=⟨G182,_,none⟩) (ne_c hw180_0 GW182.1) _).trans (hHeld.2.2.2.2.2.2.1)))))))))))),((cF (p:=⟨G182,_,none⟩) (ne_c hw180_1 GW182.1) _).trans (((cF (p:=⟨G182,_,none⟩) (ne_c hw180_1 GW182.1) _).trans (((cF (p:=⟨G182,_,none⟩) (ne_c hw180_1 GW182.1) _).trans (((cF (p:=⟨G182,_,none⟩) (ne_c hw180_1 GW182.1) _).trans (((cF (p:=⟨G182,_,none⟩) (ne_c hw180_1 GW182.1) _).trans (((cF (p:=⟨G182,_,none⟩) (ne_c hw180_1 GW182.1) _).trans (hHeld.2.2.2.2.2.2.2.1)))))))))))),((cF (p:=⟨G182,_,none⟩) (ne_c hw180_2 GW182.1) _).trans (((cF (p:=⟨G182,_,none⟩) (ne_c hw180_2 GW182.1) _).trans (((cF (p:=⟨G182,_,none⟩) (ne_c hw180_2 GW182.1) _).trans (((cF (p:=⟨G182,_,none⟩) (ne_c hw180_2 GW182.1) _).trans (((cF (p:=⟨G182,_,none⟩) (ne_c hw180_2 GW182.1) _).trans (((cF (p:=⟨G182,_,none⟩) (ne_c hw180_2 GW182.1) _).trans (hHeld.2.2.2.2.2.2.2.2.1)))))))))))),((cF (p:=⟨G182,_,none⟩) (ne_c hw180_3 GW182.1) _).trans (((cF (p:=⟨G182,_,none⟩) (ne_c hw180_3 GW182.1) _).trans (((cF (p:=⟨G182,_,none⟩) (ne_c hw180_3 GW182.1) _).trans (((cF (p:=⟨G182,_,none⟩) (ne_c hw180_3 GW182.1) _).trans (((cF (p:=⟨G182,_,none⟩) (ne_c hw180_3 GW182.1) _).trans (((cF (p:=⟨G182,_,none⟩) (ne_c hw180_3 GW182.1) _).trans (hHeld.2.2.2.2.2.2.2.2.2.1)))))))))))),((cF (p:=⟨G182,_,none⟩) (ne_c hw180_4 GW182.1) _).trans (((cF (p:=⟨G182,_,none⟩) (ne_c hw180_4 GW182.1) _).trans (((cF (p:=⟨G182,_,none⟩) (ne_c hw180_4 GW182.1) _).trans (((cF (p:=⟨G182,_,none⟩) (ne_c hw180_4 GW182.1) _).trans (((cF (p:=⟨G182,_,none⟩) (ne_c hw180_4 GW182.1) _).trans (((cF (p:=⟨G182,_,none⟩) (ne_c hw180_4 GW182.1) _).trans (hHeld.2.2.2.2.2.2.2.2.2.2.1)))))))))))),((cF (p:=⟨G182,_,none⟩) (ne_c hw180_5 GW182.1) _).trans (((cF (p:=⟨G182,_,none⟩) (ne_c hw180_5 GW182.1) _).trans (((cF (p:=⟨G182,_,none⟩) (ne_c hw180_5 GW182.1) _).trans (((cF (p:=⟨G182,_,none⟩) (ne_c hw180_5 GW182.1) _).trans (((cF (p:=⟨G182,_,none⟩) (ne_c hw180_5 GW182.1) _).trans (((cF (p:=⟨G182,_,none⟩) (ne_c hw180_5 GW182.1) _).trans (hHeld.2.2.2.2.2.2.2.2.2.2.2))))))))))))⟩ (fun hHeld => ?_)
           clear hK K
           refine done_ (done_of HT_.out (by kernel_rfl)) ?_
           have hnb88:=NB181_182.1
           have hnc88:=NB182_181.1
           have hcz89_0 : w75.cell? ⟨G181,0,none⟩ = some (.int .i64 0):=zk K181 0
           have hcz89_1 : w75.cell? ⟨G181,1,none⟩ = some (.int .i64 0):=zk K181 1
           have hcz89_2 : w75.cell? ⟨G181,2,none⟩ = some (.float .f64 0):=zk K181 2
           have hcz89_3 : w75.cell? ⟨G181,3,none⟩ = some (.int .i64 0):=zk K181 3
           have hcz89_4 : w75.cell? ⟨G181,4,none⟩ = some (.float .f64 0):=zk K181 4
           have hcz89_5 : w75.cell? ⟨G181,5,none⟩ = some (.int .i64 0):=zk K181 5
           have hfz89_0:=bF K181.1 0
           have hfz89_1:=bF K181.1 1
           have hfz89_2:=bF K181.1 2
           have hfz89_3:=bF K181.1 3
           have hfz89_4:=bF K181.1 4
           have hfz89_5:=bF K181.1 5
           have hcz90_0 : w75.cell? ⟨G182,0,none⟩ = some (.int .i64 0):=zk K182 0
           have hcz90_1 : w75.cell? ⟨G182,1,none⟩ = some (.int .i64 0):=zk K182 1
           have hcz90_2 : w75.cell? ⟨G182,2,none⟩ = some (.float .f64 0):=zk K182 2
           have hcz90_3 : w75.cell? ⟨G182,3,none⟩ = some (.int .i64 0):=zk K182 3
           have hcz90_4 : w75.cell? ⟨G182,4,none⟩ = some (.float .f64 0):=zk K182 4
           have hcz90_5 : w75.cell? ⟨G182,5,none⟩ = some (.int .i64 0):=zk K182 5
           have hfz90_0:=bF K182.1 0
           have hfz90_1:=bF K182.1 1
           have hfz90_2:=bF K182.1 2
           have hfz90_3:=bF K182.1 3
           have hfz90_4:=bF K182.1 4
           have hfz90_5:=bF K182.1 5
           try go_wp2
           go_ret
           exact ⟨by first|rfl|(simp [errW_none,errW_some] <;> rfl)|(simp [*,errW_none,errW_some] <;> rfl),zH HB⟩
         ·rw [if_neg c9] at H
          have c9b0 : (((rd_T39 l0 x5_1).f3) == ((rd_T39 l1 x5_1).f3)) = false:=beq_eq_false_iff_ne.mpr c9
          have c9b1 : (((rd_T39 l0 x5_1).f3) != ((rd_T39 l1 x5_1).f3)) = true:=bne_iff_ne.mpr c9
          obtain rfl:=Option.some.inj H
          try go_wp2
          replace HB:=Aside0.mk (bw1 HB.1)
          have p179 : 0 ≤ (x5_1 : Int):=zd
          have q179 : x5_1 < (l0.length : Int):=zd
          obtain ⟨ad179,e179,hx179_0,hx179_1,hx179_2,hx179_3,hx179_4,hx179_5⟩:=at_T39 HR0.out x5_1 p179 q179
          have hw179_5:=hx179_5
          have hw179_4:=hx179_4
          have hw179_3:=hx179_3
          have hw179_2:=hx179_2
          have hw179_1:=hx179_1
          have hw179_0:=hx179_0
          cases e179
          replace hx179_0:=zh HB hx179_0
          replace hx179_1:=zh HB hx179_1
          replace hx179_2:=zh HB hx179_2
          replace hx179_3:=zh HB hx179_3
          replace hx179_4:=zh HB hx179_4
          replace hx179_5:=zh HB hx179_5
          replace p179:=eq_true p179
          replace q179:=eq_true q179
          have p180 : 0 ≤ (x5_1 : Int):=zd
          have q180 : x5_1 < (l1.length : Int):=zd
          obtain ⟨ad180,e180,hx180_0,hx180_1,hx180_2,hx180_3,hx180_4,hx180_5⟩:=at_T39 HR1.out x5_1 p180 q180
          have hw180_5:=hx180_5
          have hw180_4:=hx180_4
          have hw180_3:=hx180_3
          have hw180_2:=hx180_2
          have hw180_1:=hx180_1
          have hw180_0:=hx180_0
          cases e180
          replace hx180_0:=zh HB hx180_0
          replace hx180_1:=zh HB hx180_1
          replace hx180_2:=zh HB hx180_2
          replace hx180_3:=zh HB hx180_3
          replace hx180_4:=zh HB hx180_4
          replace hx180_5:=zh HB hx180_5
          replace p180:=eq_true p180
          replace q180:=eq_true q180
          refine start_ (n:=12) (S:=fun w' => w'.cell? (ad179.add ((x5_1).toNat * 6)) = some (.int .i64 ((rd_T39 l0 x5_1).f0)) ∧ w'.cell? ⟨(ad179.add ((x5_1).toNat * 6)).block,(ad179.add ((x5_1).toNat * 6)).off + 1,none⟩ = some (.int .i64 ((rd_T39 l0 x5_1).f1)) ∧ w'.cell? ⟨(ad179.add ((x5_1).toNat * 6)).block,(ad179.add ((x5_1).toNat * 6)).off + 2,none⟩ = some (.float .f64 ((rd_T39 l0 x5_1).f2)) ∧ w'.cell? ⟨(ad179.add ((x5_1).toNat * 6)).block,(ad179.add ((x5_1).toNat * 6)).off + 3,none⟩ = some (.int .i64 ((rd_T39 l0 x5_1).f3)) ∧ w'.cell? ⟨(ad179.add ((x5_1).toNat * 6)).block,(ad179.add ((x5_1).toNat * 6)).off + 4,none⟩ = some (.float .f64 ((rd_T39 l0 x5_1).f4)) ∧ w'.cell? ⟨(ad179.add ((x5_1).toNat * 6)).block,(ad179.add ((x5_1).toNat * 6)).off + 5,none⟩ = some (.int .i64 ((rd_T39 l0 x5_1).f5)) ∧ w'.cell? (ad180.add ((x5_1).toNat * 6)) = some (.int .i64 ((rd_T39 l1 x5_1).f0)) ∧ w'.cell? ⟨(ad180.add ((x5_1).toNat * 6)).block,(ad180.add ((x5_1).toNat * 6)).off + 1,none⟩ = some (.int .i64 ((rd_T39 l1 x5_1).f1)) ∧ w'.cell? ⟨(ad180.add ((x5_1).toNat * 6)).block,(ad180.add ((x5_1).toNat * 6)).off + 2,none⟩ = some (.float .f64 ((rd_T39 l1 x5_1).f2)) ∧ w'.cell? ⟨(ad180.add ((x5_1).toNat * 6)).block,(ad180.add ((x5_1).toNat * 6)).off + 3,none⟩ = some (.int .i64 ((rd_T39 l1 x5_1).f3)) ∧ w'.cell? ⟨(ad180.add ((x5_1).toNat * 6)).block,(ad180.add ((x5_1).toNat * 6)).off + 4,none⟩ = some (.float .f64 ((rd_T39 l1 x5_1).f4)) ∧ w'.cell? ⟨(ad180.add ((x5_1).toNat * 6)).block,(ad180.add ((x5_1).toNat * 6)).off + 5,none⟩ = some (.int .i64 ((rd_T39 l1 x5_1).f5))) (ds:=[]) #[F,F,F,F,F,F,F,F,F,F,F,F] (by kernel_rfl) rfl rfl ⟨(zh HB hw179_0),(zh HB hw179_1),(zh HB hw179_2),(zh HB hw179_3),(zh HB hw179_4),(zh HB hw179_5),(zh HB hw180_0),(zh HB hw180_1),(zh HB hw180_2),(zh HB hw180_3),(zh HB hw180_4),(zh HB hw180_5)⟩ (fun hHeld => ?_);refine with_tabW beaconref09_SameEntries.tab6 beaconref09_SameEntries.bits6 (fun HT_ HW_ => ?_)
          generalize wr.drew = w91 at HB hx179_0 hx179_1 hx179_2 hx179_3 hx179_4 hx179_5 hx180_0 hx180_1 hx180_2 hx180_3 hx180_4 hx180_5 hHeld ⊢
          refine pz 0 19 #[T,F,F,F,F,F,F,F,F,F,F,F] HT_.1 ?_
          refine pz 1 20 #[T,T,F,F,F,F,F,F,F,F,F,F] HT_.1 ?_
          refine pz 2 21 #[T,T,T,F,F,F,F,F,F,F,F,F] HT_.1 ?_
          refine pz 4 23 #[T,T,T,F,T,F,F,F,F,F,F,F] HT_.1 ?_
          refine pz 5 24 #[T,T,T,F,T,T,F,F,F,F,F,F] HT_.1 ?_
          refine pz 6 25 #[T,T,T,F,T,T,T,F,F,F,F,F] HT_.1 ?_
          refine tz 3 22 #[T,T,T,T,T,T,T,F,F,F,F,F] HT_.1 HW_.1 hHeld ?_
          refine tz 7 26 #[T,T,T,T,T,T,T,T,F,F,F,F] HT_.1 HW_.1 hHeld ?_
          refine join_ (σ:=Nat × Nat) 2 #[T,T,T,T,T,T,T,T,T,T,F,F] (fun s_ => [(6,.pointer (some ⟨s_.1,0,none⟩)),(7,.pointer (some ⟨s_.2,0,none⟩))]) (fun s_ w' => (w'.cell? (ad179.add ((x5_1).toNat * 6)) = some (.int .i64 ((rd_T39 l0 x5_1).f0)) ∧ w'.cell? ⟨(ad179.add ((x5_1).toNat * 6)).block,(ad179.add ((x5_1).toNat * 6)).off + 1,none⟩ = some (.int .i64 ((rd_T39 l0 x5_1).f1)) ∧ w'.cell? ⟨(ad179.add ((x5_1).toNat * 6)).block,(ad179.add ((x5_1).toNat * 6)).off + 2,none⟩ = some (.float .f64 ((rd_T39 l0 x5_1).f2)) ∧ w'.cell? ⟨(ad179.add ((x5_1).toNat * 6)).block,(ad179.add ((x5_1).toNat * 6)).off + 3,none⟩ = some (.int .i64 ((rd_T39 l0 x5_1).f3)) ∧ w'.cell? ⟨(ad179.add ((x5_1).toNat * 6)).block,(ad179.add ((x5_1).toNat * 6)).off + 4,none⟩ = some (.float .f64 ((rd_T39 l0 x5_1).f4)) ∧ w'.cell? ⟨(ad179.add ((x5_1).toNat * 6)).block,(ad179.add ((x5_1).toNat * 6)).off + 5,none⟩ = some (.int .i64 ((rd_T39 l0 x5_1).f5)) ∧ w'.cell? (ad180.add ((x5_1).toNat * 6)) = some (.int .i64 ((rd_T39 l1 x5_1).f0)) ∧ w'.cell? ⟨(ad180.add ((x5_1).toNat * 6)).block,(ad180.add ((x5_1).toNat * 6)).off + 1,none⟩ = some (.int .i64 ((rd_T39 l1 x5_1).f1)) ∧ w'.cell? ⟨(ad180.add ((x5_1).toNat * 6)).block,(ad180.add ((x5_1).toNat * 6)).off + 2,none⟩ = some (.float .f64 ((rd_T39 l1 x5_1).f2)) ∧ w'.cell? ⟨(ad180.add ((x5_1).toNat * 6)).block,(ad180.add ((x5_1).toNat * 6)).off + 3,none⟩ = some (.int .i64 ((rd_T39 l1 x5_1).f3)) ∧ w'.cell? ⟨(ad180.add ((x5_1).toNat * 6)).block,(ad180.add ((x5_1).toNat * 6)).off + 4,none⟩ = some (.float .f64 ((rd_T39 l1 x5_1).f4)) ∧ w'.cell? ⟨(ad180.add ((x5_1).toNat * 6)).block,(ad180.add ((x5_1).toNat * 6)).off + 5,none⟩ = some (.int .i64 ((rd_T39 l1 x5_1).f5))) ∧ (w'.heap[s_.1]? = some (.cells #[.int .i64 0,.int .i64 0,.float .f64 0,.int .i64 0,.float .f64 0,.int .i64 0] 39 (0,0))) ∧ (w'.heap[s_.2]? = some (.cells #[.int .i64 0,.int .i64 0,.float .f64 0,.int .i64 0,.float .f64 0,.int .i64 0] 39 (0,0))) ∧ (w.heap.size ≤ s_.1) ∧ (w.heap.size ≤ s_.1) ∧ (s_.2 ≠ s_.1) ∧ (s_.1 ≠ s_.2) ∧ (w.heap.size ≤ s_.2) ∧ (w.heap.size ≤ s_.2) ∧ (Below w.heap.size w w')) ?_ ?_
          rotate_left
          ·intro hCont
           refine two_ (i:=8) (j:=9) (Ni:=some 6) (Nj:=some 7) #[T,T,T,T,T,T,T,T,T,F,F,F] #[T,T,T,T,T,T,T,T,F,T,F,F] rfl rfl rfl rfl (two_of HT_.out (by kernel_rfl)) (by decide) (by decide) (fun K hK => ?_) (fun K hK => ?_)
           ·skip
            refine box_step ?hg (N:=6) ?hd (cs:=#[.int .i64 0,.int .i64 0,.float .f64 0,.int .i64 0,.float .f64 0,.int .i64 0]) (t:=39) ?hr ?_;(case hd => rfl);(case hg => exact zw);(case hr => first|(go_simp;done)|(go_simp;rfl))
            intro G181 hg w92 hbox hb
            have K181:=Aside0.mk (hbox)
            have GW181:=zN HB hg
            have GE181:=zN HB hg
            replace HB:=zS HB hb
            clear hb hbox hg
            refine hK.out _ _ ⟨(zh HB hw179_0),(zh HB hw179_1),(zh HB hw179_2),(zh HB hw179_3),(zh HB hw179_4),(zh HB hw179_5),(zh HB hw180_0),(zh HB hw180_1),(zh HB hw180_2),(zh HB hw180_3),(zh HB hw180_4),(zh HB hw180_5)⟩ (fun hHeld => ?_)
            clear hK K
            refine nz 6 ?_
            refine one_ (i:=9) (N:=some 7) #[T,T,T,T,T,T,T,T,T,T,F,F] rfl rfl (one_of HT_.out (by kernel_rfl)) (by decide) (fun K hK => ?_)
            refine box_step ?hg (N:=7) ?hd (cs:=#[.int .i64 0,.int .i64 0,.float .f64 0,.int .i64 0,.float .f64 0,.int .i64 0]) (t:=39) ?hr ?_;(case hd => rfl);(case hg => exact zw);(case hr => first|(go_simp;done)|(go_simp;rfl))
            intro G182 hg w93 hbox hb
            have K182:=Aside0.mk (hbox)
            have GW182:=zN HB hg
            have GE182:=zN HB hg
            replace HB:=zS HB hb
            have NB181_182:=zL K181 hg
            have NB182_181:=zG K181 hg
            replace K181:=zB K181 hb
            clear hb hbox hg
            refine hK.out _ _ ⟨(zh HB hw179_0),(zh HB hw179_1),(zh HB hw179_2),(zh HB hw179_3),(zh HB hw179_4),(zh HB hw179_5),(zh HB hw180_0),(zh HB hw180_1),(zh HB hw180_2),(zh HB hw180_3),(zh HB hw180_4),(zh HB hw180_5)⟩ (fun hHeld => ?_)
            clear hK K
            refine nz 7 ?_
            exact norm_ (by simp only [putAll,Act.put,xA,xB,xC]) (hCont (G181,G182) _ ⟨hHeld,(z1 K181.1),(z1 K182.1),GW181.1,GE181.1,NB182_181.1,NB181_182.1,GW182.1,GE182.1,(zH HB)⟩)
           ·skip
            refine box_step ?hg (N:=7) ?hd (cs:=#[.int .i64 0,.int .i64 0,.float .f64 0,.int .i64 0,.float .f64 0,.int .i64 0]) (t:=39) ?hr ?_;(case hd => rfl);(case hg => exact zw);(case hr => first|(go_simp;done)|(go_simp;rfl))
            intro G182 hg w92 hbox hb
            have K182:=Aside0.mk (hbox)
            have GW182:=zN HB hg
            have GE182:=zN HB hg
            replace HB:=zS HB hb
            clear hb hbox hg
            refine hK.out _ _ ⟨(zh HB hw179_0),(zh HB hw179_1),(zh HB hw179_2),(zh HB hw179_3),(zh HB hw179_4),(zh HB hw179_5),(zh HB hw180_0),(zh HB hw180_1),(zh HB hw180_2),(zh HB hw180_3),(zh HB hw180_4),(zh HB hw180_5)⟩ (fun hHeld => ?_)
            clear hK K
            refine nz 7 ?_
            refine one_ (i:=8) (N:=some 6) #[T,T,T,T,T,T,T,T,T,T,F,F] rfl rfl (one_of HT_.out (by kernel_rfl)) (by decide) (fun K hK => ?_)
            refine box_step ?hg (N:=6) ?hd (cs:=#[.int .i64 0,.int .i64 0,.float .f64 0,.int .i64 0,.float .f64 0,.int .i64 0]) (t:=39) ?hr ?_;(case hd => rfl);(case hg => exact zw);(case hr => first|(go_simp;done)|(go_simp;rfl))
            intro G181 hg w93 hbox hb
            have K181:=Aside0.mk (hbox)
            have GW181:=zN HB hg
            have GE181:=zN HB hg
            replace HB:=zS HB hb
            have NB182_181:=zL K182 hg
            have NB181_182:=zG K182 hg
            replace K182:=zB K182 hb
            clear hb hbox hg
            refine hK.out _ _ ⟨(zh HB hw179_0),(zh HB hw179_1),(zh HB hw179_2),(zh HB hw179_3),(zh HB hw179_4),(zh HB hw179_5),(zh HB hw180_0),(zh HB hw180_1),(zh HB hw180_2),(zh HB hw180_3),(zh HB hw180_4),(zh HB hw180_5)⟩ (fun hHeld => ?_)
            clear hK K
            refine nz 6 ?_
            exact norm_ (by simp only [putAll,Act.put,xA,xB,xC]) (hCont (G181,G182) _ ⟨hHeld,(z1 K181.1),(z1 K182.1),GW181.1,GE181.1,NB182_181.1,NB181_182.1,GW182.1,GE182.1,(zH HB)⟩)
          rintro ⟨G181,G182⟩ w94 ⟨hS_,h0_,h1_,h2_,h3_,h4_,h5_,h6_,h7_,h8_⟩
          have K181 : Aside0 (w94.heap[G181]? = some (.cells #[.int .i64 0,.int .i64 0,.float .f64 0,.int .i64 0,.float .f64 0,.int .i64 0] 39 (0,0))):=⟨h0_⟩
          have K182 : Aside0 (w94.heap[G182]? = some (.cells #[.int .i64 0,.int .i64 0,.float .f64 0,.int .i64 0,.float .f64 0,.int .i64 0] 39 (0,0))):=⟨h1_⟩
          have GW181 : Aside0 (w.heap.size ≤ G181):=⟨h2_⟩
          have GE181 : Aside0 (w.heap.size ≤ G181):=⟨h3_⟩
          have NB182_181 : Aside0 (G182 ≠ G181):=⟨h4_⟩
          have NB181_182 : Aside0 (G181 ≠ G182):=⟨h5_⟩
          have GW182 : Aside0 (w.heap.size ≤ G182):=⟨h6_⟩
          have GE182 : Aside0 (w.heap.size ≤ G182):=⟨h7_⟩
          replace HB : Aside0 (Below w.heap.size w w94):=⟨h8_⟩
          clear h0_ h1_ h2_ h3_ h4_ h5_ h6_ h7_ h8_
          have hHeld : w94.cell? (ad179.add ((x5_1).toNat * 6)) = some (.int .i64 ((rd_T39 l0 x5_1).f0)) ∧ w94.cell? ⟨(ad179.add ((x5_1).toNat * 6)).block,(ad179.add ((x5_1).toNat * 6)).off + 1,none⟩ = some (.int .i64 ((rd_T39 l0 x5_1).f1)) ∧ w94.cell? ⟨(ad179.add ((x5_1).toNat * 6)).block,(ad179.add ((x5_1).toNat * 6)).off + 2,none⟩ = some (.float .f64 ((rd_T39 l0 x5_1).f2)) ∧ w94.cell? ⟨(ad179.add ((x5_1).toNat * 6)).block,(ad179.add ((x5_1).toNat * 6)).off + 3,none⟩ = some (.int .i64 ((rd_T39 l0 x5_1).f3)) ∧ w94.cell? ⟨(ad179.add ((x5_1).toNat * 6)).block,(ad179.add ((x5_1).toNat * 6)).off + 4,none⟩ = some (.float .f64 ((rd_T39 l0 x5_1).f4)) ∧ w94.cell? ⟨(ad179.add ((x5_1).toNat * 6)).block,(ad179.add ((x5_1).toNat * 6)).off + 5,none⟩ = some (.int .i64 ((rd_T39 l0 x5_1).f5)) ∧ w94.cell? (ad180.add ((x5_1).toNat * 6)) = some (.int .i64 ((rd_T39 l1 x5_1).f0)) ∧ w94.cell? ⟨(ad180.add ((x5_1).toNat * 6)).block,(ad180.add ((x5_1).toNat * 6)).off + 1,none⟩ = some (.int .i64 ((rd_T39 l1 x5_1).f1)) ∧ w94.cell? ⟨(ad180.add ((x5_1).toNat * 6)).block,(ad180.add ((x5_1).toNat * 6)).off + 2,none⟩ = some (.float .f64 ((rd_T39 l1 x5_1).f2)) ∧ w94.cell? ⟨(ad180.add ((x5_1).toNat * 6)).block,(ad180.add ((x5_1).toNat * 6)).off + 3,none⟩ = some (.int .i64 ((rd_T39 l1 x5_1).f3)) ∧ w94.cell? ⟨(ad180.add ((x5_1).toNat * 6)).block,(ad180.add ((x5_1).toNat * 6)).off + 4,none⟩ = some (.float .f64 ((rd_T39 l1 x5_1).f4)) ∧ w94.cell? ⟨(ad180.add ((x5_1).toNat * 6)).block,(ad180.add ((x5_1).toNat * 6)).off + 5,none⟩ = some (.int .i64 ((rd_T39 l1 x5_1).f5)):=hS_
          refine norm_ (a':=?_) ?_ ?_
          rotate_left
          ·simp only [putAll,Act.put,xA,xB,xC]
           rfl
          refine one_ (i:=10) (N:=none) #[T,T,T,T,T,T,T,T,T,T,T,F] rfl rfl (one_of HT_.out (by kernel_rfl)) (by decide) (fun K hK => ?_)
          have hs95 : w94.cell? ⟨G181,0,none⟩ = some (.int .i64 0):=zk K181 0
          have hfs95:=bF K181.1 0
          have hns95_1:=NB182_181.1
          have hms95_1:=NB181_182.1
          have hs96 : w94.cell? ⟨G181,1,none⟩ = some (.int .i64 0):=zk K181 1
          have hfs96:=bF K181.1 1
          have hns96_1:=NB182_181.1
          have hms96_1:=NB181_182.1
          have hs97 : w94.cell? ⟨G181,2,none⟩ = some (.float .f64 0):=zk K181 2
          have hfs97:=bF K181.1 2
          have hns97_1:=NB182_181.1
          have hms97_1:=NB181_182.1
          have hs98 : w94.cell? ⟨G181,3,none⟩ = some (.int .i64 0):=zk K181 3
          have hfs98:=bF K181.1 3
          have hns98_1:=NB182_181.1
          have hms98_1:=NB181_182.1
          have hs99 : w94.cell? ⟨G181,4,none⟩ = some (.float .f64 0):=zk K181 4
          have hfs99:=bF K181.1 4
          have hns99_1:=NB182_181.1
          have hms99_1:=NB181_182.1
          have hs100 : w94.cell? ⟨G181,5,none⟩ = some (.int .i64 0):=zk K181 5
          have hfs100:=bF K181.1 5
          have hns100_1:=NB182_181.1
          have hms100_1:=NB181_182.1
          refine sz ?_
          refine hK.out _ _ ⟨((cF (p:=⟨G181,_,none⟩) (ne_c hw179_0 GW181.1) _).trans (((cF (p:=⟨G181,_,none⟩) (ne_c hw179_0 GW181.1) _).trans (((cF (p:=⟨G181,_,none⟩) (ne_c hw179_0 GW181.1) _).trans (((cF (p:=⟨G181,_,none⟩) (ne_c hw179_0 GW181.1) _).trans (((cF (p:=⟨G181,_,none⟩) (ne_c hw179_0 GW181.1) _).trans (((cF (p:=⟨G181,_,none⟩) (ne_c hw179_0 GW181.1) _).trans (hHeld.1)))))))))))),((cF (p:=⟨G181,_,none⟩) (ne_c hw179_1 GW181.1) _).trans (((cF (p:=⟨G181,_,none⟩) (ne_c hw179_1 GW181.1) _).trans (((cF (p:=⟨G181,_,none⟩) (ne_c hw179_1 GW181.1) _).trans (((cF (p:=⟨G181,_,none⟩) (ne_c hw179_1 GW181.1) _).trans (((cF (p:=⟨G181,_,none⟩) (ne_c hw179_1 GW181.1) _).trans (((cF (p:=⟨G181,_,none⟩) (ne_c hw179_1 GW181.1) _).trans (hHeld.2.1)))))))))))),((cF (p:=⟨G181,_,none⟩) (ne_c hw179_2 GW181.1) _).trans (((cF (p:=⟨G181,_,none⟩) (ne_c hw179_2 GW181.1) _).trans (((cF (p:=⟨G181,_,none⟩) (ne_c hw179_2 GW181.1) _).trans (((cF (p:=⟨G181,_,none⟩) (ne_c hw179_2 GW181.1) _).trans (((cF (p:=⟨G181,_,none⟩) (ne_c hw179_2 GW181.1) _).trans (((cF (p:=⟨G181,_,none⟩) (ne_c hw179_2 GW181.1) _).trans (hHeld.2.2.1)))))))))))),((cF (p:=⟨G181,_,none⟩) (ne_c hw179_3 GW181.1) _).trans (((cF (p:=⟨G181,_,none⟩) (ne_c hw179_3 GW181.1) _).trans (((cF (p:=⟨G181,_,none⟩) (ne_c hw179_3 GW181.1) _).trans (((cF (p:=⟨G181,_,none⟩) (ne_c hw179_3 GW181.1) _).trans (((cF (p:=⟨G181,_,none⟩) (ne_c hw179_3 GW181.1) _).trans (((cF (p:=⟨G181,_,none⟩) (ne_c hw179_3 GW181.1) _).trans (hHeld.2.2.2.1)))))))))))),((cF (p:=⟨G181,_,none⟩) (ne_c hw179_4 GW181.1) _).trans (((cF (p:=⟨G181,_,none⟩) (ne_c hw179_4 GW181.1) _).trans (((cF (p:=⟨G181,_,none⟩) (ne_c hw179_4 GW181.1) _).trans (((cF (p:=⟨G181,_,none⟩) (ne_c hw179_4 GW181.1) _).trans (((cF (p:=⟨G181,_,none⟩) (ne_c hw179_4 GW181.1) _).trans (((cF (p:=⟨G181,_,none⟩) (ne_c hw179_4 GW181.1) _).trans (hHeld.2.2.2.2.1)))))))))))),((cF (p:=⟨G181,_,none⟩) (ne_c hw179_5 GW181.1) _).trans (((cF (p:=⟨G181,_,none⟩) (ne_c hw179_5 GW181.1) _).trans (((cF (p:=⟨G181,_,none⟩) (ne_c hw179_5 GW181.1) _).trans (((cF (p:=⟨G181,_,none⟩) (ne_c hw179_5 GW181.1) _).trans (((cF (p:=⟨G181,_,none⟩) (ne_c hw179_5 GW181.1) _).trans (((cF (p:=⟨G181,_,none⟩) (ne_c hw179_5 GW181.1) _).trans (hHeld.2.2.2.2.2.1)))))))))))),((cF (p:=⟨G181,_,none⟩) (ne_c hw180_0 GW181.1) _).trans (((cF (p:=⟨G181,_,none⟩) (ne_c hw180_0 GW181.1) _).trans (((cF (p:=⟨G181,_,none⟩) (ne_c hw180_0 GW181.1) _).trans (((cF (p:=⟨G181,_,none⟩) (ne_c hw180_0 GW181.1) _).trans (((cF (p:=⟨G181,_,none⟩) (ne_c hw180_0 GW181.1) _).trans (((cF (p:=⟨G181,_,none⟩) (ne_c hw180_0 GW181.1) _).trans (hHeld.2.2.2.2.2.2.1)))))))))))),((cF (p:=⟨G181,_,none⟩) (ne_c hw180_1 GW181.1) _).trans (((cF (p:=⟨G181,_,none⟩) (ne_c hw180_1 GW181.1) _).trans (((cF (p:=⟨G181,_,none⟩) (ne_c hw180_1 GW181.1) _).trans (((cF (p:=⟨G181,_,none⟩) (ne_c hw180_1 GW181.1) _).trans (((cF (p:=⟨G181,_,none⟩) (ne_c hw180_1 GW181.1) _).trans (((cF (p:=⟨G181,_,none⟩) (ne_c hw180_1 GW181.1) _).trans (hHeld.2.2.2.2.2.2.2.1)))))))))))),((cF (p:=⟨G181,_,none⟩) (ne_c hw180_2 GW181.1) _).trans (((cF (p:=⟨G181,_,none⟩) (ne_c hw180_2 GW181.1) _).trans (((cF (p:=⟨G181,_,none⟩) (ne_c hw180_2 GW181.1) _).trans (((cF (p:=⟨G181,_,none⟩) (ne_c hw180_2 GW181.1) _).trans (((cF (p:=⟨G181,_,none⟩) (ne_c hw180_2 GW181.1) _).trans (((cF (p:=⟨G181,_,none⟩) (ne_c hw180_2 GW181.1) _).trans (hHeld.2.2.2.2.2.2.2.2.1)))))))))))),((cF (p:=⟨G181,_,none⟩) (ne_c hw180_3 GW181.1) _).trans (((cF (p:=⟨G181,_,none⟩) (ne_c hw180_3 GW181.1) _).trans (((cF (p:=⟨G181,_,none⟩) (ne_c hw180_3 GW181.1) _).trans (((cF (p:=⟨G181,_,none⟩) (ne_c hw180_3 GW181.1) _).trans (((cF (p:=⟨G181,_,none⟩) (ne_c hw180_3 GW181.1) _).trans (((cF (p:=⟨G181,_,none⟩) (ne_c hw180_3 GW181.1) _).trans (hHeld.2.2.2.2.2.2.2.2.2.1)))))))))))),((cF (p:=⟨G181,_,none⟩) (ne_c hw180_4 GW181.1) _).trans (((cF (p:=⟨G181,_,none⟩) (ne_c hw180_4 GW181.1) _).trans (((cF (p:=⟨G181,_,none⟩) (ne_c hw180_4 GW181.1) _).trans (((cF (p:=⟨G181,_,none⟩) (ne_c hw180_4 GW181.1) _).trans (((cF (p:=⟨G181,_,none⟩) (ne_c hw180_4 GW181.1) _).trans (((cF (p:=⟨G181,_,none⟩) (ne_c hw180_4 GW181.1) _).trans (hHeld.2.2.2.2.2.2.2.2.2.2.1)))))))))))),((cF (p:=⟨G181,_,none⟩) (ne_c hw180_5 GW181.1) _).trans (((cF (p:=⟨G181,_,none⟩) (ne_c hw180_5 GW181.1) _).trans (((cF (p:=⟨G181,_,none⟩) (ne_c hw180_5 GW181.1) _).trans (((cF (p:=⟨G181,_,none⟩) (ne_c hw180_5 GW181.1) _).trans (((cF (p:=⟨G181,_,none⟩) (ne_c hw180_5 GW181.1) _).trans (((cF (p:=⟨G181,_,none⟩) (ne_c hw180_5 GW181.1) _).trans (hHeld.2.2.2.2.2.2.2.2.2.2.2))))))))))))⟩ (fun hHeld => ?_)
          clear hK K
          refine one_ (i:=11) (N:=none) #[T,T,T,T,T,T,T,T,T,T,T,T] rfl rfl (one_of HT_.out (by kernel_rfl)) (by decide) (fun K hK => ?_)
          have hs101 : w94.cell? ⟨G182,0,none⟩ = some (.int .i64 0):=zk K182 0
          have hfs101:=bF K182.1 0
          have hns101_0:=NB181_182.1
          have hms101_0:=NB182_181.1
          have hs102 : w94.cell? ⟨G182,1,none⟩ = some (.int .i64 0):=zk K182 1
          have hfs102:=bF K182.1 1
          have hns102_0:=NB181_182.1
          have hms102_0:=NB182_181.1
          have hs103 : w94.cell? ⟨G182,2,none⟩ = some (.float .f64 0):=zk K182 2
          have hfs103:=bF K182.1 2
          have hns103_0:=NB181_182.1
          have hms103_0:=NB182_181.1
          have hs104 : w94.cell? ⟨G182,3,none⟩ = some (.int .i64 0):=zk K182 3
          have hfs104:=bF K182.1 3
          have hns104_0:=NB181_182.1
          have hms104_0:=NB182_181.1
          have hs105 : w94.cell? ⟨G182,4,none⟩ = some (.float .f64 0):=zk K182 4
          have hfs105:=bF K182.1 4
          have hns105_0:=NB181_182.1
          have hms105_0:=NB182_181.1
          have hs106 : w94.cell? ⟨G182,5,none⟩ = some (.int .i64 0):=zk K182 5
          have hfs106:=bF K182.1 5
          have hns106_0:=NB181_182.1
          have hms106_0:=NB182_181.1
          refine sz ?_
          refine hK.out _ _ ⟨((cF (p:=⟨G182,_,none⟩) (ne_c hw179_0 GW182.1) _).trans (((cF (p:=⟨G182,_,none⟩) (ne_c hw179_0 GW182.1) _).trans (((cF (p:=⟨G182,_,none⟩) (ne_c hw179_0 GW182.1) _).trans (((cF (p:=⟨G182,_,none⟩) (ne_c hw179_0 GW182.1) _).trans (((cF (p:=⟨G182,_,none⟩) (ne_c hw179_0 GW182.1) _).trans (((cF (p:=⟨G182,_,none⟩) (ne_c hw179_0 GW182.1) _).trans (hHeld.1)))))))))))),((cF (p:=⟨G182,_,none⟩) (ne_c hw179_1 GW182.1) _).trans (((cF (p:=⟨G182,_,none⟩) (ne_c hw179_1 GW182.1) _).trans (((cF (p:=⟨G182,_,none⟩) (ne_c hw179_1 GW182.1) _).trans (((cF (p:=⟨G182,_,none⟩) (ne_c hw179_1 GW182.1) _).trans (((cF (p:=⟨G182,_,none⟩) (ne_c hw179_1 GW182.1) _).trans (((cF (p:=⟨G182,_,none⟩) (ne_c hw179_1 GW182.1) _).trans (hHeld.2.1)))))))))))),((cF (p:=⟨G182,_,none⟩) (ne_c hw179_2 GW182.1) _).trans (((cF (p:=⟨G182,_,none⟩) (ne_c hw179_2 GW182.1) _).trans (((cF (p:=⟨G182,_,none⟩) (ne_c hw179_2 GW182.1) _).trans (((cF (p:=⟨G182,_,none⟩) (ne_c hw179_2 GW182.1) _).trans (((cF (p:=⟨G182,_,none⟩) (ne_c hw179_2 GW182.1) _).trans (((cF (p:=⟨G182,_,none⟩) (ne_c hw179_2 GW182.1) _).trans (hHeld.2.2.1)))))))))))),((cF (p:=⟨G182,_,none⟩) (ne_c hw179_3 GW182.1) _).trans (((cF (p:=⟨G182,_,none⟩) (ne_c hw179_3 GW182.1) _).trans (((cF (p:=⟨G182,_,none⟩) (ne_c hw179_3 GW182.1) _).trans (((cF (p:=⟨G182,_,none⟩) (ne_c hw179_3 GW182.1) _).trans (((cF (p:=⟨G182,_,none⟩) (ne_c hw179_3 GW182.1) _).trans (((cF (p:=⟨G182,_,none⟩) (ne_c hw179_3 GW182.1) _).trans (hHeld.2.2.2.1)))))))))))),((cF (p:=⟨G182,_,none⟩) (ne_c hw179_4 GW182.1) _).trans (((cF (p:=⟨G182,_,none⟩) (ne_c hw179_4 GW182.1) _).trans (((cF (p:=⟨G182,_,none⟩) (ne_c hw179_4 GW182.1) _).trans (((cF (p:=⟨G182,_,none⟩) (ne_c hw179_4 GW182.1) _).trans (((cF (p:=⟨G182,_,none⟩) (ne_c hw179_4 GW182.1) _).trans (((cF (p:=⟨G182,_,none⟩) (ne_c hw179_4 GW182.1) _).trans (hHeld.2.2.2.2.1)))))))))))),((cF (p:=⟨G182,_,none⟩) (ne_c hw179_5 GW182.1) _).trans (((cF (p:=⟨G182,_,none⟩) (ne_c hw179_5 GW182.1) _).trans (((cF (p:=⟨G182,_,none⟩) (ne_c hw179_5 GW182.1) _).trans (((cF (p:=⟨G182,_,none⟩) (ne_c hw179_5 GW182.1) _).trans (((cF (p:=⟨G182,_,none⟩) (ne_c hw179_5 GW182.1) _).trans (((cF (p:=⟨G182,_,none⟩) (ne_c hw179_5 GW182.1) _).trans (hHeld.2.2.2.2.2.1)))))))))))),((cF (p:=⟨G182,_,none⟩) (ne_c hw180_0 GW182.1) _).trans (((cF (p:=⟨G182,_,none⟩) (ne_c hw180_0 GW182.1) _).trans (((cF (p:=⟨G182,_,none⟩) (ne_c hw180_0 GW182.1) _).trans (((cF (p:=⟨G182,_,none⟩) (ne_c hw180_0 GW182.1) _).trans (((cF (p:=⟨G182,_,none⟩) (ne_c hw180_0 GW182.1) _).trans (((cF (p:=⟨G182,_,none⟩) (ne_c hw180_0 GW182.1) _).trans (hHeld.2.2.2.2.2.2.1)))))))))))),((cF (p:=⟨G182,_,none⟩) (ne_c hw180_1 GW182.1) _).trans (((cF (p:=⟨G182,_,none⟩) (ne_c hw180_1 GW182.1) _).trans (((cF (p:=⟨G182,_,none⟩) (ne_c hw180_1 GW182.1) _).trans (((cF (p:=⟨G182,_,none⟩) (ne_c hw180_1 GW182.1) _).trans (((cF (p:=⟨G182,_,none⟩) (ne_c hw180_1 GW182.1) _).trans (((cF (p:=⟨G182,_,none⟩) (ne_c hw180_1 GW182.1) _).trans (hHeld.2.2.2.2.2.2.2.1)))))))))))),((cF (p:=⟨G182,_,none⟩) (ne_c hw180_2 GW182.1) _).trans (((cF (p:=⟨G182,_,none⟩) (ne_c hw180_2 GW182.1) _).trans (((cF (p:=⟨G182,_,none⟩) (ne_c hw180_2 GW182.1) _).trans (((cF (p:=⟨G182,_,none⟩) (ne_c hw180_2 GW182.1) _).trans (((cF (p:=⟨G182,_,none⟩) (ne_c hw180_2 GW182.1) _).trans (((cF (p:=⟨G182,_,none⟩) (ne_c hw180_2 GW182.1) _).trans (hHeld.2.2.2.2.2.2.2.2.1)))))))))))),((cF (p:=⟨G182,_,none⟩) (ne_c hw180_3 GW182.1) _).trans (((cF (p:=⟨G182,_,none⟩) (ne_c hw180_3 GW182.1) _).trans (((cF (p:=⟨G182,_,none⟩) (ne_c hw180_3 GW182.1) _).trans (((cF (p:=⟨G182,_,none⟩) (ne_c hw180_3 GW182.1) _).trans (((cF (p:=⟨G182,_,none⟩) (ne_c hw180_3 GW182.1) _).trans (((cF (p:=⟨G182,_,none⟩) (ne_c hw180_3 GW182.1) _).trans (hHeld.2.2.2.2.2.2.2.2.2.1)))))))))))),((cF (p:=⟨G182,_,none⟩) (ne_c hw180_4 GW182.1) _).trans (((cF (p:=⟨G182,_,none⟩) (ne_c hw180_4 GW182.1) _).trans (((cF (p:=⟨G182,_,none⟩) (ne_c hw180_4 GW182.1) _).trans (((cF (p:=⟨G182,_,none⟩) (ne_c hw180_4 GW182.1) _).trans (((cF (p:=⟨G182,_,none⟩) (ne_c hw180_4 GW182.1) _).trans (((cF (p:=⟨G182,_,none⟩) (ne_c hw180_4 GW182.1) _).trans (hHeld.2.2.2.2.2.2.2.2.2.2.1)))))))))))),((cF (p:=⟨G182,_,none⟩) (ne_c hw180_5 GW182.1) _).trans (((cF (p:=⟨G182,_,none⟩) (ne_c hw180_5 GW182.1) _).trans (((cF (p:=⟨G182,_,none⟩) (ne_c hw180_5 GW182.1) _).trans (((cF (p:=⟨G182,_,none⟩) (ne_c hw180_5 GW182.1) _).trans (((cF (p:=⟨G182,_,none⟩) (ne_c hw180_5 GW182.1) _).trans (((cF (p:=⟨G182,_,none⟩) (ne_c hw180_5 GW182.1) _).trans (hHeld.2.2.2.2.2.2.2.2.2.2.2))))))))))))⟩ (fun hHeld => ?_)
          clear hK K
          refine done_ (done_of HT_.out (by kernel_rfl)) ?_
          have hnb107:=NB181_182.1
          have hnc107:=NB182_181.1
          have hcz108_0 : w94.cell? ⟨G181,0,none⟩ = some (.int .i64 0):=zk K181 0
          have hcz108_1 : w94.cell? ⟨G181,1,none⟩ = some (.int .i64 0):=zk K181 1
          have hcz108_2 : w94.cell? ⟨G181,2,none⟩ = some (.float .f64 0):=zk K181 2
          have hcz108_3 : w94.cell? ⟨G181,3,none⟩ = some (.int .i64 0):=zk K181 3
          have hcz108_4 : w94.cell? ⟨G181,4,none⟩ = some (.float .f64 0):=zk K181 4
          have hcz108_5 : w94.cell? ⟨G181,5,none⟩ = some (.int .i64 0):=zk K181 5
          have hfz108_0:=bF K181.1 0
          have hfz108_1:=bF K181.1 1
          have hfz108_2:=bF K181.1 2
          have hfz108_3:=bF K181.1 3
          have hfz108_4:=bF K181.1 4
          have hfz108_5:=bF K181.1 5
          have hcz109_0 : w94.cell? ⟨G182,0,none⟩ = some (.int .i64 0):=zk K182 0
          have hcz109_1 : w94.cell? ⟨G182,1,none⟩ = some (.int .i64 0):=zk K182 1
          have hcz109_2 : w94.cell? ⟨G182,2,none⟩ = some (.float .f64 0):=zk K182 2
          have hcz109_3 : w94.cell? ⟨G182,3,none⟩ = some (.int .i64 0):=zk K182 3
          have hcz109_4 : w94.cell? ⟨G182,4,none⟩ = some (.float .f64 0):=zk K182 4
          have hcz109_5 : w94.cell? ⟨G182,5,none⟩ = some (.int .i64 0):=zk K182 5
          have hfz109_0:=bF K182.1 0
          have hfz109_1:=bF K182.1 1
          have hfz109_2:=bF K182.1 2
          have hfz109_3:=bF K182.1 3
          have hfz109_4:=bF K182.1 4
          have hfz109_5:=bF K182.1 5
          try go_wp2
          go_ret
          exact ⟨by first|rfl|(simp [errW_none,errW_some] <;> rfl)|(simp [*,errW_none,errW_some] <;> rfl),zH HB⟩
        ·rw [if_neg c8] at H
         have c8b0 : (((rd_T39 l0 x5_1).f1) == ((rd_T39 l1 x5_1).f1)) = false:=beq_eq_false_iff_ne.mpr c8
         have c8b1 : (((rd_T39 l0 x5_1).f1) != ((rd_T39 l1 x5_1).f1)) = true:=bne_iff_ne.mpr c8
         obtain rfl:=Option.some.inj H
         try go_wp2
         replace HB:=Aside0.mk (bw1 HB.1)
         have p179 : 0 ≤ (x5_1 : Int):=zd
         have q179 : x5_1 < (l0.length : Int):=zd
         obtain ⟨ad179,e179,hx179_0,hx179_1,hx179_2,hx179_3,hx179_4,hx179_5⟩:=at_T39 HR0.out x5_1 p179 q179
         have hw179_5:=hx179_5
         have hw179_4:=hx179_4
         have hw179_3:=hx179_3
         have hw179_2:=hx179_2
         have hw179_1:=hx179_1
         have hw179_0:=hx179_0
         cases e179
         replace hx179_0:=zh HB hx179_0
         replace hx179_1:=zh HB hx179_1
         replace hx179_2:=zh HB hx179_2
         replace hx179_3:=zh HB hx179_3
         replace hx179_4:=zh HB hx179_4
         replace hx179_5:=zh HB hx179_5
         replace p179:=eq_true p179
         replace q179:=eq_true q179
         have p180 : 0 ≤ (x5_1 : Int):=zd
         have q180 : x5_1 < (l1.length : Int):=zd
         obtain ⟨ad180,e180,hx180_0,hx180_1,hx180_2,hx180_3,hx180_4,hx180_5⟩:=at_T39 HR1.out x5_1 p180 q180
         have hw180_5:=hx180_5
         have hw180_4:=hx180_4
         have hw180_3:=hx180_3
         have hw180_2:=hx180_2
         have hw180_1:=hx180_1
         have hw180_0:=hx180_0
         cases e180
         replace hx180_0:=zh HB hx180_0
         replace hx180_1:=zh HB hx180_1
         replace hx180_2:=zh HB hx180_2
         replace hx180_3:=zh HB hx180_3
         replace hx180_4:=zh HB hx180_4
         replace hx180_5:=zh HB hx180_5
         replace p180:=eq_true p180
         replace q180:=eq_true q180
         refine start_ (n:=12) (S:=fun w' => w'.cell? (ad179.add ((x5_1).toNat * 6)) = some (.int .i64 ((rd_T39 l0 x5_1).f0)) ∧ w'.cell? ⟨(ad179.add ((x5_1).toNat * 6)).block,(ad179.add ((x5_1).toNat * 6)).off + 1,none⟩ = some (.int .i64 ((rd_T39 l0 x5_1).f1)) ∧ w'.cell? ⟨(ad179.add ((x5_1).toNat * 6)).block,(ad179.add ((x5_1).toNat * 6)).off + 2,none⟩ = some (.float .f64 ((rd_T39 l0 x5_1).f2)) ∧ w'.cell? ⟨(ad179.add ((x5_1).toNat * 6)).block,(ad179.add ((x5_1).toNat * 6)).off + 3,none⟩ = some (.int .i64 ((rd_T39 l0 x5_1).f3)) ∧ w'.cell? ⟨(ad179.add ((x5_1).toNat * 6)).block,(ad179.add ((x5_1).toNat * 6)).off + 4,none⟩ = some (.float .f64 ((rd_T39 l0 x5_1).f4)) ∧ w'.cell? ⟨(ad179.add ((x5_1).toNat * 6)).block,(ad179.add ((x5_1).toNat * 6)).off + 5,none⟩ = some (.int .i64 ((rd_T39 l0 x5_1).f5)) ∧ w'.cell? (ad180.add ((x5_1).toNat * 6)) = some (.int .i64 ((rd_T39 l1 x5_1).f0)) ∧ w'.cell? ⟨(ad180.add ((x5_1).toNat * 6)).block,(ad180.add ((x5_1).toNat * 6)).off + 1,none⟩ = some (.int .i64 ((rd_T39 l1 x5_1).f1)) ∧ w'.cell? ⟨(ad180.add ((x5_1).toNat * 6)).block,(ad180.add ((x5_1).toNat * 6)).off + 2,none⟩ = some (.float .f64 ((rd_T39 l1 x5_1).f2)) ∧ w'.cell? ⟨(ad180.add ((x5_1).toNat * 6)).block,(ad180.add ((x5_1).toNat * 6)).off + 3,none⟩ = some (.int .i64 ((rd_T39 l1 x5_1).f3)) ∧ w'.cell? ⟨(ad180.add ((x5_1).toNat * 6)).block,(ad180.add ((x5_1).toNat * 6)).off + 4,none⟩ = some (.float .f64 ((rd_T39 l1 x5_1).f4)) ∧ w'.cell? ⟨(ad180.add ((x5_1).toNat * 6)).block,(ad180.add ((x5_1).toNat * 6)).off + 5,none⟩ = some (.int .i64 ((rd_T39 l1 x5_1).f5))) (ds:=[]) #[F,F,F,F,F,F,F,F,F,F,F,F] (by kernel_rfl) rfl rfl ⟨(zh HB hw179_0),(zh HB hw179_1),(zh HB hw179_2),(zh HB hw179_3),(zh HB hw179_4),(zh HB hw179_5),(zh HB hw180_0),(zh HB hw180_1),(zh HB hw180_2),(zh HB hw180_3),(zh HB hw180_4),(zh HB hw180_5)⟩ (fun hHeld => ?_);refine with_tabW beaconref09_SameEntries.tab6 beaconref09_SameEntries.bits6 (fun HT_ HW_ => ?_)
         generalize wr.drew = w110 at HB hx179_0 hx179_1 hx179_2 hx179_3 hx179_4 hx179_5 hx180_0 hx180_1 hx180_2 hx180_3 hx180_4 hx180_5 hHeld ⊢
         refine pz 0 19 #[T,F,F,F,F,F,F,F,F,F,F,F] HT_.1 ?_
         refine pz 1 20 #[T,T,F,F,F,F,F,F,F,F,F,F] HT_.1 ?_
         refine pz 2 21 #[T,T,T,F,F,F,F,F,F,F,F,F] HT_.1 ?_
         refine pz 4 23 #[T,T,T,F,T,F,F,F,F,F,F,F] HT_.1 ?_
         refine pz 5 24 #[T,T,T,F,T,T,F,F,F,F,F,F] HT_.1 ?_
         refine pz 6 25 #[T,T,T,F,T,T,T,F,F,F,F,F] HT_.1 ?_
         refine tz 3 22 #[T,T,T,T,T,T,T,F,F,F,F,F] HT_.1 HW_.1 hHeld ?_
         refine tz 7 26 #[T,T,T,T,T,T,T,T,F,F,F,F] HT_.1 HW_.1 hHeld ?_
         refine join_ (σ:=Nat × Nat) 2 #[T,T,T,T,T,T,T,T,T,T,F,F] (fun s_ => [(6,.pointer (some ⟨s_.1,0,none⟩)),(7,.pointer (some ⟨s_.2,0,none⟩))]) (fun s_ w' => (w'.cell? (ad179.add ((x5_1).toNat * 6)) = some (.int .i64 ((rd_T39 l0 x5_1).f0)) ∧ w'.cell? ⟨(ad179.add ((x5_1).toNat * 6)).block,(ad179.add ((x5_1).toNat * 6)).off + 1,none⟩ = some (.int .i64 ((rd_T39 l0 x5_1).f1)) ∧ w'.cell? ⟨(ad179.add ((x5_1).toNat * 6)).block,(ad179.add ((x5_1).toNat * 6)).off + 2,none⟩ = some (.float .f64 ((rd_T39 l0 x5_1).f2)) ∧ w'.cell? ⟨(ad179.add ((x5_1).toNat * 6)).block,(ad179.add ((x5_1).toNat * 6)).off + 3,none⟩ = some (.int .i64 ((rd_T39 l0 x5_1).f3)) ∧ w'.cell? ⟨(ad179.add ((x5_1).toNat * 6)).block,(ad179.add ((x5_1).toNat * 6)).off + 4,none⟩ = some (.float .f64 ((rd_T39 l0 x5_1).f4)) ∧ w'.cell? ⟨(ad179.add ((x5_1).toNat * 6)).block,(ad179.add ((x5_1).toNat * 6)).off + 5,none⟩ = some (.int .i64 ((rd_T39 l0 x5_1).f5)) ∧ w'.cell? (ad180.add ((x5_1).toNat * 6)) = some (.int .i64 ((rd_T39 l1 x5_1).f0)) ∧ w'.cell? ⟨(ad180.add ((x5_1).toNat * 6)).block,(ad180.add ((x5_1).toNat * 6)).off + 1,none⟩ = some (.int .i64 ((rd_T39 l1 x5_1).f1)) ∧ w'.cell? ⟨(ad180.add ((x5_1).toNat * 6)).block,(ad180.add ((x5_1).toNat * 6)).off + 2,none⟩ = some (.float .f64 ((rd_T39 l1 x5_1).f2)) ∧ w'.cell? ⟨(ad180.add ((x5_1).toNat * 6)).block,(ad180.add ((x5_1).toNat * 6)).off + 3,none⟩ = some (.int .i64 ((rd_T39 l1 x5_1).f3)) ∧ w'.cell? ⟨(ad180.add ((x5_1).toNat * 6)).block,(ad180.add ((x5_1).toNat * 6)).off + 4,none⟩ = some (.float .f64 ((rd_T39 l1 x5_1).f4)) ∧ w'.cell? ⟨(ad180.add ((x5_1).toNat * 6)).block,(ad180.add ((x5_1).toNat * 6)).off + 5,none⟩ = some (.int .i64 ((rd_T39 l1 x5_1).f5))) ∧ (w'.heap[s_.1]? = some (.cells #[.int .i64 0,.int .i64 0,.float .f64 0,.int .i64 0,.float .f64 0,.int .i64 0] 39 (0,0))) ∧ (w'.heap[s_.2]? = some (.cells #[.int .i64 0,.int .i64 0,.float .f64 0,.int .i64 0,.float .f64 0,.int .i64 0] 39 (0,0))) ∧ (w.heap.size ≤ s_.1) ∧ (w.heap.size ≤ s_.1) ∧ (s_.2 ≠ s_.1) ∧ (s_.1 ≠ s_.2) ∧ (w.heap.size ≤ s_.2) ∧ (w.heap.size ≤ s_.2) ∧ (Below w.heap.size w w')) ?_ ?_
         rotate_left
         ·intro hCont
          refine two_ (i:=8) (j:=9) (Ni:=some 6) (Nj:=some 7) #[T,T,T,T,T,T,T,T,T,F,F,F] #[T,T,T,T,T,T,T,T,F,T,F,F] rfl rfl rfl rfl (two_of HT_.out (by kernel_rfl)) (by decide) (by decide) (fun K hK => ?_) (fun K hK => ?_)
          ·skip
           refine box_step ?hg (N:=6) ?hd (cs:=#[.int .i64 0,.int .i64 0,.float .f64 0,.int .i64 0,.float .f64 0,.int .i64 0]) (t:=39) ?hr ?_;(case hd => rfl);(case hg => exact zw);(case hr => first|(go_simp;done)|(go_simp;rfl))
           intro G181 hg w111 hbox hb
           have K181:=Aside0.mk (hbox)
           have GW181:=zN HB hg
           have GE181:=zN HB hg
           replace HB:=zS HB hb
           clear hb hbox hg
           refine hK.out _ _ ⟨(zh HB hw179_0),(zh HB hw179_1),(zh HB hw179_2),(zh HB hw179_3),(zh HB hw179_4),(zh HB hw179_5),(zh HB hw180_0),(zh HB hw180_1),(zh HB hw180_2),(zh HB hw180_3),(zh HB hw180_4),(zh HB hw180_5)⟩ (fun hHeld => ?_)
           clear hK K
           refine nz 6 ?_
           refine one_ (i:=9) (N:=some 7) #[T,T,T,T,T,T,T,T,T,T,F,F] rfl rfl (one_of HT_.out (by kernel_rfl)) (by decide) (fun K hK => ?_)
           refine box_step ?hg (N:=7) ?hd (cs:=#[.int .i64 0,.int .i64 0,.float .f64 0,.int .i64 0,.float .f64 0,.int .i64 0]) (t:=39) ?hr ?_;(case hd => rfl);(case hg => exact zw);(case hr => first|(go_simp;done)|(go_simp;rfl))
           intro G182 hg w112 hbox hb
           have K182:=Aside0.mk (hbox)
           have GW182:=zN HB hg
           have GE182:=zN HB hg
           replace HB:=zS HB hb
           have NB181_182:=zL K181 hg
           have NB182_181:=zG K181 hg
           replace K181:=zB K181 hb
           clear hb hbox hg
           refine hK.out _ _ ⟨(zh HB hw179_0),(zh HB hw179_1),(zh HB hw179_2),(zh HB hw179_3),(zh HB hw179_4),(zh HB hw179_5),(zh HB hw180_0),(zh HB hw180_1),(zh HB hw180_2),(zh HB hw180_3),(zh HB hw180_4),(zh HB hw180_5)⟩ (fun hHeld => ?_)
           clear hK K
           refine nz 7 ?_
           exact norm_ (by simp only [putAll,Act.put,xA,xB,xC]) (hCont (G181,G182) _ ⟨hHeld,(z1 K181.1),(z1 K182.1),GW181.1,GE181.1,NB182_181.1,NB181_182.1,GW182.1,GE182.1,(zH HB)⟩)
          ·skip
           refine box_step ?hg (N:=7) ?hd (cs:=#[.int .i64 0,.int .i64 0,.float .f64 0,.int .i64 0,.float .f64 0,.int .i64 0]) (t:=39) ?hr ?_;(case hd => rfl);(case hg => exact zw);(case hr => first|(go_simp;done)|(go_simp;rfl))
           intro G182 hg w111 hbox hb
           have K182:=Aside0.mk (hbox)
           have GW182:=zN HB hg
           have GE182:=zN HB hg
           replace HB:=zS HB hb
           clear hb hbox hg
           refine hK.out _ _ ⟨(zh HB hw179_0),(zh HB hw179_1),(zh HB hw179_2),(zh HB hw179_3),(zh HB hw179_4),(zh HB hw179_5),(zh HB hw180_0),(zh HB hw180_1),(zh HB hw180_2),(zh HB hw180_3),(zh HB hw180_4),(zh HB hw180_5)⟩ (fun hHeld => ?_)
           clear hK K
           refine nz 7 ?_
           refine one_ (i:=8) (N:=some 6) #[T,T,T,T,T,T,T,T,T,T,F,F] rfl rfl (one_of HT_.out (by kernel_rfl)) (by decide) (fun K hK => ?_)
           refine box_step ?hg (N:=6) ?hd (cs:=#[.int .i64 0,.int .i64 0,.float .f64 0,.int .i64 0,.float .f64 0,.int .i64 0]) (t:=39) ?hr ?_;(case hd => rfl);(case hg => exact zw);(case hr => first|(go_simp;done)|(go_simp;rfl))
           intro G181 hg w112 hbox hb
           have K181:=Aside0.mk (hbox)
           have GW181:=zN HB hg
           have GE181:=zN HB hg
           replace HB:=zS HB hb
           have NB182_181:=zL K182 hg
           have NB181_182:=zG K182 hg
           replace K182:=zB K182 hb
           clear hb hbox hg
           refine hK.out _ _ ⟨(zh HB hw179_0),(zh HB hw179_1),(zh HB hw179_2),(zh HB hw179_3),(zh HB hw179_4),(zh HB hw179_5),(zh HB hw180_0),(zh HB hw180_1),(zh HB hw180_2),(zh HB hw180_3),(zh HB hw180_4),(zh HB hw180_5)⟩ (fun hHeld => ?_)
           clear hK K
           refine nz 6 ?_
           exact norm_ (by simp only [putAll,Act.put,xA,xB,xC]) (hCont (G181,G182) _ ⟨hHeld,(z1 K181.1),(z1 K182.1),GW181.1,GE181.1,NB182_181.1,NB181_182.1,GW182.1,GE182.1,(zH HB)⟩)
         rintro ⟨G181,G182⟩ w113 ⟨hS_,h0_,h1_,h2_,h3_,h4_,h5_,h6_,h7_,h8_⟩
         have K181 : Aside0 (w113.heap[G181]? = some (.cells #[.int .i64 0,.int .i64 0,.float .f64 0,.int .i64 0,.float .f64 0,.int .i64 0] 39 (0,0))):=⟨h0_⟩
         have K182 : Aside0 (w113.heap[G182]? = some (.cells #[.int .i64 0,.int .i64 0,.float .f64 0,.int .i64 0,.float .f64 0,.int .i64 0] 39 (0,0))):=⟨h1_⟩
         have GW181 : Aside0 (w.heap.size ≤ G181):=⟨h2_⟩
         have GE181 : Aside0 (w.heap.size ≤ G181):=⟨h3_⟩
         have NB182_181 : Aside0 (G182 ≠ G181):=⟨h4_⟩
         have NB181_182 : Aside0 (G181 ≠ G182):=⟨h5_⟩
         have GW182 : Aside0 (w.heap.size ≤ G182):=⟨h6_⟩
         have GE182 : Aside0 (w.heap.size ≤ G182):=⟨h7_⟩
         replace HB : Aside0 (Below w.heap.size w w113):=⟨h8_⟩
         clear h0_ h1_ h2_ h3_ h4_ h5_ h6_ h7_ h8_
         have hHeld : w113.cell? (ad179.add ((x5_1).toNat * 6)) = some (.int .i64 ((rd_T39 l0 x5_1).f0)) ∧ w113.cell? ⟨(ad179.add ((x5_1).toNat * 6)).block,(ad179.add ((x5_1).toNat * 6)).off + 1,none⟩ = some (.int .i64 ((rd_T39 l0 x5_1).f1)) ∧ w113.cell? ⟨(ad179.add ((x5_1).toNat * 6)).block,(ad179.add ((x5_1).toNat * 6)).off + 2,none⟩ = some (.float .f64 ((rd_T39 l0 x5_1).f2)) ∧ w113.cell? ⟨(ad179.add ((x5_1).toNat * 6)).block,(ad179.add ((x5_1).toNat * 6)).off + 3,none⟩ = some (.int .i64 ((rd_T39 l0 x5_1).f3)) ∧ w113.cell? ⟨(ad179.add ((x5_1).toNat * 6)).block,(ad179.add ((x5_1).toNat * 6)).off + 4,none⟩ = some (.float .f64 ((rd_T39 l0 x5_1).f4)) ∧ w113.cell? ⟨(ad179.add ((x5_1).toNat * 6)).block,(ad179.add ((x5_1).toNat * 6)).off + 5,none⟩ = some (.int .i64 ((rd_T39 l0 x5_1).f5)) ∧ w113.cell? (ad180.add ((x5_1).toNat * 6)) = some (.int .i64 ((rd_T39 l1 x5_1).f0)) ∧ w113.cell? ⟨(ad180.add ((x5_1).toNat * 6)).block,(ad180.add ((x5_1).toNat * 6)).off + 1,none⟩ = some (.int .i64 ((rd_T39 l1 x5_1).f1)) ∧ w113.cell? ⟨(ad180.add ((x5_1).toNat * 6)).block,(ad180.add ((x5_1).toNat * 6)).off + 2,none⟩ = some (.float .f64 ((rd_T39 l1 x5_1).f2)) ∧ w113.cell? ⟨(ad180.add ((x5_1).toNat * 6)).block,(ad180.add ((x5_1).toNat * 6)).off + 3,none⟩ = some (.int .i64 ((rd_T39 l1 x5_1).f3)) ∧ w113.cell? ⟨(ad180.add ((x5_1).toNat * 6)).block,(ad180.add ((x5_1).toNat * 6)).off + 4,none⟩ = some (.float .f64 ((rd_T39 l1 x5_1).f4)) ∧ w113.cell? ⟨(ad180.add ((x5_1).toNat * 6)).block,(ad180.add ((x5_1).toNat * 6)).off + 5,none⟩ = some (.int .i64 ((rd_T39 l1 x5_1).f5)):=hS_
         refine norm_ (a':=?_) ?_ ?_
         rotate_left
         ·simp only [putAll,Act.put,xA,xB,xC]
          rfl
         refine one_ (i:=10) (N:=none) #[T,T,T,T,T,T,T,T,T,T,T,F] rfl rfl (one_of HT_.out (by kernel_rfl)) (by decide) (fun K hK => ?_)
         have hs114 : w113.cell? ⟨G181,0,none⟩ = some (.int .i64 0):=zk K181 0
         have hfs114:=bF K181.1 0
         have hns114_1:=NB182_181.1
         have hms114_1:=NB181_182.1
         have hs115 : w113.cell? ⟨G181,1,none⟩ = some (.int .i64 0):=zk K181 1
         have hfs115:=bF K181.1 1
         have hns115_1:=NB182_181.1
         have hms115_1:=NB181_182.1
         have hs116 : w113.cell? ⟨G181,2,none⟩ = some (.float .f64 0):=zk K181 2
         have hfs116:=bF K181.1 2
         have hns116_1:=NB182_181.1
         have hms116_1:=NB181_182.1
         have hs117 : w113.cell? ⟨G181,3,none⟩ = some (.int .i64 0):=zk K181 3
         have hfs117:=bF K181.1 3
         have hns117_1:=NB182_181.1
         have hms117_1:=NB181_182.1
         have hs118 : w113.cell? ⟨G181,4,none⟩ = some (.float .f64 0):=zk K181 4
         have hfs118:=bF K181.1 4
         have hns118_1:=NB182_181.1
         have hms118_1:=NB181_182.1
         have hs119 : w113.cell? ⟨G181,5,none⟩ = some (.int .i64 0):=zk K181 5
         have hfs119:=bF K181.1 5
         have hns119_1:=NB182_181.1
         have hms119_1:=NB181_182.1
         refine sz ?_
         refine hK.out _ _ ⟨((cF (p:=⟨G181,_,none⟩) (ne_c hw179_0 GW181.1) _).trans (((cF (p:=⟨G181,_,none⟩) (ne_c hw179_0 GW181.1) _).trans (((cF (p:=⟨G181,_,none⟩) (ne_c hw179_0 GW181.1) _).trans (((cF (p:=⟨G181,_,none⟩) (ne_c hw179_0 GW181.1) _).trans (((cF (p:=⟨G181,_,none⟩) (ne_c hw179_0 GW181.1) _).trans (((cF (p:=⟨G181,_,none⟩) (ne_c hw179_0 GW181.1) _).trans (hHeld.1)))))))))))),((cF (p:=⟨G181,_,none⟩) (ne_c hw179_1 GW181.1) _).trans (((cF (p:=⟨G181,_,none⟩) (ne_c hw179_1 GW181.1) _).trans (((cF (p:=⟨G181,_,none⟩) (ne_c hw179_1 GW181.1) _).trans (((cF (p:=⟨G181,_,none⟩) (ne_c hw179_1 GW181.1) _).trans (((cF (p:=⟨G181,_,none⟩) (ne_c hw179_1 GW181.1) _).trans (((cF (p:=⟨G181,_,none⟩) (ne_c hw179_1 GW181.1) _).trans (hHeld.2.1)))))))))))),((cF (p:=⟨G181,_,none⟩) (ne_c hw179_2 GW181.1) _).trans (((cF (p:=⟨G181,_,none⟩) (ne_c hw179_2 GW181.1) _).trans (((cF (p:=⟨G181,_,none⟩) (ne_c hw179_2 GW181.1) _).trans (((cF (p:=⟨G181,_,none⟩) (ne_c hw179_2 GW181.1) _).trans (((cF (p:=⟨G181,_,none⟩) (ne_c hw179_2 GW181.1) _).trans (((cF (p:=⟨G181,_,none⟩) (ne_c hw179_2 GW181.1) _).trans (hHeld.2.2.1)))))))))))),((cF (p:=⟨G181,_,none⟩) (ne_c hw179_3 GW181.1) _).trans (((cF (p:=⟨G181,_,none⟩) (ne_c hw179_3 GW181.1) _).trans (((cF (p:=⟨G181,_,none⟩) (ne_c hw179_3 GW181.1) _).trans (((cF (p:=⟨G181,_,none⟩) (ne_c hw179_3 GW181.1) _).trans (((cF (p:=⟨G181,_,none⟩) (ne_c hw179_3 GW181.1) _).trans (((cF (p:=⟨G181,_,none⟩) (ne_c hw179_3 GW181.1) _).trans (hHeld.2.2.2.1)))))))))))),((cF (p:=⟨G181,_,none⟩) (ne_c hw179_4 GW181.1) _).trans (((cF (p:=⟨G181,_,none⟩) (ne_c hw179_4 GW181.1) _).trans (((cF (p:=⟨G181,_,none⟩) (ne_c hw179_4 GW181.1) _).trans (((cF (p:=⟨G181,_,none⟩) (ne_c hw179_4 GW181.1) _).trans (((cF (p:=⟨G181,_,none⟩) (ne_c hw179_4 GW181.1) _).trans (((cF (p:=⟨G181,_,none⟩) (ne_c hw179_4 GW181.1) _).trans (hHeld.2.2.2.2.1)))))))))))),((cF (p:=⟨G181,_,none⟩) (ne_c hw179_5 GW181.1) _).trans (((cF (p:=⟨G181,_,none⟩) (ne_c hw179_5 GW181.1) _).trans (((cF (p:=⟨G181,_,none⟩) (ne_c hw179_5 GW181.1) _).trans (((cF (p:=⟨G181,_,none⟩) (ne_c hw179_5 GW181.1) _).trans (((cF (p:=⟨G181,_,none⟩) (ne_c hw179_5 GW181.1) _).trans (((cF (p:=⟨G181,_,none⟩) (ne_c hw179_5 GW181.1) _).trans (hHeld.2.2.2.2.2.1)))))))))))),((cF (p:=⟨G181,_,none⟩) (ne_c hw180_0 GW181.1) _).trans (((cF (p:=⟨G181,_,none⟩) (ne_c hw180_0 GW181.1) _).trans (((cF (p:=⟨G181,_,none⟩) (ne_c hw180_0 GW181.1) _).trans (((cF (p:=⟨G181,_,none⟩) (ne_c hw180_0 GW181.1) _).trans (((cF (p:=⟨G181,_,none⟩) (ne_c hw180_0 GW181.1) _).trans (((cF (p:=⟨G181,_,none⟩) (ne_c hw180_0 GW181.1) _).trans (hHeld.2.2.2.2.2.2.1)))))))))))),((cF (p:=⟨G181,_,none⟩) (ne_c hw180_1 GW181.1) _).trans (((cF (p:=⟨G181,_,none⟩) (ne_c hw180_1 GW181.1) _).trans (((cF (p:=⟨G181,_,none⟩) (ne_c hw180_1 GW181.1) _).trans (((cF (p:=⟨G181,_,none⟩) (ne_c hw180_1 GW181.1) _).trans (((cF (p:=⟨G181,_,none⟩) (ne_c hw180_1 GW181.1) _).trans (((cF (p:=⟨G181,_,none⟩) (ne_c hw180_1 GW181.1) _).trans (hHeld.2.2.2.2.2.2.2.1)))))))))))),((cF (p:=⟨G181,_,none⟩) (ne_c hw180_2 GW181.1) _).trans (((cF (p:=⟨G181,_,none⟩) (ne_c hw180_2 GW181.1) _).trans (((cF (p:=⟨G181,_,none⟩) (ne_c hw180_2 GW181.1) _).trans (((cF (p:=⟨G181,_,none⟩) (ne_c hw180_2 GW181.1) _).trans (((cF (p:=⟨G181,_,none⟩) (ne_c hw180_2 GW181.1) _).trans (((cF (p:=⟨G181,_,none⟩) (ne_c hw180_2 GW181.1) _).trans (hHeld.2.2.2.2.2.2.2.2.1)))))))))))),((cF (p:=⟨G181,_,none⟩) (ne_c hw180_3 GW181.1) _).trans (((cF (p:=⟨G181,_,none⟩) (ne_c hw180_3 GW181.1) _).trans (((cF (p:=⟨G181,_,none⟩) (ne_c hw180_3 GW181.1) _).trans (((cF (p:=⟨G181,_,none⟩) (ne_c hw180_3 GW181.1) _).trans (((cF (p:=⟨G181,_,none⟩) (ne_c hw180_3 GW181.1) _).trans (((cF (p:=⟨G181,_,none⟩) (ne_c hw180_3 GW181.1) _).trans (hHeld.2.2.2.2.2.2.2.2.2.1)))))))))))),((cF (p:=⟨G181,_,none⟩) (ne_c hw180_4 GW181.1) _).trans (((cF (p:=⟨G181,_,none⟩) (ne_c hw180_4 GW181.1) _).trans (((cF (p:=⟨G181,_,none⟩) (ne_c hw180_4 GW181.1) _).trans (((cF (p:=⟨G181,_,none⟩) (ne_c hw180_4 GW181.1) _).trans (((cF (p:=⟨G181,_,none⟩) (ne_c hw180_4 GW181.1) _).trans (((cF (p:=⟨G181,_,none⟩) (ne_c hw180_4 GW181.1) _).trans (hHeld.2.2.2.2.2.2.2.2.2.2.1)))))))))))),((cF (p:=⟨G181,_,none⟩) (ne_c hw180_5 GW181.1) _).trans (((cF (p:=⟨G181,_,none⟩) (ne_c hw180_5 GW181.1) _).trans (((cF (p:=⟨G181,_,none⟩) (ne_c hw180_5 GW181.1) _).trans (((cF (p:=⟨G181,_,none⟩) (ne_c hw180_5 GW181.1) _).trans (((cF (p:=⟨G181,_,none⟩) (ne_c hw180_5 GW181.1) _).trans (((cF (p:=⟨G181,_,none⟩) (ne_c hw180_5 GW181.1) _).trans (hHeld.2.2.2.2.2.2.2.2.2.2.2))))))))))))⟩ (fun hHeld => ?_)
         clear hK K
         refine one_ (i:=11) (N:=none) #[T,T,T,T,T,T,T,T,T,T,T,T] rfl rfl (one_of HT_.out (by kernel_rfl)) (by decide) (fun K hK => ?_)
         have hs120 : w113.cell? ⟨G182,0,none⟩ = some (.int .i64 0):=zk K182 0
         have hfs120:=bF K182.1 0
         have hns120_0:=NB181_182.1
         have hms120_0:=NB182_181.1
         have hs121 : w113.cell? ⟨G182,1,none⟩ = some (.int .i64 0):=zk K182 1
         have hfs121:=bF K182.1 1
         have hns121_0:=NB181_182.1
         have hms121_0:=NB182_181.1
         have hs122 : w113.cell? ⟨G182,2,none⟩ = some (.float .f64 0):=zk K182 2
         have hfs122:=bF K182.1 2
         have hns122_0:=NB181_182.1
         have hms122_0:=NB182_181.1
         have hs123 : w113.cell? ⟨G182,3,none⟩ = some (.int .i64 0):=zk K182 3
         have hfs123:=bF K182.1 3
         have hns123_0:=NB181_182.1
         have hms123_0:=NB182_181.1
         have hs124 : w113.cell? ⟨G182,4,none⟩ = some (.float .f64 0):=zk K182 4
         have hfs124:=bF K182.1 4
         have hns124_0:=NB181_182.1
         have hms124_0:=NB182_181.1
         have hs125 : w113.cell? ⟨G182,5,none⟩ = some (.int .i64 0):=zk K182 5
         have hfs125:=bF K182.1 5
         have hns125_0:=NB181_182.1
         have hms125_0:=NB182_181.1
         refine sz ?_
         refine hK.out _ _ ⟨((cF (p:=⟨G182,_,none⟩) (ne_c hw179_0 GW182.1) _).trans (((cF (p:=⟨G182,_,none⟩) (ne_c hw179_0 GW182.1) _).trans (((cF (p:=⟨G182,_,none⟩) (ne_c hw179_0 GW182.1) _).trans (((cF (p:=⟨G182,_,none⟩) (ne_c hw179_0 GW182.1) _).trans (((cF (p:=⟨G182,_,none⟩) (ne_c hw179_0 GW182.1) _).trans (((cF (p:=⟨G182,_,none⟩) (ne_c hw179_0 GW182.1) _).trans (hHeld.1)))))))))))),((cF (p:=⟨G182,_,none⟩) (ne_c hw179_1 GW182.1) _).trans (((cF (p:=⟨G182,_,none⟩) (ne_c hw179_1 GW182.1) _).trans (((cF (p:=⟨G182,_,none⟩) (ne_c hw179_1 GW182.1) _).trans (((cF (p:=⟨G182,_,none⟩) (ne_c hw179_1 GW182.1) _).trans (((cF (p:=⟨G182,_,none⟩) (ne_c hw179_1 GW182.1) _).trans (((cF (p:=⟨G182,_,none⟩) (ne_c hw179_1 GW182.1) _).trans (hHeld.2.1)))))))))))),((cF (p:=⟨G182,_,none⟩) (ne_c hw179_2 GW182.1) _).trans (((cF (p:=⟨G182,_,none⟩) (ne_c hw179_2 GW182.1) _).trans (((cF (p:=⟨G182,_,none⟩) (ne_c hw179_2 GW182.1) _).trans (((cF (p:=⟨G182,_,none⟩) (ne_c hw179_2 GW182.1) _).trans (((cF (p:=⟨G182,_,none⟩) (ne_c hw179_2 GW182.1) _).trans (((cF (p:=⟨G182,_,none⟩) (ne_c hw179_2 GW182.1) _).trans (hHeld.2.2.1)))))))))))),((cF (p:=⟨G182,_,none⟩) (ne_c hw179_3 GW182.1) _).trans (((cF (p:=⟨G182,_,none⟩) (ne_c hw179_3 GW182.1) _).trans (((cF (p:=⟨G182,_,none⟩) (ne_c hw179_3 GW182.1) _).trans (((cF (p:=⟨G182,_,none⟩) (ne_c hw179_3 GW182.1) _).trans (((cF (p:=⟨G182,_,none⟩) (ne_c hw179_3 GW182.1) _).trans (((cF (p:=⟨G182,_,none⟩) (ne_c hw179_3 GW182.1) _).trans (hHeld.2.2.2.1)))))))))))),((cF (p:=⟨G182,_,none⟩) (ne_c hw179_4 GW182.1) _).trans (((cF (p:=⟨G182,_,none⟩) (ne_c hw179_4 GW182.1) _).trans (((cF (p:=⟨G182,_,none⟩) (ne_c hw179_4 GW182.1) _).trans (((cF (p:=⟨G182,_,none⟩) (ne_c hw179_4 GW182.1) _).trans (((cF (p:=⟨G182,_,none⟩) (ne_c hw179_4 GW182.1) _).trans (((cF (p:=⟨G182,_,none⟩) (ne_c hw179_4 GW182.1) _).trans (hHeld.2.2.2.2.1)))))))))))),((cF (p:=⟨G182,_,none⟩) (ne_c hw179_5 GW182.1) _).trans (((cF (p:=⟨G182,_,none⟩) (ne_c hw179_5 GW182.1) _).trans (((cF (p:=⟨G182,_,none⟩) (ne_c hw179_5 GW182.1) _).trans (((cF (p:=⟨G182,_,none⟩) (ne_c hw179_5 GW182.1) _).trans (((cF (p:=⟨G182,_,none⟩) (ne_c hw179_5 GW182.1) _).trans (((cF (p:=⟨G182,_,none⟩) (ne_c hw179_5 GW182.1) _).trans (hHeld.2.2.2.2.2.1)))))))))))),((cF (p:=⟨G182,_,none⟩) (ne_c hw180_0 GW182.1) _).trans (((cF (p:=⟨G182,_,none⟩) (ne_c hw180_0 GW182.1) _).trans (((cF (p:=⟨G182,_,none⟩) (ne_c hw180_0 GW182.1) _).trans (((cF (p:=⟨G182,_,none⟩) (ne_c hw180_0 GW182.1) _).trans (((cF (p:=⟨G182,_,none⟩) (ne_c hw180_0 GW182.1) _).trans (((cF (p:=⟨G182,_,none⟩) (ne_c hw180_0 GW182.1) _).trans (hHeld.2.2.2.2.2.2.1)))))))))))),((cF (p:=⟨G182,_,none⟩) (ne_c hw180_1 GW182.1) _).trans (((cF (p:=⟨G182,_,none⟩) (ne_c hw180_1 GW182.1) _).trans (((cF (p:=⟨G182,_,none⟩) (ne_c hw180_1 GW182.1) _).trans (((cF (p:=⟨G182,_,none⟩) (ne_c hw180_1 GW182.1) _).trans (((cF (p:=⟨G182,_,none⟩) (ne_c hw180_1 GW182.1) _).trans (((cF (p:=⟨G182,_,none⟩) (ne_c hw180_1 GW182.1) _).trans (hHeld.2.2.2.2.2.2.2.1)))))))))))),((cF (p:=⟨G182,_,none⟩) (ne_c hw180_2 GW182.1) _).trans (((cF (p:=⟨G182,_,none⟩) (ne_c hw180_2 GW182.1) _).trans (((cF (p:=⟨G182,_,none⟩) (ne_c hw180_2 GW182.1) _).trans (((cF (p:=⟨G182,_,none⟩) (ne_c hw180_2 GW182.1) _).trans (((cF (p:=⟨G182,_,none⟩) (ne_c hw180_2 GW182.1) _).trans (((cF (p:=⟨G182,_,none⟩) (ne_c hw180_2 GW182.1) _).trans (hHeld.2.2.2.2.2.2.2.2.1)))))))))))),((cF (p:=⟨G182,_,none⟩) (ne_c hw180_3 GW182.1) _).trans (((cF (p:=⟨G182,_,none⟩) (ne_c hw180_3 GW182.1) _).trans (((cF (p:=⟨G182,_,none⟩) (ne_c hw180_3 GW182.1) _).trans (((cF (p:=⟨G182,_,none⟩) (ne_c hw180_3 GW182.1) _).trans (((cF (p:=⟨G182,_,none⟩) (ne_c hw180_3 GW182.1) _).trans (((cF (p:=⟨G182,_,none⟩) (ne_c hw180_3 GW182.1) _).trans (hHeld.2.2.2.2.2.2.2.2.2.1)))))))))))),((cF (p:=⟨G182,_,none⟩) (ne_c hw180_4 GW182.1) _).trans (((cF (p:=⟨G182,_,none⟩) (ne_c hw180_4 GW182.1) _).trans (((cF (p:=⟨G182,_,none⟩) (ne_c hw180_4 GW182.1) _).trans (((cF (p:=⟨G182,_,none⟩) (ne_c hw180_4 GW182.1) _).trans (((cF (p:=⟨G182,_,none⟩) (ne_c hw180_4 GW182.1) _).trans (((cF (p:=⟨G182,_,none⟩) (ne_c hw180_4 GW182.1) _).trans (hHeld.2.2.2.2.2.2.2.2.2.2.1)))))))))))),((cF (p:=⟨G182,_,none⟩) (ne_c hw180_5 GW182.1) _).trans (((cF (p:=⟨G182,_,none⟩) (ne_c hw180_5 GW182.1) _).trans (((cF (p:=⟨G182,_,none⟩) (ne_c hw180_5 GW182.1) _).trans (((cF (p:=⟨G182,_,none⟩) (ne_c hw180_5 GW182.1) _).trans (((cF (p:=⟨G182,_,none⟩) (ne_c hw180_5 GW182.1) _).trans (((cF (p:=⟨G182,_,none⟩) (ne_c hw180_5 GW182.1) _).trans (hHeld.2.2.2.2.2.2.2.2.2.2.2))))))))))))⟩ (fun hHeld => ?_)
         clear hK K
         refine done_ (done_of HT_.out (by kernel_rfl)) ?_
         have hnb126:=NB181_182.1
         have hnc126:=NB182_181.1
         have hcz127_0 : w113.cell? ⟨G181,0,none⟩ = some (.int .i64 0):=zk K181 0
         have hcz127_1 : w113.cell? ⟨G181,1,none⟩ = some (.int .i64 0):=zk K181 1
         have hcz127_2 : w113.cell? ⟨G181,2,none⟩ = some (.float .f64 0):=zk K181 2
         have hcz127_3 : w113.cell? ⟨G181,3,none⟩ = some (.int .i64 0):=zk K181 3
         have hcz127_4 : w113.cell? ⟨G181,4,none⟩ = some (.float .f64 0):=zk K181 4
         have hcz127_5 : w113.cell? ⟨G181,5,none⟩ = some (.int .i64 0):=zk K181 5
         have hfz127_0:=bF K181.1 0
         have hfz127_1:=bF K181.1 1
         have hfz127_2:=bF K181.1 2
         have hfz127_3:=bF K181.1 3
         have hfz127_4:=bF K181.1 4
         have hfz127_5:=bF K181.1 5
         have hcz128_0 : w113.cell? ⟨G182,0,none⟩ = some (.int .i64 0):=zk K182 0
         have hcz128_1 : w113.cell? ⟨G182,1,none⟩ = some (.int .i64 0):=zk K182 1
         have hcz128_2 : w113.cell? ⟨G182,2,none⟩ = some (.float .f64 0):=zk K182 2
         have hcz128_3 : w113.cell? ⟨G182,3,none⟩ = some (.int .i64 0):=zk K182 3
         have hcz128_4 : w113.cell? ⟨G182,4,none⟩ = some (.float .f64 0):=zk K182 4
         have hcz128_5 : w113.cell? ⟨G182,5,none⟩ = some (.int .i64 0):=zk K182 5
         have hfz128_0:=bF K182.1 0
         have hfz128_1:=bF K182.1 1
         have hfz128_2:=bF K182.1 2
         have hfz128_3:=bF K182.1 3
         have hfz128_4:=bF K182.1 4
         have hfz128_5:=bF K182.1 5
         try go_wp2
         go_ret
         exact ⟨by first|rfl|(simp [errW_none,errW_some] <;> rfl)|(simp [*,errW_none,errW_some] <;> rfl),zH HB⟩
       ·rw [if_neg c7] at H
        have c7b0 : (((rd_T39 l0 x5_1).f0) == ((rd_T39 l1 x5_1).f0)) = false:=beq_eq_false_iff_ne.mpr c7
        have c7b1 : (((rd_T39 l0 x5_1).f0) != ((rd_T39 l1 x5_1).f0)) = true:=bne_iff_ne.mpr c7
        obtain rfl:=Option.some.inj H
        try go_wp2
        replace HB:=Aside0.mk (bw1 HB.1)
        have p179 : 0 ≤ (x5_1 : Int):=zd
        have q179 : x5_1 < (l0.length : Int):=zd
        obtain ⟨ad179,e179,hx179_0,hx179_1,hx179_2,hx179_3,hx179_4,hx179_5⟩:=at_T39 HR0.out x5_1 p179 q179
        have hw179_5:=hx179_5
        have hw179_4:=hx179_4
        have hw179_3:=hx179_3
        have hw179_2:=hx179_2
        have hw179_1:=hx179_1
        have hw179_0:=hx179_0
        cases e179
        replace hx179_0:=zh HB hx179_0
        replace hx179_1:=zh HB hx179_1
        replace hx179_2:=zh HB hx179_2
        replace hx179_3:=zh HB hx179_3
        replace hx179_4:=zh HB hx179_4
        replace hx179_5:=zh HB hx179_5
        replace p179:=eq_true p179
        replace q179:=eq_true q179
        have p180 : 0 ≤ (x5_1 : Int):=zd
        have q180 : x5_1 < (l1.length : Int):=zd
        obtain ⟨ad180,e180,hx180_0,hx180_1,hx180_2,hx180_3,hx180_4,hx180_5⟩:=at_T39 HR1.out x5_1 p180 q180
        have hw180_5:=hx180_5
        have hw180_4:=hx180_4
        have hw180_3:=hx180_3
        have hw180_2:=hx180_2
        have hw180_1:=hx180_1
        have hw180_0:=hx180_0
        cases e180
        replace hx180_0:=zh HB hx180_0
        replace hx180_1:=zh HB hx180_1
        replace hx180_2:=zh HB hx180_2
        replace hx180_3:=zh HB hx180_3
        replace hx180_4:=zh HB hx180_4
        replace hx180_5:=zh HB hx180_5
        replace p180:=eq_true p180
        replace q180:=eq_true q180
        refine start_ (n:=12) (S:=fun w' => w'.cell? (ad179.add ((x5_1).toNat * 6)) = some (.int .i64 ((rd_T39 l0 x5_1).f0)) ∧ w'.cell? ⟨(ad179.add ((x5_1).toNat * 6)).block,(ad179.add ((x5_1).toNat * 6)).off + 1,none⟩ = some (.int .i64 ((rd_T39 l0 x5_1).f1)) ∧ w'.cell? ⟨(ad179.add ((x5_1).toNat * 6)).block,(ad179.add ((x5_1).toNat * 6)).off + 2,none⟩ = some (.float .f64 ((rd_T39 l0 x5_1).f2)) ∧ w'.cell? ⟨(ad179.add ((x5_1).toNat * 6)).block,(ad179.add ((x5_1).toNat * 6)).off + 3,none⟩ = some (.int .i64 ((rd_T39 l0 x5_1).f3)) ∧ w'.cell? ⟨(ad179.add ((x5_1).toNat * 6)).block,(ad179.add ((x5_1).toNat * 6)).off + 4,none⟩ = some (.float .f64 ((rd_T39 l0 x5_1).f4)) ∧ w'.cell? ⟨(ad179.add ((x5_1).toNat * 6)).block,(ad179.add ((x5_1).toNat * 6)).off + 5,none⟩ = some (.int .i64 ((rd_T39 l0 x5_1).f5)) ∧ w'.cell? (ad180.add ((x5_1).toNat * 6)) = some (.int .i64 ((rd_T39 l1 x5_1).f0)) ∧ w'.cell? ⟨(ad180.add ((x5_1).toNat * 6)).block,(ad180.add ((x5_1).toNat * 6)).off + 1,none⟩ = some (.int .i64 ((rd_T39 l1 x5_1).f1)) ∧ w'.cell? ⟨(ad180.add ((x5_1).toNat * 6)).block,(ad180.add ((x5_1).toNat * 6)).off + 2,none⟩ = some (.float .f64 ((rd_T39 l1 x5_1).f2)) ∧ w'.cell? ⟨(ad180.add ((x5_1).toNat * 6)).block,(ad180.add ((x5_1).toNat * 6)).off + 3,none⟩ = some (.int .i64 ((rd_T39 l1 x5_1).f3)) ∧ w'.cell? ⟨(ad180.add ((x5_1).toNat * 6)).block,(ad180.add ((x5_1).toNat * 6)).off + 4,none⟩ = some (.float .f64 ((rd_T39 l1 x5_1).f4)) ∧ w'.cell? ⟨(ad180.add ((x5_1).toNat * 6)).block,(ad180.add ((x5_1).toNat * 6)).off + 5,none⟩ = some (.int .i64 ((rd_T39 l1 x5_1).f5))) (ds:=[]) #[F,F,F,F,F,F,F,F,F,F,F,F] (by kernel_rfl) rfl rfl ⟨(zh HB hw179_0),(zh HB hw179_1),(zh HB hw179_2),(zh HB hw179_3),(zh HB hw179_4),(zh HB hw179_5),(zh HB hw180_0),(zh HB hw180_1),(zh HB hw180_2),(zh HB hw180_3),(zh HB hw180_4),(zh HB hw180_5)⟩ (fun hHeld => ?_);refine with_tabW beaconref09_SameEntries.tab6 beaconref09_SameEntries.bits6 (fun HT_ HW_ => ?_)
        generalize wr.drew = w129 at HB hx179_0 hx179_1 hx179_2 hx179_3 hx179_4 hx179_5 hx180_0 hx180_1 hx180_2 hx180_3 hx180_4 hx180_5 hHeld ⊢
        refine pz 0 19 #[T,F,F,F,F,F,F,F,F,F,F,F] HT_.1 ?_
        refine pz 1 20 #[T,T,F,F,F,F,F,F,F,F,F,F] HT_.1 ?_
        refine pz 2 21 #[T,T,T,F,F,F,F,F,F,F,F,F] HT_.1 ?_
        refine pz 4 23 #[T,T,T,F,T,F,F,F,F,F,F,F] HT_.1 ?_
        refine pz 5 24 #[T,T,T,F,T,T,F,F,F,F,F,F] HT_.1 ?_
        refine pz 6 25 #[T,T,T,F,T,T,T,F,F,F,F,F] HT_.1 ?_
        refine tz 3 22 #[T,T,T,T,T,T,T,F,F,F,F,F] HT_.1 HW_.1 hHeld ?_
        refine tz 7 26 #[T,T,T,T,T,T,T,T,F,F,F,F] HT_.1 HW_.1 hHeld ?_
        refine join_ (σ:=Nat × Nat) 2 #[T,T,T,T,T,T,T,T,T,T,F,F] (fun s_ => [(6,.pointer (some ⟨s_.1,0,none⟩)),(7,.pointer (some ⟨s_.2,0,none⟩))]) (fun s_ w' => (w'.cell? (ad179.add ((x5_1).toNat * 6)) = some (.int .i64 ((rd_T39 l0 x5_1).f0)) ∧ w'.cell? ⟨(ad179.add ((x5_1).toNat * 6)).block,(ad179.add ((x5_1).toNat * 6)).off + 1,none⟩ = some (.int .i64 ((rd_T39 l0 x5_1).f1)) ∧ w'.cell? ⟨(ad179.add ((x5_1).toNat * 6)).block,(ad179.add ((x5_1).toNat * 6)).off + 2,none⟩ = some (.float .f64 ((rd_T39 l0 x5_1).f2)) ∧ w'.cell? ⟨(ad179.add ((x5_1).toNat * 6)).block,(ad179.add ((x5_1).toNat * 6)).off + 3,none⟩ = some (.int .i64 ((rd_T39 l0 x5_1).f3)) ∧ w'.cell? ⟨(ad179.add ((x5_1).toNat * 6)).block,(ad179.add ((x5_1).toNat * 6)).off + 4,none⟩ = some (.float .f64 ((rd_T39 l0 x5_1).f4)) ∧ w'.cell? ⟨(ad179.add ((x5_1).toNat * 6)).block,(ad179.add ((x5_1).toNat * 6)).off + 5,none⟩ = some (.int .i64 ((rd_T39 l0 x5_1).f5)) ∧ w'.cell? (ad180.add ((x5_1).toNat * 6)) = some (.int .i64 ((rd_T39 l1 x5_1).f0)) ∧ w'.cell? ⟨(ad180.add ((x5_1).toNat * 6)).block,(ad180.add ((x5_1).toNat * 6)).off + 1,none⟩ = some (.int .i64 ((rd_T39 l1 x5_1).f1)) ∧ w'.cell? ⟨(ad180.add ((x5_1).toNat * 6)).block,(ad180.add ((x5_1).toNat * 6)).off + 2,none⟩ = some (.float .f64 ((rd_T39 l1 x5_1).f2)) ∧ w'.cell? ⟨(ad180.add ((x5_1).toNat * 6)).block,(ad180.add ((x5_1).toNat * 6)).off + 3,none⟩ = some (.int .i64 ((rd_T39 l1 x5_1).f3)) ∧ w'.cell? ⟨(ad180.add ((x5_1).toNat * 6)).block,(ad180.add ((x5_1).toNat * 6)).off + 4,none⟩ = some (.float .f64 ((rd_T39 l1 x5_1).f4)) ∧ w'.cell? ⟨(ad180.add ((x5_1).toNat * 6)).block,(ad180.add ((x5_1).toNat * 6)).off + 5,none⟩ = some (.int .i64 ((rd_T39 l1 x5_1).f5))) ∧ (w'.heap[s_.1]? = some (.cells #[.int .i64 0,.int .i64 0,.float .f64 0,.int .i64 0,.float .f64 0,.int .i64 0] 39 (0,0))) ∧ (w'.heap[s_.2]? = some (.cells #[.int .i64 0,.int .i64 0,.float .f64 0,.int .i64 0,.float .f64 0,.int .i64 0] 39 (0,0))) ∧ (w.heap.size ≤ s_.1) ∧ (w.heap.size ≤ s_.1) ∧ (s_.2 ≠ s_.1) ∧ (s_.1 ≠ s_.2) ∧ (w.heap.size ≤ s_.2) ∧ (w.heap.size ≤ s_.2) ∧ (Below w.heap.size w w')) ?_ ?_
        rotate_left
        ·intro hCont
         refine two_ (i:=8) (j:=9) (Ni:=some 6) (Nj:=some 7) #[T,T,T,T,T,T,T,T,T,F,F,F] #[T,T,T,T,T,T,T,T,F,T,F,F] rfl rfl rfl rfl (two_of HT_.out (by kernel_rfl)) (by decide) (by decide) (fun K hK => ?_) (fun K hK => ?_)
         ·skip
          refine box_step ?hg (N:=6) ?hd (cs:=#[.int .i64 0,.int .i64 0,.float .f64 0,.int .i64 0,.float .f64 0,.int .i64 0]) (t:=39) ?hr ?_;(case hd => rfl);(case hg => exact zw);(case hr => first|(go_simp;done)|(go_simp;rfl))
          intro G181 hg w130 hbox hb
          have K181:=Aside0.mk (hbox)
          have GW181:=zN HB hg
          have GE181:=zN HB hg
          replace HB:=zS HB hb
          clear hb hbox hg
          refine hK.out _ _ ⟨(zh HB hw179_0),(zh HB hw179_1),(zh HB hw179_2),(zh HB hw179_3),(zh HB hw179_4),(zh HB hw179_5),(zh HB hw180_0),(zh HB hw180_1),(zh HB hw180_2),(zh HB hw180_3),(zh HB hw180_4),(zh HB hw180_5)⟩ (fun hHeld => ?_)
          clear hK K
          refine nz 6 ?_
          refine one_ (i:=9) (N:=some 7) #[T,T,T,T,T,T,T,T,T,T,F,F] rfl rfl (one_of HT_.out (by kernel_rfl)) (by decide) (fun K hK => ?_)
          refine box_step ?hg (N:=7) ?hd (cs:=#[.int .i64 0,.int .i64 0,.float .f64 0,.int .i64 0,.float .f64 0,.int .i64 0]) (t:=39) ?hr ?_;(case hd => rfl);(case hg => exact zw);(case hr => first|(go_simp;done)|(go_simp;rfl))
          intro G182 hg w131 hbox hb
          have K182:=Aside0.mk (hbox)
          have GW182:=zN HB hg
          have GE182:=zN HB hg
          replace HB:=zS HB hb
          have NB181_182:=zL K181 hg
          have NB182_181:=zG K181 hg
          replace K181:=zB K181 hb
          clear hb hbox hg
          refine hK.out _ _ ⟨(zh HB hw179_0),(zh HB hw179_1),(zh HB hw179_2),(zh HB hw179_3),(zh HB hw179_4),(zh HB hw179_5),(zh HB hw180_0),(zh HB hw180_1),(zh HB hw180_2),(zh HB hw180_3),(zh HB hw180_4),(zh HB hw180_5)⟩ (fun hHeld => ?_)
          clear hK K
          refine nz 7 ?_
          exact norm_ (by simp only [putAll,Act.put,xA,xB,xC]) (hCont (G181,G182) _ ⟨hHeld,(z1 K181.1),(z1 K182.1),GW181.1,GE181.1,NB182_181.1,NB181_182.1,GW182.1,GE182.1,(zH HB)⟩)
         ·skip
          refine box_step ?hg (N:=7) ?hd (cs:=#[.int .i64 0,.int .i64 0,.float .f64 0,.int .i64 0,.float .f64 0,.int .i64 0]) (t:=39) ?hr ?_;(case hd => rfl);(case hg => exact zw);(case hr => first|(go_simp;done)|(go_simp;rfl))
          intro G182 hg w130 hbox hb
          have K182:=Aside0.mk (hbox)
          have GW182:=zN HB hg
          have GE182:=zN HB hg
          replace HB:=zS HB hb
          clear hb hbox hg
          refine hK.out _ _ ⟨(zh HB hw179_0),(zh HB hw179_1),(zh HB hw179_2),(zh HB hw179_3),(zh HB hw179_4),(zh HB hw179_5),(zh HB hw180_0),(zh HB hw180_1),(zh HB hw180_2),(zh HB hw180_3),(zh HB hw180_4),(zh HB hw180_5)⟩ (fun hHeld => ?_)
          clear hK K
          refine nz 7 ?_
          refine one_ (i:=8) (N:=some 6) #[T,T,T,T,T,T,T,T,T,T,F,F] rfl rfl (one_of HT_.out (by kernel_rfl)) (by decide) (fun K hK => ?_)
          refine box_step ?hg (N:=6) ?hd (cs:=#[.int .i64 0,.int .i64 0,.float .f64 0,.int .i64 0,.float .f64 0,.int .i64 0]) (t:=39) ?hr ?_;(case hd => rfl);(case hg => exact zw);(case hr => first|(go_simp;done)|(go_simp;rfl))
          intro G181 hg w131 hbox hb
          have K181:=Aside0.mk (hbox)
          have GW181:=zN HB hg
          have GE181:=zN HB hg
          replace HB:=zS HB hb
          have NB182_181:=zL K182 hg
          have NB181_182:=zG K182 hg
          replace K182:=zB K182 hb
          clear hb hbox hg
          refine hK.out _ _ ⟨(zh HB hw179_0),(zh HB hw179_1),(zh HB hw179_2),(zh HB hw179_3),(zh HB hw179_4),(zh HB hw179_5),(zh HB hw180_0),(zh HB hw180_1),(zh HB hw180_2),(zh HB hw180_3),(zh HB hw180_4),(zh HB hw180_5)⟩ (fun hHeld => ?_)
          clear hK K
          refine nz 6 ?_
          exact norm_ (by simp only [putAll,Act.put,xA,xB,xC]) (hCont (G181,G182) _ ⟨hHeld,(z1 K181.1),(z1 K182.1),GW181.1,GE181.1,NB182_181.1,NB181_182.1,GW182.1,GE182.1,(zH HB)⟩)
        rintro ⟨G181,G182⟩ w132 ⟨hS_,h0_,h1_,h2_,h3_,h4_,h5_,h6_,h7_,h8_⟩
        have K181 : Aside0 (w132.heap[G181]? = some (.cells #[.int .i64 0,.int .i64 0,.float .f64 0,.int .i64 0,.float .f64 0,.int .i64 0] 39 (0,0))):=⟨h0_⟩
        have K182 : Aside0 (w132.heap[G182]? = some (.cells #[.int .i64 0,.int .i64 0,.float .f64 0,.int .i64 0,.float .f64 0,.int .i64 0] 39 (0,0))):=⟨h1_⟩
        have GW181 : Aside0 (w.heap.size ≤ G181):=⟨h2_⟩
        have GE181 : Aside0 (w.heap.size ≤ G181):=⟨h3_⟩
        have NB182_181 : Aside0 (G182 ≠ G181):=⟨h4_⟩
        have NB181_182 : Aside0 (G181 ≠ G182):=⟨h5_⟩
        have GW182 : Aside0 (w.heap.size ≤ G182):=⟨h6_⟩
        have GE182 : Aside0 (w.heap.size ≤ G182):=⟨h7_⟩
        replace HB : Aside0 (Below w.heap.size w w132):=⟨h8_⟩
        clear h0_ h1_ h2_ h3_ h4_ h5_ h6_ h7_ h8_
        have hHeld : w132.cell? (ad179.add ((x5_1).toNat * 6)) = some (.int .i64 ((rd_T39 l0 x5_1).f0)) ∧ w132.cell? ⟨(ad179.add ((x5_1).toNat * 6)).block,(ad179.add ((x5_1).toNat * 6)).off + 1,none⟩ = some (.int .i64 ((rd_T39 l0 x5_1).f1)) ∧ w132.cell? ⟨(ad179.add ((x5_1).toNat * 6)).block,(ad179.add ((x5_1).toNat * 6)).off + 2,none⟩ = some (.float .f64 ((rd_T39 l0 x5_1).f2)) ∧ w132.cell? ⟨(ad179.add ((x5_1).toNat * 6)).block,(ad179.add ((x5_1).toNat * 6)).off + 3,none⟩ = some (.int .i64 ((rd_T39 l0 x5_1).f3)) ∧ w132.cell? ⟨(ad179.add ((x5_1).toNat * 6)).block,(ad179.add ((x5_1).toNat * 6)).off + 4,none⟩ = some (.float .f64 ((rd_T39 l0 x5_1).f4)) ∧ w132.cell? ⟨(ad179.add ((x5_1).toNat * 6)).block,(ad179.add ((x5_1).toNat * 6)).off + 5,none⟩ = some (.int .i64 ((rd_T39 l0 x5_1).f5)) ∧ w132.cell? (ad180.add ((x5_1).toNat * 6)) = some (.int .i64 ((rd_T39 l1 x5_1).f0)) ∧ w132.cell? ⟨(ad180.add ((x5_1).toNat * 6)).block,(ad180.add ((x5_1).toNat * 6)).off + 1,none⟩ = some (.int .i64 ((rd_T39 l1 x5_1).f1)) ∧ w132.cell? ⟨(ad180.add ((x5_1).toNat * 6)).block,(ad180.add ((x5_1).toNat * 6)).off + 2,none⟩ = some (.float .f64 ((rd_T39 l1 x5_1).f2)) ∧ w132.cell? ⟨(ad180.add ((x5_1).toNat * 6)).block,(ad180.add ((x5_1).toNat * 6)).off + 3,none⟩ = some (.int .i64 ((rd_T39 l1 x5_1).f3)) ∧ w132.cell? ⟨(ad180.add ((x5_1).toNat * 6)).block,(ad180.add ((x5_1).toNat * 6)).off + 4,none⟩ = some (.float .f64 ((rd_T39 l1 x5_1).f4)) ∧ w132.cell? ⟨(ad180.add ((x5_1).toNat * 6)).block,(ad180.add ((x5_1).toNat * 6)).off + 5,none⟩ = some (.int .i64 ((rd_T39 l1 x5_1).f5)):=hS_
        refine norm_ (a':=?_) ?_ ?_
        rotate_left
        ·simp only [putAll,Act.put,xA,xB,xC]
         rfl
        refine one_ (i:=10) (N:=none) #[T,T,T,T,T,T,T,T,T,T,T,F] rfl rfl (one_of HT_.out (by kernel_rfl)) (by decide) (fun K hK => ?_)
        have hs133 : w132.cell? ⟨G181,0,none⟩ = some (.int .i64 0):=zk K181 0
        have hfs133:=bF K181.1 0
        have hns133_1:=NB182_181.1
        have hms133_1:=NB181_182.1
        have hs134 : w132.cell? ⟨G181,1,none⟩ = some (.int .i64 0):=zk K181 1
        have hfs134:=bF K181.1 1
        have hns134_1:=NB182_181.1
        have hms134_1:=NB181_182.1
        have hs135 : w132.cell? ⟨G181,2,none⟩ = some (.float .f64 0):=zk K181 2
        have hfs135:=bF K181.1 2
        have hns135_1:=NB182_181.1
        have hms135_1:=NB181_182.1
        have hs136 : w132.cell? ⟨G181,3,none⟩ = some (.int .i64 0):=zk K181 3
        have hfs136:=bF K181.1 3
        have hns136_1:=NB182_181.1
        have hms136_1:=NB181_182.1
        have hs137 : w132.cell? ⟨G181,4,none⟩ = some (.float .f64 0):=zk K181 4
        have hfs137:=bF K181.1 4
        have hns137_1:=NB182_181.1
        have hms137_1:=NB181_182.1
        have hs138 : w132.cell? ⟨G181,5,none⟩ = some (.int .i64 0):=zk K181 5
        have hfs138:=bF K181.1 5
        have hns138_1:=NB182_181.1
        have hms138_1:=NB181_182.1
        refine sz ?_
        refine hK.out _ _ ⟨((cF (p:=⟨G181,_,none⟩) (ne_c hw179_0 GW181.1) _).trans (((cF (p:=⟨G181,_,none⟩) (ne_c hw179_0 GW181.1) _).trans (((cF (p:=⟨G181,_,none⟩) (ne_c hw179_0 GW181.1) _).trans (((cF (p:=⟨G181,_,none⟩) (ne_c hw179_0 GW181.1) _).trans (((cF (p:=⟨G181,_,none⟩) (ne_c hw179_0 GW181.1) _).trans (((cF (p:=⟨G181,_,none⟩) (ne_c hw179_0 GW181.1) _).trans (hHeld.1)))))))))))),((cF (p:=⟨G181,_,none⟩) (ne_c hw179_1 GW181.1) _).trans (((cF (p:=⟨G181,_,none⟩) (ne_c hw179_1 GW181.1) _).trans (((cF (p:=⟨G181,_,none⟩) (ne_c hw179_1 GW181.1) _).trans (((cF (p:=⟨G181,_,none⟩) (ne_c hw179_1 GW181.1) _).trans (((cF (p:=⟨G181,_,none⟩) (ne_c hw179_1 GW181.1) _).trans (((cF (p:=⟨G181,_,none⟩) (ne_c hw179_1 GW181.1) _).trans (hHeld.2.1)))))))))))),((cF (p:=⟨G181,_,none⟩) (ne_c hw179_2 GW181.1) _).trans (((cF (p:=⟨G181,_,none⟩) (ne_c hw179_2 GW181.1) _).trans (((cF (p:=⟨G181,_,none⟩) (ne_c hw179_2 GW181.1) _).trans (((cF (p:=⟨G181,_,none⟩) (ne_c hw179_2 GW181.1) _).trans (((cF (p:=⟨G181,_,none⟩) (ne_c hw179_2 GW181.1) _).trans (((cF (p:=⟨G181,_,none⟩) (ne_c hw179_2 GW181.1) _).trans (hHeld.2.2.1)))))))))))),((cF (p:=⟨G181,_,none⟩) (ne_c hw179_3 GW181.1) _).trans (((cF (p:=⟨G181,_,none⟩) (ne_c hw179_3 GW181.1) _).trans (((cF (p:=⟨G181,_,none⟩) (ne_c hw179_3 GW181.1) _).trans (((cF (p:=⟨G181,_,none⟩) (ne_c hw179_3 GW181.1) _).trans (((cF (p:=⟨G181,_,none⟩) (ne_c hw179_3 GW181.1) _).trans (((cF (p:=⟨G181,_,none⟩) (ne_c hw179_3 GW181.1) _).trans (hHeld.2.2.2.1)))))))))))),((cF (p:=⟨G181,_,none⟩) (ne_c hw179_4 GW181.1) _).trans (((cF (p:=⟨G181,_,none⟩) (ne_c hw179_4 GW181.1) _).trans (((cF (p:=⟨G181,_,none⟩) (ne_c hw179_4 GW181.1) _).trans (((cF (p:=⟨G181,_,none⟩) (ne_c hw179_4 GW181.1) _).trans (((cF (p:=⟨G181,_,none⟩) (ne_c hw179_4 GW181.1) _).trans (((cF (p:=⟨G181,_,none⟩) (ne_c hw179_4 GW181.1) _).trans (hHeld.2.2.2.2.1)))))))))))),((cF (p:=⟨G181,_,none⟩) (ne_c hw179_5 GW181.1) _).trans (((cF (p:=⟨G181,_,none⟩) (ne_c hw179_5 GW181.1) _).trans (((cF (p:=⟨G181,_,none⟩) (ne_c hw179_5 GW181.1) _).trans (((cF (p:=⟨G181,_,none⟩) (ne_c hw179_5 GW181.1) _).trans (((cF (p:=⟨G181,_,none⟩) (ne_c hw179_5 GW181.1) _).trans (((cF (p:=⟨G181,_,none⟩) (ne_c hw179_5 GW181.1) _).trans (hHeld.2.2.2.2.2.1)))))))))))),((cF (p:=⟨G181,_,none⟩) (ne_c hw180_0 GW181.1) _).trans (((cF (p:=⟨G181,_,none⟩) (ne_c hw180_0 GW181.1) _).trans (((cF (p:=⟨G181,_,none⟩) (ne_c hw180_0 GW181.1) _).trans (((cF (p:=⟨G181,_,none⟩) (ne_c hw180_0 GW181.1) _).trans (((cF (p:=⟨G181,_,none⟩) (ne_c hw180_0 GW181.1) _).trans (((cF (p:=⟨G181,_,none⟩) (ne_c hw180_0 GW181.1) _).trans (hHeld.2.2.2.2.2.2.1)))))))))))),((cF (p:=⟨G181,_,none⟩) (ne_c hw180_1 GW181.1) _).trans (((cF (p:=⟨G181,_,none⟩) (ne_c hw180_1 GW181.1) _).trans (((cF (p:=⟨G181,_,none⟩) (ne_c hw180_1 GW181.1) _).trans (((cF (p:=⟨G181,_,none⟩) (ne_c hw180_1 GW181.1) _).trans (((cF (p:=⟨G181,_,none⟩) (ne_c hw180_1 GW181.1) _).trans (((cF (p:=⟨G181,_,none⟩) (ne_c hw180_1 GW181.1) _).trans (hHeld.2.2.2.2.2.2.2.1)))))))))))),((cF (p:=⟨G181,_,none⟩) (ne_c hw180_2 GW181.1) _).trans (((cF (p:=⟨G181,_,none⟩) (ne_c hw180_2 GW181.1) _).trans (((cF (p:=⟨G181,_,none⟩) (ne_c hw180_2 GW181.1) _).trans (((cF (p:=⟨G181,_,none⟩) (ne_c hw180_2 GW181.1) _).trans (((cF (p:=⟨G181,_,none⟩) (ne_c hw180_2 GW181.1) _).trans (((cF (p:=⟨G181,_,none⟩) (ne_c hw180_2 GW181.1) _).trans (hHeld.2.2.2.2.2.2.2.2.1)))))))))))),((cF (p:=⟨G181,_,none⟩) (ne_c hw180_3 GW181.1) _).trans (((cF (p:=⟨G181,_,none⟩) (ne_c hw180_3 GW181.1) _).trans (((cF (p:=⟨G181,_,none⟩) (ne_c hw180_3 GW181.1) _).trans (((cF (p:=⟨G181,_,none⟩) (ne_c hw180_3 GW181.1) _).trans (((cF (p:=⟨G181,_,none⟩) (ne_c hw180_3 GW181.1) _).trans (((cF (p:=⟨G181,_,none⟩) (ne_c hw180_3 GW181.1) _).trans (hHeld.2.2.2.2.2.2.2.2.2.1)))))))))))),((cF (p:=⟨G181,_,none⟩) (ne_c hw180_4 GW181.1) _).trans (((cF (p:=⟨G181,_,none⟩) (ne_c hw180_4 GW181.1) _).trans (((cF (p:=⟨G181,_,none⟩) (ne_c hw180_4 GW181.1) _).trans (((cF (p:=⟨G181,_,none⟩) (ne_c hw180_4 GW181.1) _).trans (((cF (p:=⟨G181,_,none⟩) (ne_c hw180_4 GW181.1) _).trans (((cF (p:=⟨G181,_,none⟩) (ne_c hw180_4 GW181.1) _).trans (hHeld.2.2.2.2.2.2.2.2.2.2.1)))))))))))),((cF (p:=⟨G181,_,none⟩) (ne_c hw180_5 GW181.1) _).trans (((cF (p:=⟨G181,_,none⟩) (ne_c hw180_5 GW181.1) _).trans (((cF (p:=⟨G181,_,none⟩) (ne_c hw180_5 GW181.1) _).trans (((cF (p:=⟨G181,_,none⟩) (ne_c hw180_5 GW181.1) _).trans (((cF (p:=⟨G181,_,none⟩) (ne_c hw180_5 GW181.1) _).trans (((cF (p:=⟨G181,_,none⟩) (ne_c hw180_5 GW181.1) _).trans (hHeld.2.2.2.2.2.2.2.2.2.2.2))))))))))))⟩ (fun hHeld => ?_)
        clear hK K
        refine one_ (i:=11) (N:=none) #[T,T,T,T,T,T,T,T,T,T,T,T] rfl rfl (one_of HT_.out (by kernel_rfl)) (by decide) (fun K hK => ?_)
        have hs139 : w132.cell? ⟨G182,0,none⟩ = some (.int .i64 0):=zk K182 0
        have hfs139:=bF K182.1 0
        have hns139_0:=NB181_182.1
        have hms139_0:=NB182_181.1
        have hs140 : w132.cell? ⟨G182,1,none⟩ = some (.int .i64 0):=zk K182 1
        have hfs140:=bF K182.1 1
        have hns140_0:=NB181_182.1
        have hms140_0:=NB182_181.1
        have hs141 : w132.cell? ⟨G182,2,none⟩ = some (.float .f64 0):=zk K182 2
        have hfs141:=bF K182.1 2
        have hns141_0:=NB181_182.1
        have hms141_0:=NB182_181.1
        have hs142 : w132.cell? ⟨G182,3,none⟩ = some (.int .i64 0):=zk K182 3
        have hfs142:=bF K182.1 3
        have hns142_0:=NB181_182.1
        have hms142_0:=NB182_181.1
        have hs143 : w132.cell? ⟨G182,4,none⟩ = some (.float .f64 0):=zk K182 4
        have hfs143:=bF K182.1 4
        have hns143_0:=NB181_182.1
        have hms143_0:=NB182_181.1
        have hs144 : w132.cell? ⟨G182,5,none⟩ = some (.int .i64 0):=zk K182 5
        have hfs144:=bF K182.1 5
        have hns144_0:=NB181_182.1
        have hms144_0:=NB182_181.1
        refine sz ?_
        refine hK.out _ _ ⟨((cF (p:=⟨G182,_,none⟩) (ne_c hw179_0 GW182.1) _).trans (((cF (p:=⟨G182,_,none⟩) (ne_c hw179_0 GW182.1) _).trans (((cF (p:=⟨G182,_,none⟩) (ne_c hw179_0 GW182.1) _).trans (((cF (p:=⟨G182,_,none⟩) (ne_c hw179_0 GW182.1) _).trans (((cF (p:=⟨G182,_,none⟩) (ne_c hw179_0 GW182.1) _).trans (((cF (p:=⟨G182,_,none⟩) (ne_c hw179_0 GW182.1) _).trans (hHeld.1)))))))))))),((cF (p:=⟨G182,_,none⟩) (ne_c hw179_1 GW182.1) _).trans (((cF (p:=⟨G182,_,none⟩) (ne_c hw179_1 GW182.1) _).trans (((cF (p:=⟨G182,_,none⟩) (ne_c hw179_1 GW182.1) _).trans (((cF (p:=⟨G182,_,none⟩) (ne_c hw179_1 GW182.1) _).trans (((cF (p:=⟨G182,_,none⟩) (ne_c hw179_1 GW182.1) _).trans (((cF (p:=⟨G182,_,none⟩) (ne_c hw179_1 GW182.1) _).trans (hHeld.2.1)))))))))))),((cF (p:=⟨G182,_,none⟩) (ne_c hw179_2 GW182.1) _).trans (((cF (p:=⟨G182,_,none⟩) (ne_c hw179_2 GW182.1) _).trans (((cF (p:=⟨G182,_,none⟩) (ne_c hw179_2 GW182.1) _).trans (((cF (p:=⟨G182,_,none⟩) (ne_c hw179_2 GW182.1) _).trans (((cF (p:=⟨G182,_,none⟩) (ne_c hw179_2 GW182.1) _).trans (((cF (p:=⟨G182,_,none⟩) (ne_c hw179_2 GW182.1) _).trans (hHeld.2.2.1)))))))))))),((cF (p:=⟨G182,_,none⟩) (ne_c hw179_3 GW182.1) _).trans (((cF (p:=⟨G182,_,none⟩) (ne_c hw179_3 GW182.1) _).trans (((cF (p:=⟨G182,_,none⟩) (ne_c hw179_3 GW182.1) _).trans (((cF (p:=⟨G182,_,none⟩) (ne_c hw179_3 GW182.1) _).trans (((cF (p:=⟨G182,_,none⟩) (ne_c hw179_3 GW182.1) _).trans (((cF (p:=⟨G182,_,none⟩) (ne_c hw179_3 GW182.1) _).trans (hHeld.2.2.2.1)))))))))))),((cF (p:=⟨G182,_,none⟩) (ne_c hw179_4 GW182.1) _).trans (((cF (p:=⟨G182,_,none⟩) (ne_c hw179_4 GW182.1) _).trans (((cF (p:=⟨G182,_,none⟩) (ne_c hw179_4 GW182.1) _).trans (((cF (p:=⟨G182,_,none⟩) (ne_c hw179_4 GW182.1) _).trans (((cF (p:=⟨G182,_,none⟩) (ne_c hw179_4 GW182.1) _).trans (((cF (p:=⟨G182,_,none⟩) (ne_c hw179_4 GW182.1) _).trans (hHeld.2.2.2.2.1)))))))))))),((cF (p:=⟨G182,_,none⟩) (ne_c hw179_5 GW182.1) _).trans (((cF (p:=⟨G182,_,none⟩) (ne_c hw179_5 GW182.1) _).trans (((cF (p:=⟨G182,_,none⟩) (ne_c hw179_5 GW182.1) _).trans (((cF (p:=⟨G182,_,none⟩) (ne_c hw179_5 GW182.1) _).trans (((cF (p:=⟨G182,_,none⟩) (ne_c hw179_5 GW182.1) _).trans (((cF (p:=⟨G182,_,none⟩) (ne_c hw179_5 GW182.1) _).trans (hHeld.2.2.2.2.2.1)))))))))))),((cF (p:=⟨G182,_,none⟩) (ne_c hw180_0 GW182.1) _).trans (((cF (p:=⟨G182,_,none⟩) (ne_c hw180_0 GW182.1) _).trans (((cF (p:=⟨G182,_,none⟩) (ne_c hw180_0 GW182.1) _).trans (((cF (p:=⟨G182,_,none⟩) (ne_c hw180_0 GW182.1) _).trans (((cF (p:=⟨G182,_,none⟩) (ne_c hw180_0 GW182.1) _).trans (((cF (p:=⟨G182,_,none⟩) (ne_c hw180_0 GW182.1) _).trans (hHeld.2.2.2.2.2.2.1)))))))))))),((cF (p:=⟨G182,_,none⟩) (ne_c hw180_1 GW182.1) _).trans (((cF (p:=⟨G182,_,none⟩) (ne_c hw180_1 GW182.1) _).trans (((cF (p:=⟨G182,_,none⟩) (ne_c hw180_1 GW182.1) _).trans (((cF (p:=⟨G182,_,none⟩) (ne_c hw180_1 GW182.1) _).trans (((cF (p:=⟨G182,_,none⟩) (ne_c hw180_1 GW182.1) _).trans (((cF (p:=⟨G182,_,none⟩) (ne_c hw180_1 GW182.1) _).trans (hHeld.2.2.2.2.2.2.2.1)))))))))))),((cF (p:=⟨G182,_,none⟩) (ne_c hw180_2 GW182.1) _).trans (((cF (p:=⟨G182,_,none⟩) (ne_c hw180_2 GW182.1) _).trans (((cF (p:=⟨G182,_,none⟩) (ne_c hw180_2 GW182.1) _).trans (((cF (p:=⟨G182,_,none⟩) (ne_c hw180_2 GW182.1) _).trans (((cF (p:=⟨G182,_,none⟩) (ne_c hw180_2 GW182.1) _).trans (((cF (p:=⟨G182,_,none⟩) (ne_c hw180_2 GW182.1) _).trans (hHeld.2.2.2.2.2.2.2.2.1)))))))))))),((cF (p:=⟨G182,_,none⟩) (ne_c hw180_3 GW182.1) _).trans (((cF (p:=⟨G182,_,none⟩) (ne_c hw180_3 GW182.1) _).trans (((cF (p:=⟨G182,_,none⟩) (ne_c hw180_3 GW182.1) _).trans (((cF (p:=⟨G182,_,none⟩) (ne_c hw180_3 GW182.1) _).trans (((cF (p:=⟨G182,_,none⟩) (ne_c hw180_3 GW182.1) _).trans (((cF (p:=⟨G182,_,none⟩) (ne_c hw180_3 GW182.1) _).trans (hHeld.2.2.2.2.2.2.2.2.2.1)))))))))))),((cF (p:=⟨G182,_,none⟩) (ne_c hw180_4 GW182.1) _).trans (((cF (p:=⟨G182,_,none⟩) (ne_c hw180_4 GW182.1) _).trans (((cF (p:=⟨G182,_,none⟩) (ne_c hw180_4 GW182.1) _).trans (((cF (p:=⟨G182,_,none⟩) (ne_c hw180_4 GW182.1) _).trans (((cF (p:=⟨G182,_,none⟩) (ne_c hw180_4 GW182.1) _).trans (((cF (p:=⟨G182,_,none⟩) (ne_c hw180_4 GW182.1) _).trans (hHeld.2.2.2.2.2.2.2.2.2.2.1)))))))))))),((cF (p:=⟨G182,_,none⟩) (ne_c hw180_5 GW182.1) _).trans (((cF (p:=⟨G182,_,none⟩) (ne_c hw180_5 GW182.1) _).trans (((cF (p:=⟨G182,_,none⟩) (ne_c hw180_5 GW182.1) _).trans (((cF (p:=⟨G182,_,none⟩) (ne_c hw180_5 GW182.1) _).trans (((cF (p:=⟨G182,_,none⟩) (ne_c hw180_5 GW182.1) _).trans (((cF (p:=⟨G182,_,none⟩) (ne_c hw180_5 GW182.1) _).trans (hHeld.2.2.2.2.2.2.2.2.2.2.2))))))))))))⟩ (fun hHeld => ?_)
        clear hK K
        refine done_ (done_of HT_.out (by kernel_rfl)) ?_
        have hnb145:=NB181_182.1
        have hnc145:=NB182_181.1
        have hcz146_0 : w132.cell? ⟨G181,0,none⟩ = some (.int .i64 0):=zk K181 0
        have hcz146_1 : w132.cell? ⟨G181,1,none⟩ = some (.int .i64 0):=zk K181 1
        have hcz146_2 : w132.cell? ⟨G181,2,none⟩ = some (.float .f64 0):=zk K181 2
        have hcz146_3 : w132.cell? ⟨G181,3,none⟩ = some (.int .i64 0):=zk K181 3
        have hcz146_4 : w132.cell? ⟨G181,4,none⟩ = some (.float .f64 0):=zk K181 4
        have hcz146_5 : w132.cell? ⟨G181,5,none⟩ = some (.int .i64 0):=zk K181 5
        have hfz146_0:=bF K181.1 0
        have hfz146_1:=bF K181.1 1
        have hfz146_2:=bF K181.1 2
        have hfz146_3:=bF K181.1 3
        have hfz146_4:=bF K181.1 4
        have hfz146_5:=bF K181.1 5
        have hcz147_0 : w132.cell? ⟨G182,0,none⟩ = some (.int .i64 0):=zk K182 0
        have hcz147_1 : w132.cell? ⟨G182,1,none⟩ = some (.int .i64 0):=zk K182 1
        have hcz147_2 : w132.cell? ⟨G182,2,none⟩ = some (.float .f64 0):=zk K182 2
        have hcz147_3 : w132.cell? ⟨G182,3,none⟩ = some (.int .i64 0):=zk K182 3
        have hcz147_4 : w132.cell? ⟨G182,4,none⟩ = some (.float .f64 0):=zk K182 4
        have hcz147_5 : w132.cell? ⟨G182,5,none⟩ = some (.int .i64 0):=zk K182 5
        have hfz147_0:=bF K182.1 0
        have hfz147_1:=bF K182.1 1
        have hfz147_2:=bF K182.1 2
        have hfz147_3:=bF K182.1 3
        have hfz147_4:=bF K182.1 4
        have hfz147_5:=bF K182.1 5
        try go_wp2
        go_ret
        exact ⟨by first|rfl|(simp [errW_none,errW_some] <;> rfl)|(simp [*,errW_none,errW_some] <;> rfl),zH HB⟩
      ·rw [if_neg c6] at H
       exact absurd H (by simp)
     ·rw [if_neg c5] at H
      exact absurd H (by simp)
    ·rw [if_neg c4] at H
     have c4b0 : decide (x5_1 < (l0.length : Int)) = false:=decide_eq_false c4
     clear c4
     obtain rfl:=Option.some.inj H
     go_wp2
     go_ret
     exact ⟨by first|rfl|(simp [errW_none,errW_some] <;> rfl)|(simp [*,errW_none,errW_some] <;> rfl),zH HB⟩
 ·rw [if_neg c3] at H
  have c3b0 : ((l0.length : Int) == (l1.length : Int)) = false:=beq_eq_false_iff_ne.mpr c3
  have c3b1 : ((l0.length : Int) != (l1.length : Int)) = true:=bne_iff_ne.mpr c3
  have c3b2 : (l0.length == l1.length) = false:=by first|simpa using c3|(simp at c3 ⊢;omega)
  obtain rfl:=Option.some.inj H
  go_enter Try.func21,Try.ntmps21
  go_wp2
  go_ret
  exact ⟨by first|rfl|(simp [errW_none,errW_some] <;> rfl)|(simp [*,errW_none,errW_some] <;> rfl),zH HB⟩

end Go.Proofs.Ytgmjlhpigfaicaa.XA
