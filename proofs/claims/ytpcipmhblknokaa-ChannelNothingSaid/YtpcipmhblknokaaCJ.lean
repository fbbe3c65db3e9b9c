import Derived.Test.YtpcipmhblknokaaCI
import Derived.Test.YtpcipmhblknokaaCB
import Derived.Test.YtpcipmhblknokaaXCx6
namespace Go.Proofs.Ytpcipmhblknokaa.Ch
open Go.RowKit Go.Proofs.Ytpcipmhblknokaa.XC Go.Proofs.YtpcipmhblknokaaW.PrintWords Go.Proofs.YtpcipmhblknokaaW.PrintLast Go.Proofs.YtpcipmhblknokaaW.PrintMore
attribute [local go_sem] max2_int min2_int max_two min_two max_three min_three max_four min_four   -- for this text's walks alone
set_option linter.unusedVariables false
set_option linter.unusedSimpArgs false
open List renaming setIfInBounds_toArray → xA, set_cons_zero → xB, set_cons_succ → xC
open Go.Proofs.YtpcipmhblknokaaW.PrintWords renaming blk_drewN → bN, blk_drew → bD, blk_alloc → bA, below_set → bS, blk_frozen → bF, blk_cell → bC, cell_far → cF, blk_far → bZ, blk_below → bB, pw_below_drewN → bwN, below_drew1 → bw1, below_alloc → bwA
open Go.Proofs.YtpcipmhblknokaaW.PrintZ
open Bool renaming true → T,false → F

theorem ready_l0 (m : List S27) (hl : m.length ≤ 65536) : ∀ (d k n : Nat), n + d = m.length → d < k → beaconref11_Ready.l0 k m (rdy m n) n = some (rdy m m.length)
  | d, 0, _, _, hk => absurd hk (by omega)
  | 0, k + 1, n, hd, _ => by
    obtain rfl : n = m.length := by omega
    rw [beaconref11_Ready.l0, if_neg (by omega)]
  | d + 1, k + 1, n, hd, hk => by
    have h := rdy_len m n
    rw [beaconref11_Ready.l0, if_pos (by omega), if_pos (by omega), show wrap64 ((n : Int) + 1) = ((n + 1 : Nat) : Int) by unfold wrap64; omega]
    have hi := ready_l0 m hl d k (n + 1) (by omega) (by omega)
    rw [show rdy m (n + 1) = if (rd_T27 m n).f3 = 0 then rdy m n ++ [(n : Int)] else rdy m n from rfl] at hi
    by_cases h0 : (rd_T27 m n).f3 = 0
    · rw [if_pos h0] at hi
      rw [if_pos h0, if_pos (by omega)]
      exact hi
    · rw [if_neg h0] at hi
      rw [if_neg h0]
      exact hi
theorem ready_f {m : List S27} (hl : m.length ≤ 65536) : beaconref11_Ready.f (m.length + 1) m = some (rdy m m.length) := ready_l0 m hl m.length _ 0 (by omega) (by omega)
theorem same_l0 (m : List S27) (hl : m.length ≤ 65536) : ∀ (d k n : Nat), n + d = m.length → d < k → beaconref11_Same.l0 k m m n = some true
  | d, 0, _, _, hk => absurd hk (by omega)
  | 0, k + 1, n, hd, _ => by
    obtain rfl : n = m.length := by omega
    rw [beaconref11_Same.l0, if_neg (by omega)]
  | d + 1, k + 1, n, hd, hk => by
    rw [beaconref11_Same.l0, if_pos (by omega), if_pos (by omega), if_pos (by omega), if_neg (by simp), show wrap64 ((n : Int) + 1) = ((n + 1 : Nat) : Int) by unfold wrap64; omega]
    exact same_l0 m hl d k (n + 1) (by omega) (by omega)
theorem same_f {m : List S27} (hl : m.length ≤ 65536) : beaconref11_Same.f (m.length + 1) m m = some true := by
  rw [beaconref11_Same.f, if_pos rfl]
  exact same_l0 m hl m.length _ 0 (by omega) (by omega)
def is_.T7 : Bool × List (List Nat × List Nat) := (true, [([], []), ([], []), ([0, 1], [0, 1]), ([2], [2]), ([], []), ([], []), ([4, 5], [4, 5]), ([6], [6]), ([3, 7], [3, 7])])
def is_.B7 : List Nat := [0, 0, 3, 7, 0, 0, 48, 112, 255]
theorem is_.tab7 : rtab .any (opsOf Try.f14 7) = is_.T7 := by kernel_rfl
theorem is_.bits7 : waitsOk is_.T7.2 is_.B7 = true := by kernel_rfl
section
variable {w : World} {base g : Nat} {P : Nat → Prop} {u : Value} {m : List S27} {A1 : Option Addr} {c1 : Nat}
set_option maxHeartbeats 4000000 in
set_option maxRecDepth 100000 in
theorem is_true (FL : Fl w base P g u m) (hl : m.length ≤ 65536) (hC1 : Kd.C k27 w A1 m.length m) (hc1 : m.length ≤ c1) : Calls Try.prog 14 #[.pointer (some ⟨g, 0, none⟩), .slice A1 m.length c1] w fun e w' => e = .returned (.bool true) ∧ Below w.heap.size w w' := by
  have F0 := FL
  obtain ⟨A, c, rfl, hc, hC⟩ := Kd.R_reads FL.row
  have HB := zA (Below.refl w.heap.size w)
  have hr := rdy_len m m.length
  have t1 : (((rdy m m.length).length : Int) != ((rdy m m.length).length : Int)) = false := by simp
  have t2 : ((m.length : Int) != (m.length : Int)) = false := by simp
  go_enter Try.func14, Try.ntmps14
  go_wp2_with (first | ((with_reducible refine gate_callee (f := 19) rfl ?_); refine zg (some 9) Try.func19 #[.pointer (some ⟨g, 0, none⟩)] ?_; (with_reducible refine (ready_calls F0 hl).mono ?_); rintro e w4 ⟨v, rfl, ho, hb⟩; refine ⟨_, rfl, ?_⟩; have HO := zA ho; replace HB := zS HB hb; clear hb ho; obtain ⟨A2, c2, rfl⟩ := Kd.R_slice HO.out) | ((with_reducible refine gate_callee (f := 29) rfl ?_); refine zg (some 11) Try.func29 #[.slice A1 m.length c1] ?_; (with_reducible refine (beaconref11_Ready.calls (m.length + 1) A1 c1 m _ w4 (Kd.C_below hC1 HB.out) hc1 (ready_f hl)).mono ?_); rintro e w5 ⟨v, rfl, ho, hb⟩; refine ⟨_, rfl, ?_⟩; have HP := zA (Kd.R_lower ho HB.out.size); replace HO := zRb HO hb; replace HB := zS HB hb; clear hb ho; obtain ⟨A3, c3, rfl⟩ := Kd.R_slice HP.out) | ((go_at_call 21); (with_reducible refine (len_calls (blk_below F0.blk HB.out)).mono ?_); rintro e w6 ⟨rfl, hww⟩; replace hww := hww.symm; subst hww))
  go_loopg [7] (m.length + 1) (fun kq v7 w' => ∃ n : Nat, v7 = .int .i64 n ∧ Aside0 (n ≤ (rdy m m.length).length) ∧ Aside0 (kq + n = m.length + 1) ∧ Aside0 (Kd.R (Kd.int .i64) 3 w' w.heap.size (fun _ => True) (.slice A2 (rdy m m.length).length c2) (rdy m m.length)) ∧ Aside0 (Kd.R (Kd.int .i64) 3 w' w.heap.size (fun _ => True) (.slice A3 (rdy m m.length).length c3) (rdy m m.length)) ∧ Aside0 (Below w.heap.size w w'))
  case atStart => exact ⟨0, rfl, ⟨Nat.zero_le _⟩, ⟨by omega⟩, ⟨HO.out⟩, ⟨HP.out⟩, ⟨zH HB⟩⟩
  case round =>
    obtain ⟨n, rfl, HN, HQ, HO, HP, HB⟩ := hrel
    cases gk with
    | zero => exact absurd HQ.out (by have := HN.out; omega)
    | succ k1 =>
      by_cases c6 : n < (rdy m m.length).length
      · have t1 : decide ((n : Int) < ((rdy m m.length).length : Int)) = true := decide_eq_true (by omega)
        have q0 : (0 ≤ (n : Int)) = True := eq_true (by omega)
        have q1 : ((n : Int) < ((rdy m m.length).length : Int)) = True := eq_true (by omega)
        obtain ⟨_, _, e2, _, hC2⟩ := Kd.R_reads HO.out
        obtain ⟨_, _, e3, _, hC3⟩ := Kd.R_reads HP.out
        cases e2
        cases e3
        obtain ⟨ad2, ea2, x2⟩ := Kd.at_int hC2 n (by omega) (by omega)
        obtain ⟨ad3, ea3, x3⟩ := Kd.at_int hC3 n (by omega) (by omega)
        subst ea2
        subst ea3
        simp only [Int.toNat_natCast] at x2 x3
        obtain ⟨y, hy⟩ : ∃ y, y = rd (rdy m m.length) (n : Int) := ⟨_, rfl⟩
        rw [← hy] at x2 x3
        have t5 : (y != y) = false := by simp
        go_wp2
        replace HO := zA (Kd.R_drew HO.out)
        replace HP := zA (Kd.R_drew HP.out)
        replace HB := zA (bw1 HB.1)
        refine start_ (n := 9) (S := fun w' => w'.cell? (ad2.add n) = some (.int .i64 y) ∧ w'.cell? (ad3.add n) = some (.int .i64 y)) (ds := []) #[F,F,F,F,F,F,F,F,F] (by kernel_rfl) rfl rfl ⟨x2, x3⟩ (fun hHeld => ?_)
        refine with_tabW is_.tab7 is_.bits7 (fun HT_ HW_ => ?_)
        refine pz 0 30 #[T,F,F,F,F,F,F,F,F] HT_.1 ?_
        refine pz 1 31 #[T,T,F,F,F,F,F,F,F] HT_.1 ?_
        refine pz 2 32 #[T,T,T,F,F,F,F,F,F] HT_.1 ?_
        refine pz 4 34 #[T,T,T,F,T,F,F,F,F] HT_.1 ?_
        refine pz 5 35 #[T,T,T,F,T,T,F,F,F] HT_.1 ?_
        refine pz 6 36 #[T,T,T,F,T,T,T,F,F] HT_.1 ?_
        refine tz 3 33 #[T,T,T,T,T,T,T,F,F] HT_.1 HW_.1 hHeld ?_
        refine tz 7 37 #[T,T,T,T,T,T,T,T,F] HT_.1 HW_.1 hHeld ?_
        refine pz 8 38 #[T,T,T,T,T,T,T,T,T] HT_.1 ?_
        refine done_ (done_of HT_.out (by kernel_rfl)) ?_
        go_wp2
        go_roundg k1
        case measure => omega
        case rel => exact ⟨n + 1, by rw [Int.natCast_add]; rfl, ⟨c6⟩, ⟨by have := HQ.out; omega⟩, ⟨HO.out⟩, ⟨HP.out⟩, ⟨HB.out⟩⟩
      · have t1 : decide ((n : Int) < ((rdy m m.length).length : Int)) = false := decide_eq_false (by omega)
        have t2 : decide (n < (rdy m m.length).length) = false := decide_eq_false c6
        clear c6
        go_wp2_with (first | ((with_reducible refine gate_callee (f := 10) rfl ?_); refine zg (some 40) Try.func10 #[.pointer (some ⟨g, 0, none⟩)] ?_; (with_reducible refine (all_calls (blk_below F0.blk HB.out) (Kd.C_below hC HB.out) hc (by omega)).mono ?_); rintro e w8 ⟨v, rfl, ho, hb⟩; refine ⟨_, rfl, ?_⟩; replace HB := zS HB hb; clear hb; obtain ⟨A4, c4, rfl, hc4, hC4⟩ := Kd.R_reads ho; clear ho) | ((with_reducible refine gate_callee (f := 30) rfl ?_); refine zg (some 42) Try.func30 #[.slice A4 m.length c4, .slice A1 m.length c1] ?_; (with_reducible refine (beaconref11_Same.calls (m.length + 1) A4 c4 m A1 c1 m true _ hC4 hc4 (Kd.C_below hC1 HB.out) hc1 (same_f hl)).mono ?_); rintro e w9 ⟨rfl, hd⟩; refine ⟨_, rfl, ?_⟩; have HB9 := zA (hd.below); replace HB := zS HB HB9.out; clear HB9))
        go_ret
        exact ⟨rfl, HB.out⟩
end
end Go.Proofs.Ytpcipmhblknokaa.Ch
