/- What turn does, by hand (part two). -/
import Derived.Test.YtpcipmhblknokaaCN
namespace Go.Proofs.Ytpcipmhblknokaa.Ch
open Go.RowKit Go.Proofs.Ytpcipmhblknokaa.XC Go.Proofs.YtpcipmhblknokaaW.PrintWords Go.Proofs.YtpcipmhblknokaaW.PrintLast Go.Proofs.YtpcipmhblknokaaW.PrintMore
attribute [local go_sem] max2_int min2_int max_two min_two max_three min_three max_four min_four   -- for this text's walks alone
set_option linter.unusedVariables false
set_option linter.unusedSimpArgs false
open List renaming setIfInBounds_toArray → xA, set_cons_zero → xB, set_cons_succ → xC
open Go.Proofs.YtpcipmhblknokaaW.PrintWords renaming blk_drewN → bN, blk_drew → bD, blk_alloc → bA, below_set → bS, blk_frozen → bF, blk_cell → bC, cell_far → cF, blk_far → bZ, blk_below → bB, pw_below_drewN → bwN, below_drew1 → bw1, below_alloc → bwA
open Go.Proofs.YtpcipmhblknokaaW.PrintZ
open Bool renaming true → T,false → F

set_option maxRecDepth 100000
set_option maxHeartbeats 4000000
section
variable {w : World} {base g : Nat} {P : Nat → Prop} {u : Value} {m : List S27}
def turn.T9 : Bool × List (List Nat × List Nat) := (true, [([], []), ([], []), ([1], [1]), ([2], [2]), ([3], [3]), ([], []), ([5], [5]), ([4, 6], [4, 6]), ([7], [7]), ([0, 8], [0, 8]), ([9, 9, 0, 1, 2, 3, 4, 5, 6, 7, 8, 9], [9])])
def turn.B9 : List Nat := [0, 0, 2, 6, 14, 0, 32, 126, 254, 511, 1023]
theorem turn.tab9 : rtab .any (opsOf Try.f25 9) = turn.T9 := by kernel_rfl
theorem turn.bits9 : waitsOk turn.T9.2 turn.B9 = true := by kernel_rfl
theorem turn_double {k : Int} {n : Nat} {y : S27} (hy : m[n]? = some y) (hF : Fl w base P g u m) (hb0 : base ≤ w.heap.size) (hP : ∀ k, w.heap.size ≤ k → P k) : Calls Try.prog 25 #[.pointer (some ⟨g, 0, none⟩), .agg #[.int .i64 3, .int .i64 n, .int .i64 k]] w fun e w' => ∃ u', e = .returned (.int .i64 (putE m y)) ∧ Fl w' base P g u' (putM m y) ∧ After w w' g u u' := by
  have hn := lt_y hy
  obtain ⟨b, cap, rfl, _, _⟩ := row_y hF.row hy
  have hl63 : m.length ≤ 9223372036854775807 := by obtain ⟨A, c, _, _, hC⟩ := Kd.R_reads hF.row; exact hC.2.1
  have HB := zA (Below.refl w.heap.size w)
  have FL := zA hF
  have HT : Aside0 (inB m (n : Int) = true) := ⟨by unfold inB; simp; omega⟩
  unfold inB at HT
  have q0 : (0 ≤ (n : Int)) = True := eq_true (by omega)
  have q1 : ((n : Int) < (m.length : Int)) = True := eq_true (by omega)
  have HY := zA hy
  clear hy hn
  go_enter Try.func25, Try.ntmps25
  go_wp2_with (first | ((with_reducible refine gate_dst (N := 3) rfl ?_); refine zb (N := 3) (cs := #[.int .i64 3, .int .i64 n, .int .i64 k]) (t := 29) ?_; intro G3 hg w3 hbox hb; have NF := zA (Fl.fresh FL.out hg); have K3 := zA hbox; have GW3 := zN HB hg; replace FL := zA (FL.out.below hb); replace HB := zS HB hb; clear hb hbox hg; obtain ⟨h0, h1, h2, _, _, _⟩ := zc3 K3; obtain ⟨s0, s1, _, _⟩ := zc2 (zA FL.out.blk)) | (go_at_call 34; (with_reducible refine (there_calls FL.out.blk hl63 (n : Int)).mono ?_); rw [HT.out]; rintro e w5 ⟨rfl, hww⟩; replace hww := hww.symm; subst hww))
  obtain ⟨b2, cap2, hu2, ⟨x0, x1, x2, x3⟩, _⟩ := row_y FL.out.row HY.out
  cases hu2
  refine start_ (n := 11) (S := fun w' => w'.cell? ⟨g, 1, none⟩ = some (.slice (some ⟨b, 0, none⟩) m.length cap) ∧ w'.cell? ⟨G3, 1, none⟩ = some (.int .i64 n) ∧ w'.cell? ⟨b, n * 4, none⟩ = some (.int .i64 y.f0) ∧ w'.cell? ⟨b, n * 4 + 1, none⟩ = some (.int .i64 y.f1) ∧ w'.cell? ⟨b, n * 4 + 2, none⟩ = some (.string y.f2) ∧ w'.cell? ⟨b, n * 4 + 3, none⟩ = some (.int .i64 y.f3)) (ds := [9]) #[F,F,F,F,F,F,F,F,F,F,F] (by kernel_rfl) rfl rfl ⟨s1, h1, x0, x1, x2, x3⟩ (fun hHeld => ?_)
  refine with_tabW turn.tab9 turn.bits9 (fun HT_ HW_ => ?_)
  replace FL := zA FL.out.drew
  replace K3 := zA (bD K3.1)
  replace HB := zA (bw1 HB.1)
  clear h0 h1 h2 s0 s1 x0 x1 x2 x3
  generalize w3.drew = w4 at FL K3 HB hHeld ⊢
  refine pz 0 64 #[T,F,F,F,F,F,F,F,F,F,F] HT_.1 ?_
  refine pz 1 65 #[T,T,F,F,F,F,F,F,F,F,F] HT_.1 ?_
  refine pz 2 66 #[T,T,T,F,F,F,F,F,F,F,F] HT_.1 ?_
  refine pz 3 67 #[T,T,T,T,F,F,F,F,F,F,F] HT_.1 ?_
  refine tz 4 68 #[T,T,T,T,T,F,F,F,F,F,F] HT_.1 HW_.1 hHeld ?_
  refine pz 5 69 #[T,T,T,T,T,T,F,F,F,F,F] HT_.1 ?_
  refine tz 6 70 #[T,T,T,T,T,T,T,F,F,F,F] HT_.1 HW_.1 hHeld ?_
  refine pz 7 71 #[T,T,T,T,T,T,T,T,F,F,F] HT_.1 ?_
  refine tz 8 72 #[T,T,T,T,T,T,T,T,T,F,F] HT_.1 HW_.1 hHeld ?_
  refine last_ (i := 9) (N := some 73) #[T,T,T,T,T,T,T,T,T,T,F] rfl rfl (one_of HT_.out (by kernel_rfl)) (by decide) (fun K hK => ?_)
  refine zo_ Try.func9 #[.pointer (some ⟨g, 0, none⟩), .agg #[.int .i64 y.f0, .int .i64 y.f1, .string y.f2, .int .i64 y.f3]] ?_
  refine (put_calls y FL.out (Nat.le_trans hb0 HB.out.size) (fun k hk => hP k (Nat.le_trans HB.out.size hk))).mono ?_
  rintro e w9 ⟨u2, rfl, hF2, hA2⟩
  refine ⟨_, rfl, ?_⟩
  refine hK.out _ _ ?_
  clear hK K
  refine nz 73 ?_
  refine pz 10 4 #[T,T,T,T,T,T,T,T,T,T,T] HT_.1 ?_
  refine done_ (done_of HT_.out (by kernel_rfl)) ?_
  go_wp2
  go_ret
  exact ⟨_, rfl, hF2, After.up HB.out hA2⟩
def turn.T11 : Bool × List (List Nat × List Nat) := (true, [([], []), ([0], [0]), ([1], [1]), ([2], [2]), ([3], [3]), ([4, 3], [3, 4]), ([3], [3]), ([6, 3], [3, 6]), ([7, 3], [3, 7]), ([8, 3], [3, 8]), ([3], [3]), ([10, 3], [3, 10]), ([9, 11, 3], [3, 9, 11]), ([12, 3], [3, 12]), ([13, 3], [3, 13]), ([14, 3], [3, 14]), ([5, 15, 3], [3, 5, 15]), ([3, 16], [3, 16])])
def turn.B11 : List Nat := [0, 1, 3, 7, 15, 31, 15, 79, 207, 463, 15, 1039, 4047, 8143, 16335, 32719, 65535, 131071]
theorem turn.tab11 : rtab .any (opsOf Try.f25 11) = turn.T11 := by kernel_rfl
theorem turn.bits11 : waitsOk turn.T11.2 turn.B11 = true := by kernel_rfl
def turn.T13 : Bool × List (List Nat × List Nat) := (true, [([], []), ([0], [0]), ([1], [1]), ([2], [2]), ([], []), ([4], [4]), ([3, 5], [3, 5]), ([6], [6]), ([7], [7]), ([], []), ([9], [9]), ([8, 10], [8, 10]), ([3, 5, 0, 1, 2, 3, 4, 5, 6, 7, 8, 9, 10, 11], [3, 5]), ([12, 0, 1, 2, 3, 4, 5, 6, 7, 8, 9, 10, 11], [12]), ([13, 11, 0, 1, 2, 3, 4, 5, 6, 7, 8, 9, 10, 11], [11, 13])])
def turn.B13 : List Nat := [0, 1, 3, 7, 0, 16, 63, 127, 255, 0, 512, 2047, 4095, 8191, 16383]
theorem turn.tab13 : rtab .any (opsOf Try.f25 13) = turn.T13 := by kernel_rfl
theorem turn.bits13 : waitsOk turn.T13.2 turn.B13 = true := by kernel_rfl
theorem turn_delay_neg {k : Int} {n : Nat} {y : S27} (hy : m[n]? = some y) (hk : k < 0) (hF : Fl w base P g u m) : Calls Try.prog 25 #[.pointer (some ⟨g, 0, none⟩), .agg #[.int .i64 4, .int .i64 n, .int .i64 k]] w fun e w' => e = .returned (.int .i64 1) ∧ Below w.heap.size w w' := by
  have hn := lt_y hy
  obtain ⟨b, cap, rfl, _, _⟩ := row_y hF.row hy
  have hl63 : m.length ≤ 9223372036854775807 := by obtain ⟨A, c, _, _, hC⟩ := Kd.R_reads hF.row; exact hC.2.1
  have HB := zA (Below.refl w.heap.size w)
  have FL := zA hF
  have HT : Aside0 (inB m (n : Int) = true) := ⟨by unfold inB; simp; omega⟩
  unfold inB at HT
  have q0 : (0 ≤ (n : Int)) = True := eq_true (by omega)
  have q1 : ((n : Int) < (m.length : Int)) = True := eq_true (by omega)
  have HY := zA hy
  have t1 : decide (k < 0) = true := decide_eq_true hk
  clear hk
  clear hy hn
  go_enter Try.func25, Try.ntmps25
  go_wp2_with (first | ((with_reducible refine gate_dst (N := 3) rfl ?_); refine zb (N := 3) (cs := #[.int .i64 4, .int .i64 n, .int .i64 k]) (t := 29) ?_; intro G3 hg w3 hbox hb; have NF := zA (Fl.fresh FL.out hg); have K3 := zA hbox; have GW3 := zN HB hg; replace FL := zA (FL.out.below hb); replace HB := zS HB hb; clear hb hbox hg; obtain ⟨h0, h1, h2, _, _, _⟩ := zc3 K3; obtain ⟨s0, s1, _, _⟩ := zc2 (zA FL.out.blk)) | (go_at_call 34; (with_reducible refine (there_calls FL.out.blk hl63 (n : Int)).mono ?_); rw [HT.out]; rintro e w5 ⟨rfl, hww⟩; replace hww := hww.symm; subst hww))
  obtain ⟨b2, cap2, hu2, ⟨x0, x1, x2, x3⟩, _⟩ := row_y FL.out.row HY.out
  cases hu2
  refine start_ (n := 18) (S := fun w' => w'.cell? ⟨g, 1, none⟩ = some (.slice (some ⟨b, 0, none⟩) m.length cap) ∧ w'.cell? ⟨G3, 1, none⟩ = some (.int .i64 n) ∧ w'.cell? ⟨G3, 2, none⟩ = some (.int .i64 k) ∧ w'.cell? ⟨b, n * 4 + 3, none⟩ = some (.int .i64 y.f3)) (ds := []) #[F,F,F,F,F,F,F,F,F,F,F,F,F,F,F,F,F,F] (by kernel_rfl) rfl rfl ⟨s1, h1, h2, x3⟩ (fun hHeld => ?_)
  refine with_tabW turn.tab11 turn.bits11 (fun HT_ HW_ => ?_)
  replace FL := zA FL.out.drew
  replace K3 := zA (bD K3.1)
  replace HB := zA (bw1 HB.1)
  clear h0 h1 h2 s0 s1 x0 x1 x2 x3
  generalize w3.drew = w4 at FL K3 HB hHeld ⊢
  refine pz 0 76 #[T,F,F,F,F,F,F,F,F,F,F,F,F,F,F,F,F,F] HT_.1 ?_
  refine tz 1 77 #[T,T,F,F,F,F,F,F,F,F,F,F,F,F,F,F,F,F] HT_.1 HW_.1 hHeld ?_
  refine pz 2 78 #[T,T,T,F,F,F,F,F,F,F,F,F,F,F,F,F,F,F] HT_.1 ?_
  refine pz 3 79 #[T,T,T,T,F,F,F,F,F,F,F,F,F,F,F,F,F,F] HT_.1 ?_
  refine pu 4 80 #[T,T,T,T,T,F,F,F,F,F,F,F,F,F,F,F,F,F] HT_.1 ?_
  refine pu 5 81 #[T,T,T,T,T,T,F,F,F,F,F,F,F,F,F,F,F,F] HT_.1 ?_
  refine pu 6 82 #[T,T,T,T,T,T,T,F,F,F,F,F,F,F,F,F,F,F] HT_.1 ?_
  refine pu 7 83 #[T,T,T,T,T,T,T,T,F,F,F,F,F,F,F,F,F,F] HT_.1 ?_
  refine pu 8 84 #[T,T,T,T,T,T,T,T,T,F,F,F,F,F,F,F,F,F] HT_.1 ?_
  refine pu 9 85 #[T,T,T,T,T,T,T,T,T,T,F,F,F,F,F,F,F,F] HT_.1 ?_
  refine pu 10 86 #[T,T,T,T,T,T,T,T,T,T,T,F,F,F,F,F,F,F] HT_.1 ?_
  refine pu 11 87 #[T,T,T,T,T,T,T,T,T,T,T,T,F,F,F,F,F,F] HT_.1 ?_
  refine pu 12 88 #[T,T,T,T,T,T,T,T,T,T,T,T,T,F,F,F,F,F] HT_.1 ?_
  refine pu 13 89 #[T,T,T,T,T,T,T,T,T,T,T,T,T,T,F,F,F,F] HT_.1 ?_
  refine pu 14 90 #[T,T,T,T,T,T,T,T,T,T,T,T,T,T,T,F,F,F] HT_.1 ?_
  refine pu 15 91 #[T,T,T,T,T,T,T,T,T,T,T,T,T,T,T,T,F,F] HT_.1 ?_
  refine pu 16 92 #[T,T,T,T,T,T,T,T,T,T,T,T,T,T,T,T,T,F] HT_.1 ?_
  refine pz 17 93 #[T,T,T,T,T,T,T,T,T,T,T,T,T,T,T,T,T,T] HT_.1 ?_
  refine done_ (done_of HT_.out (by kernel_rfl)) ?_
  go_wp2
  go_ret
  exact ⟨rfl, zH HB⟩
theorem turn_delay_far {k : Int} {n : Nat} {y : S27} (hy : m[n]? = some y) (hk : ¬ k < 0) (hw0 : 0 ≤ y.f3) (hw1 : y.f3 ≤ 65536) (hk2 : 65536 - y.f3 < k) (hF : Fl w base P g u m) : Calls Try.prog 25 #[.pointer (some ⟨g, 0, none⟩), .agg #[.int .i64 4, .int .i64 n, .int .i64 k]] w fun e w' => e = .returned (.int .i64 1) ∧ Below w.heap.size w w' := by
  have hn := lt_y hy
  obtain ⟨b, cap, rfl, _, _⟩ := row_y hF.row hy
  have hl63 : m.length ≤ 9223372036854775807 := by obtain ⟨A, c, _, _, hC⟩ := Kd.R_reads hF.row; exact hC.2.1
  have HB := zA (Below.refl w.heap.size w)
  have FL := zA hF
  have HT : Aside0 (inB m (n : Int) = true) := ⟨by unfold inB; simp; omega⟩
  unfold inB at HT
  have q0 : (0 ≤ (n : Int)) = True := eq_true (by omega)
  have q1 : ((n : Int) < (m.length : Int)) = True := eq_true (by omega)
  have HY := zA hy
  have t1 : decide (k < 0) = false := decide_eq_false hk
  have t2 : decide (wrap64 (65536 - y.f3) < k) = true := decide_eq_true (by unfold wrap64; omega)
  clear hk hk2
  clear hy hn
  go_enter Try.func25, Try.ntmps25
  go_wp2_with (first | ((with_reducible refine gate_dst (N := 3) rfl ?_); refine zb (N := 3) (cs := #[.int .i64 4, .int .i64 n, .int .i64 k]) (t := 29) ?_; intro G3 hg w3 hbox hb; have NF := zA (Fl.fresh FL.out hg); have K3 := zA hbox; have GW3 := zN HB hg; replace FL := zA (FL.out.below hb); replace HB := zS HB hb; clear hb hbox hg; obtain ⟨h0, h1, h2, _, _, _⟩ := zc3 K3; obtain ⟨s0, s1, _, _⟩ := zc2 (zA FL.out.blk)) | (go_at_call 34; (with_reducible refine (there_calls FL.out.blk hl63 (n : Int)).mono ?_); rw [HT.out]; rintro e w5 ⟨rfl, hww⟩; replace hww := hww.symm; subst hww))
  obtain ⟨b2, cap2, hu2, ⟨x0, x1, x2, x3⟩, _⟩ := row_y FL.out.row HY.out
  cases hu2
  refine start_ (n := 18) (S := fun w' => w'.cell? ⟨g, 1, none⟩ = some (.slice (some ⟨b, 0, none⟩) m.length cap) ∧ w'.cell? ⟨G3, 1, none⟩ = some (.int .i64 n) ∧ w'.cell? ⟨G3, 2, none⟩ = some (.int .i64 k) ∧ w'.cell? ⟨b, n * 4 + 3, none⟩ = some (.int .i64 y.f3)) (ds := []) #[F,F,F,F,F,F,F,F,F,F,F,F,F,F,F,F,F,F] (by kernel_rfl) rfl rfl ⟨s1, h1, h2, x3⟩ (fun hHeld => ?_)
  refine with_tabW turn.tab11 turn.bits11 (fun HT_ HW_ => ?_)
  replace FL := zA FL.out.drew
  replace K3 := zA (bD K3.1)
  replace HB := zA (bw1 HB.1)
  clear h0 h1 h2 s0 s1 x0 x1 x2 x3
  generalize w3.drew = w4 at FL K3 HB hHeld ⊢
  refine pz 0 76 #[T,F,F,F,F,F,F,F,F,F,F,F,F,F,F,F,F,F] HT_.1 ?_
  refine tz 1 77 #[T,T,F,F,F,F,F,F,F,F,F,F,F,F,F,F,F,F] HT_.1 HW_.1 hHeld ?_
  refine pz 2 78 #[T,T,T,F,F,F,F,F,F,F,F,F,F,F,F,F,F,F] HT_.1 ?_
  refine pz 3 79 #[T,T,T,T,F,F,F,F,F,F,F,F,F,F,F,F,F,F] HT_.1 ?_
  refine pz 4 80 #[T,T,T,T,T,F,F,F,F,F,F,F,F,F,F,F,F,F] HT_.1 ?_
  refine tz 5 81 #[T,T,T,T,T,T,F,F,F,F,F,F,F,F,F,F,F,F] HT_.1 HW_.1 hHeld ?_
  refine pz 6 82 #[T,T,T,T,T,T,T,F,F,F,F,F,F,F,F,F,F,F] HT_.1 ?_
  refine pz 7 83 #[T,T,T,T,T,T,T,T,F,F,F,F,F,F,F,F,F,F] HT_.1 ?_
  refine pz 8 84 #[T,T,T,T,T,T,T,T,T,F,F,F,F,F,F,F,F,F] HT_.1 ?_
  refine tz 9 85 #[T,T,T,T,T,T,T,T,T,T,F,F,F,F,F,F,F,F] HT_.1 HW_.1 hHeld ?_
  refine pz 10 86 #[T,T,T,T,T,T,T,T,T,T,T,F,F,F,F,F,F,F] HT_.1 ?_
  refine tz 11 87 #[T,T,T,T,T,T,T,T,T,T,T,T,F,F,F,F,F,F] HT_.1 HW_.1 hHeld ?_
  refine pz 12 88 #[T,T,T,T,T,T,T,T,T,T,T,T,T,F,F,F,F,F] HT_.1 ?_
  refine pz 13 89 #[T,T,T,T,T,T,T,T,T,T,T,T,T,T,F,F,F,F] HT_.1 ?_
  refine tz 14 90 #[T,T,T,T,T,T,T,T,T,T,T,T,T,T,T,F,F,F] HT_.1 HW_.1 hHeld ?_
  refine pz 15 91 #[T,T,T,T,T,T,T,T,T,T,T,T,T,T,T,T,F,F] HT_.1 ?_
  refine pz 16 92 #[T,T,T,T,T,T,T,T,T,T,T,T,T,T,T,T,T,F] HT_.1 ?_
  refine pz 17 93 #[T,T,T,T,T,T,T,T,T,T,T,T,T,T,T,T,T,T] HT_.1 ?_
  refine done_ (done_of HT_.out (by kernel_rfl)) ?_
  go_wp2
  go_ret
  exact ⟨rfl, zH HB⟩
theorem turn_delay_ok {k : Int} {n : Nat} {y : S27} (hy : m[n]? = some y) (hk : ¬ k < 0) (hw0 : 0 ≤ y.f3) (hw1 : y.f3 ≤ 65536) (hk2 : ¬ 65536 - y.f3 < k) (hF : Fl w base P g u m) : Calls Try.prog 25 #[.pointer (some ⟨g, 0, none⟩), .agg #[.int .i64 4, .int .i64 n, .int .i64 k]] w fun e w' => e = .returned (.int .i64 0) ∧ Fl w' base P g u (m.set n (waitS y (y.f3 + k))) ∧ After w w' g u u := by
  have hn := lt_y hy
  obtain ⟨b, cap, rfl, _, _⟩ := row_y hF.row hy
  have hl63 : m.length ≤ 9223372036854775807 := by obtain ⟨A, c, _, _, hC⟩ := Kd.R_reads hF.row; exact hC.2.1
  have HB := zA (Below.refl w.heap.size w)
  have FL := zA hF
  have HT : Aside0 (inB m (n : Int) = true) := ⟨by unfold inB; simp; omega⟩
  unfold inB at HT
  have q0 : (0 ≤ (n : Int)) = True := eq_true (by omega)
  have q1 : ((n : Int) < (m.length : Int)) = True := eq_true (by omega)
  have HY := zA hy
  have t1 : decide (k < 0) = false := decide_eq_false hk
  have t2 : decide (wrap64 (65536 - y.f3) < k) = false := decide_eq_false (by unfold wrap64; omega)
  have HWK : Aside0 (waitS y (wrap64 (y.f3 + k)) = waitS y (y.f3 + k)) := ⟨by rw [show wrap64 (y.f3 + k) = y.f3 + k by unfold wrap64; omega]⟩
  clear hk hk2 hw0 hw1
  clear hy hn
  go_enter Try.func25, Try.ntmps25
  go_wp2_with (first | ((with_reducible refine gate_dst (N := 3) rfl ?_); refine zb (N := 3) (cs := #[.int .i64 4, .int .i64 n, .int .i64 k]) (t := 29) ?_; intro G3 hg w3 hbox hb; have NF := zA (Fl.fresh FL.out hg); have K3 := zA hbox; have GW3 := zN HB hg; replace FL := zA (FL.out.below hb); replace HB := zS HB hb; clear hb hbox hg; obtain ⟨h0, h1, h2, _, _, _⟩ := zc3 K3; obtain ⟨s0, s1, _, _⟩ := zc2 (zA FL.out.blk)) | (go_at_call 34; (with_reducible refine (there_calls FL.out.blk hl63 (n : Int)).mono ?_); rw [HT.out]; rintro e w5 ⟨rfl, hww⟩; replace hww := hww.symm; subst hww))
  obtain ⟨b2, cap2, hu2, ⟨x0, x1, x2, x3⟩, _⟩ := row_y FL.out.row HY.out
  cases hu2
  refine start_ (n := 18) (S := fun w' => w'.cell? ⟨g, 1, none⟩ = some (.slice (some ⟨b, 0, none⟩) m.length cap) ∧ w'.cell? ⟨G3, 1, none⟩ = some (.int .i64 n) ∧ w'.cell? ⟨G3, 2, none⟩ = some (.int .i64 k) ∧ w'.cell? ⟨b, n * 4 + 3, none⟩ = some (.int .i64 y.f3)) (ds := []) #[F,F,F,F,F,F,F,F,F,F,F,F,F,F,F,F,F,F] (by kernel_rfl) rfl rfl ⟨s1, h1, h2, x3⟩ (fun hHeld => ?_)
  refine with_tabW turn.tab11 turn.bits11 (fun HT_ HW_ => ?_)
  replace FL := zA FL.out.drew
  replace K3 := zA (bD K3.1)
  replace HB := zA (bw1 HB.1)
  clear h0 h1 h2 s0 s1 x0 x1 x2 x3
  generalize w3.drew = w4 at FL K3 HB hHeld ⊢
  refine pz 0 76 #[T,F,F,F,F,F,F,F,F,F,F,F,F,F,F,F,F,F] HT_.1 ?_
  refine tz 1 77 #[T,T,F,F,F,F,F,F,F,F,F,F,F,F,F,F,F,F] HT_.1 HW_.1 hHeld ?_
  refine pz 2 78 #[T,T,T,F,F,F,F,F,F,F,F,F,F,F,F,F,F,F] HT_.1 ?_
  refine pz 3 79 #[T,T,T,T,F,F,F,F,F,F,F,F,F,F,F,F,F,F] HT_.1 ?_
  refine pz 4 80 #[T,T,T,T,T,F,F,F,F,F,F,F,F,F,F,F,F,F] HT_.1 ?_
  refine tz 5 81 #[T,T,T,T,T,T,F,F,F,F,F,F,F,F,F,F,F,F] HT_.1 HW_.1 hHeld ?_
  refine pz 6 82 #[T,T,T,T,T,T,T,F,F,F,F,F,F,F,F,F,F,F] HT_.1 ?_
  refine pz 7 83 #[T,T,T,T,T,T,T,T,F,F,F,F,F,F,F,F,F,F] HT_.1 ?_
  refine pz 8 84 #[T,T,T,T,T,T,T,T,T,F,F,F,F,F,F,F,F,F] HT_.1 ?_
  refine tz 9 85 #[T,T,T,T,T,T,T,T,T,T,F,F,F,F,F,F,F,F] HT_.1 HW_.1 hHeld ?_
  refine pz 10 86 #[T,T,T,T,T,T,T,T,T,T,T,F,F,F,F,F,F,F] HT_.1 ?_
  refine tz 11 87 #[T,T,T,T,T,T,T,T,T,T,T,T,F,F,F,F,F,F] HT_.1 HW_.1 hHeld ?_
  refine pz 12 88 #[T,T,T,T,T,T,T,T,T,T,T,T,T,F,F,F,F,F] HT_.1 ?_
  refine pz 13 89 #[T,T,T,T,T,T,T,T,T,T,T,T,T,T,F,F,F,F] HT_.1 ?_
  refine tz 14 90 #[T,T,T,T,T,T,T,T,T,T,T,T,T,T,T,F,F,F] HT_.1 HW_.1 hHeld ?_
  refine pz 15 91 #[T,T,T,T,T,T,T,T,T,T,T,T,T,T,T,T,F,F] HT_.1 ?_
  refine pz 16 92 #[T,T,T,T,T,T,T,T,T,T,T,T,T,T,T,T,T,F] HT_.1 ?_
  refine pz 17 93 #[T,T,T,T,T,T,T,T,T,T,T,T,T,T,T,T,T,T] HT_.1 ?_
  refine done_ (done_of HT_.out (by kernel_rfl)) ?_
  go_wp2
  obtain ⟨s1, h1, h2, x3⟩ := hHeld
  refine start_ (n := 15) (S := fun w' => w'.cell? ⟨g, 1, none⟩ = some (.slice (some ⟨b, 0, none⟩) m.length cap) ∧ w'.cell? ⟨G3, 1, none⟩ = some (.int .i64 n) ∧ w'.cell? ⟨G3, 2, none⟩ = some (.int .i64 k) ∧ w'.cell? ⟨b, n * 4 + 3, none⟩ = some (.int .i64 y.f3)) (ds := [14]) #[F,F,F,F,F,F,F,F,F,F,F,F,F,F,F] (by kernel_rfl) rfl rfl ⟨s1, h1, h2, x3⟩ (fun hHeld => ?_)
  refine with_tabW turn.tab13 turn.bits13 (fun HT_ HW_ => ?_)
  replace FL := zA FL.out.drew
  replace K3 := zA (bD K3.1)
  replace HB := zA (bw1 HB.1)
  clear h1 h2 s1 x3
  generalize w4.drew = w6 at FL K3 HB hHeld ⊢
  refine pz 0 94 #[T,F,F,F,F,F,F,F,F,F,F,F,F,F,F] HT_.1 ?_
  refine pz 1 95 #[T,T,F,F,F,F,F,F,F,F,F,F,F,F,F] HT_.1 ?_
  refine pz 2 96 #[T,T,T,F,F,F,F,F,F,F,F,F,F,F,F] HT_.1 ?_
  refine tz 3 97 #[T,T,T,T,F,F,F,F,F,F,F,F,F,F,F] HT_.1 HW_.1 hHeld ?_
  refine pz 4 98 #[T,T,T,T,T,F,F,F,F,F,F,F,F,F,F] HT_.1 ?_
  refine tz 5 99 #[T,T,T,T,T,T,F,F,F,F,F,F,F,F,F] HT_.1 HW_.1 hHeld ?_
  refine pz 6 100 #[T,T,T,T,T,T,T,F,F,F,F,F,F,F,F] HT_.1 ?_
  refine pz 7 101 #[T,T,T,T,T,T,T,T,F,F,F,F,F,F,F] HT_.1 ?_
  refine tz 8 102 #[T,T,T,T,T,T,T,T,T,F,F,F,F,F,F] HT_.1 HW_.1 hHeld ?_
  refine pz 9 103 #[T,T,T,T,T,T,T,T,T,T,F,F,F,F,F] HT_.1 ?_
  refine tz 10 104 #[T,T,T,T,T,T,T,T,T,T,T,F,F,F,F] HT_.1 HW_.1 hHeld ?_
  refine pz 11 105 #[T,T,T,T,T,T,T,T,T,T,T,T,F,F,F] HT_.1 ?_
  refine pz 12 106 #[T,T,T,T,T,T,T,T,T,T,T,T,T,F,F] HT_.1 ?_
  refine pz 13 107 #[T,T,T,T,T,T,T,T,T,T,T,T,T,T,F] HT_.1 ?_
  refine last_ (i := 14) (N := none) #[T,T,T,T,T,T,T,T,T,T,T,T,T,T,T] rfl rfl (one_of HT_.out (by kernel_rfl)) (by decide) (fun K hK => ?_)
  obtain ⟨b2, cap2, hu2, ⟨x0, x1, x2, x3⟩, hfz⟩ := row_y FL.out.row HY.out
  cases hu2
  have f3 := hfz (n * 4 + 3)
  clear hfz
  refine sz ?_
  refine hK.out _ _ ?_
  clear hK K
  refine done_ (done_of HT_.out (by kernel_rfl)) ?_
  go_wp2
  go_ret
  have e := FL.out.set3y HY.out rfl (wrap64 (y.f3 + k))
  rw [HWK.out] at e
  exact ⟨rfl, e, (After.of_below HB.out g _).own rfl _⟩
end
end Go.Proofs.Ytpcipmhblknokaa.Ch
