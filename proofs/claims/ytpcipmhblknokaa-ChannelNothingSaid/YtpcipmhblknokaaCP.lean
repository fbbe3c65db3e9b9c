/- What turn does, by hand (part three): Swap and Tick. -/
import Derived.Test.YtpcipmhblknokaaCO
namespace Go.Proofs.Ytpcipmhblknokaa.Ch
open Go.RowKit Go.Proofs.Ytpcipmhblknokaa.XC Go.Proofs.YtpcipmhblknokaaW.PrintWords Go.Proofs.YtpcipmhblknokaaW.PrintLast Go.Proofs.YtpcipmhblknokaaW.PrintMore
attribute [local go_sem] max2_int min2_int max_two min_two max_three min_three max_four min_four   -- for this text's walks alone
set_option linter.unusedVariables false
set_option linter.unusedSimpArgs false
open List renaming setIfInBounds_toArray → xA, set_cons_zero → xB, set_cons_succ → xC
open Go.Proofs.YtpcipmhblknokaaW.PrintWords renaming blk_drewN → bN, blk_drew → bD, blk_alloc → bA, below_set → bS, blk_frozen → bF, blk_cell → bC, cell_far → cF, blk_far → bZ, blk_below → bB, pw_below_drewN → bwN, below_drew1 → bw1, below_alloc → bwA
open Go.Proofs.YtpcipmhblknokaaW.PrintZ
open Bool renaming true → T,false → F

set_option maxRecDepth 100000
set_option maxHeartbeats 8000000
/-- What a tick makes of a datagram. -/
def tk (y : S27) : S27 := waitS y (if wrap64 (y.f3 - 1) ≤ 0 then 0 else wrap64 (y.f3 - 1))
def tickM : List S27 → Nat → List S27
  | [], _ => []
  | m, 0 => m
  | x :: m, n + 1 => tk x :: tickM m n
theorem tickM_zero (m : List S27) : tickM m 0 = m := by cases m <;> rfl
theorem tickM_len : ∀ (m : List S27) (n : Nat), (tickM m n).length = m.length
  | [], _ => rfl
  | _ :: _, 0 => rfl
  | x :: m, n + 1 => congrArg (· + 1) (tickM_len m n)
theorem tickM_all : ∀ (m : List S27), tickM m m.length = m.map tk
  | [] => rfl
  | x :: m => congrArg (tk x :: ·) (tickM_all m)
theorem tickM_get : ∀ {m : List S27} {n : Nat} {y : S27}, m[n]? = some y → (tickM m n)[n]? = some y
  | [], _, _, h => by simp at h
  | x :: m, 0, _, h => h
  | x :: m, n + 1, _, h => tickM_get (m := m) h
theorem tickM_succ : ∀ {m : List S27} {n : Nat} {y : S27}, m[n]? = some y → (tickM m n).set n (tk y) = tickM m (n + 1)
  | [], _, _, h => by simp at h
  | x :: m, 0, _, h => by
    injection h with h
    subst h
    exact congrArg (tk x :: ·) (tickM_zero m).symm
  | x :: m, n + 1, _, h => congrArg (tk x :: ·) (tickM_succ (m := m) h)
section
variable {Pg : Program} {ops : Array Oper} {Q : Exit → Act → World → Prop} {md : Region.Mode} {Sx : World → Prop} {ds : List Nat}
/-- Two may come: one that keeps what is held, and one that need not. -/
theorem two_last {i j : Nat} {Ni Nj : Option Tmp} {oi oj : Oper} {fuel : Nat} {l : Array Bool} {a : Act} {w : World} (li lj : Array Bool) (hi : ops[i]? = some oi) (hj : ops[j]? = some oj) (hNi : oi.dst = Ni) (hNj : oj.dst = Nj)
    (hc : (Region.ready md ops l == [i, j] && l.setIfInBounds i true == li && l.setIfInBounds j true == lj) = true) (hdi : i ∉ ds) (hdj : j ∈ ds)
    (h1 : ∀ K : Act → World → Prop, Shut (∀ a' w', Sx w' → (Sx w' → wpAnyLast Pg md ops Q Sx ds fuel li a' w') → K a' w') → if Region.wanted oi (yielded ops a.tmps) = true then Oper.wp Pg oi a w K Q else K (a.put Ni undef) w)
    (h2 : ∀ K : Act → World → Prop, Shut (∀ a' w', wpAnyLast Pg md ops Q Sx ds fuel lj a' w' → K a' w') → if Region.wanted oj (yielded ops a.tmps) = true then Oper.wp Pg oj a w K Q else K (a.put Nj undef) w) :
    wpAnyLast Pg md ops Q Sx ds (fuel + 1) l a w := by
  subst hNi
  subst hNj
  simp only [Bool.and_eq_true, beq_iff_eq] at hc
  obtain ⟨⟨h3, h4⟩, h5⟩ := hc
  subst h4
  subst h5
  exact wpAnyLast_ready h3 (by simp) (AllReadyL.cons hi hdi (fun K hK => h1 K hK) (AllReadyL.cons_last hj hdj (fun K hK => h2 K hK) AllReadyL.nil))
/-- One may come, and what was held is held no more: it must keep it if it was. -/
theorem one_keep {i : Nat} {N : Option Tmp} {oi : Oper} {fuel : Nat} {l : Array Bool} {a : Act} {w : World} (l' : Array Bool) (hi : ops[i]? = some oi) (hN : oi.dst = N) (hc : readyB md ops l l' i = true)
    (h : ∀ K : Act → World → Prop, Shut (∀ a' w', (Sx w → Sx w') → wpAnyLast Pg md ops Q Sx ds fuel l' a' w' → K a' w') → if Region.wanted oi (yielded ops a.tmps) = true then Oper.wp Pg oi a w K Q else K (a.put N undef) w) :
    wpAnyLast Pg md ops Q Sx ds (fuel + 1) l a w := by
  subst hN
  simp only [readyB, Bool.and_eq_true, beq_iff_eq] at hc
  obtain ⟨h1, h2⟩ := hc
  subst h2
  refine wpAnyLast_ready h1 (by simp) fun j hj => ?_
  obtain rfl : j = i := by simpa using hj
  exact wpOp_step hi fun K' hK => h K' (fun a' w' hs hW => hK a' w' ⟨fun _ => hs, hW⟩)
end
section
variable {w : World} {base g : Nat} {P : Nat → Prop} {u : Value} {m : List S27}
theorem After.own4 {W : World} {b i j k l : Nat} (hb : u.ownBlock = some b) (h : After w W g u u) (x y z v : Value) : After w ((((W.setCell ⟨b, i, none⟩ x).setCell ⟨b, j, none⟩ y).setCell ⟨b, k, none⟩ z).setCell ⟨b, l, none⟩ v) g u u := (((h.own hb x).own hb y).own hb z).own hb v
def turn.T15 : Bool × List (List Nat × List Nat) := (true, [([], []), ([0], [0]), ([1], [1]), ([2], [2]), ([], []), ([4], [4]), ([], []), ([6], [6]), ([7], [7]), ([8], [8]), ([], []), ([10], [10]), ([], []), ([12], [12]), ([13], [13]), ([14], [14]), ([], []), ([16], [16]), ([15, 17], [15, 17]), ([18], [18]), ([], []), ([20], [20]), ([21], [21]), ([22], [22]), ([], []), ([24], [24]), ([23, 25], [23, 25]), ([26], [26]), ([3, 5, 0, 1, 2, 3, 4, 5, 9, 12, 13, 14, 15, 16, 17, 18, 19, 23, 27], [3, 5]), ([28, 19, 0, 1, 2, 3, 4, 5, 9, 12, 13, 14, 15, 16, 17, 18, 19, 23, 27], [19, 28]), ([9, 11, 0, 1, 2, 3, 4, 5, 6, 7, 8, 9, 10, 11, 12, 13, 14, 15, 16, 17, 18, 19, 20, 21, 22, 23, 24, 25, 26, 27, 28, 29], [9, 11]), ([30, 27, 29, 0, 1, 2, 3, 4, 5, 6, 7, 8, 9, 10, 11, 12, 13, 14, 15, 16, 17, 18, 19, 20, 21, 22, 23, 24, 25, 26, 27, 28, 29], [27, 30])])
def turn.B15 : List Nat := [0, 1, 3, 7, 0, 16, 0, 64, 192, 448, 0, 1024, 0, 4096, 12288, 28672, 0, 65536, 258048, 520192, 0, 1048576, 3145728, 7340032, 0, 16777216, 66060288, 133169152, 268432383, 536867839, 1073741823, 2147483647]
theorem turn.tab15 : rtab .any (opsOf Try.f25 15) = turn.T15 := by kernel_rfl
theorem turn.bits15 : waitsOk turn.T15.2 turn.B15 = true := by kernel_rfl
theorem turn_swap {n n2 : Nat} {y z : S27} (hy : m[n]? = some y) (hz : m[n2]? = some z) (hF : Fl w base P g u m) : Calls Try.prog 25 #[.pointer (some ⟨g, 0, none⟩), .agg #[.int .i64 5, .int .i64 n, .int .i64 n2]] w fun e w' => e = .returned (.int .i64 0) ∧ Fl w' base P g u ((m.set n z).set n2 y) ∧ After w w' g u u := by
  have hn := lt_y hy
  obtain ⟨b, cap, rfl, _, _⟩ := row_y hF.row hy
  have hl63 : m.length ≤ 9223372036854775807 := by obtain ⟨A, c, _, _, hC⟩ := Kd.R_reads hF.row; exact hC.2.1
  have HB := zA (Below.refl w.heap.size w)
  have FL := zA hF
  have HT : Aside0 (inB m (n : Int) = true) := ⟨by unfold inB; simp; omega⟩
  unfold inB at HT
  have q0 : (0 ≤ (n : Int)) = True := eq_true (by omega)
  have q1 : ((n : Int) < (m.length : Int)) = True := eq_true (by omega)
  have HY := zA hy
  have hn2 := lt_y hz
  have HU : Aside0 (inB m (n2 : Int) = true) := ⟨by unfold inB; simp; omega⟩
  unfold inB at HU
  have q2 : (0 ≤ (n2 : Int)) = True := eq_true (by omega)
  have q3 : ((n2 : Int) < (m.length : Int)) = True := eq_true (by omega)
  have HZ := zA hz
  clear hz hn2
  clear hy hn
  go_enter Try.func25, Try.ntmps25
  go_wp2_with (first | ((with_reducible refine gate_dst (N := 3) rfl ?_); refine zb (N := 3) (cs := #[.int .i64 5, .int .i64 n, .int .i64 n2]) (t := 29) ?_; intro G3 hg w3 hbox hb; have NF := zA (Fl.fresh FL.out hg); have K3 := zA hbox; have GW3 := zN HB hg; replace FL := zA (FL.out.below hb); replace HB := zS HB hb; clear hb hbox hg; obtain ⟨h0, h1, h2, _, _, _⟩ := zc3 K3; obtain ⟨s0, s1, _, _⟩ := zc2 (zA FL.out.blk)) | (go_at_call 34; (with_reducible refine (there_calls FL.out.blk hl63 (n : Int)).mono ?_); rw [HT.out]; rintro e w5 ⟨rfl, hww⟩; replace hww := hww.symm; subst hww) | (go_at_call 34; (with_reducible refine (there_calls FL.out.blk hl63 (n2 : Int)).mono ?_); rw [HU.out]; rintro e w5 ⟨rfl, hww⟩; replace hww := hww.symm; subst hww))
  obtain ⟨b2, cap2, hu2, ⟨x0, x1, x2, x3⟩, _⟩ := row_y FL.out.row HY.out
  cases hu2
  obtain ⟨b2, cap2, hu2, ⟨z0, z1, z2, z3⟩, _⟩ := row_y FL.out.row HZ.out
  cases hu2
  refine start_ (n := 32) (S := fun w' => w'.cell? ⟨g, 1, none⟩ = some (.slice (some ⟨b, 0, none⟩) m.length cap) ∧ w'.cell? ⟨G3, 1, none⟩ = some (.int .i64 n) ∧ w'.cell? ⟨G3, 2, none⟩ = some (.int .i64 n2) ∧ w'.cell? ⟨b, n * 4, none⟩ = some (.int .i64 y.f0) ∧ w'.cell? ⟨b, n * 4 + 1, none⟩ = some (.int .i64 y.f1) ∧ w'.cell? ⟨b, n * 4 + 2, none⟩ = some (.string y.f2) ∧ w'.cell? ⟨b, n * 4 + 3, none⟩ = some (.int .i64 y.f3) ∧ w'.cell? ⟨b, n2 * 4, none⟩ = some (.int .i64 z.f0) ∧ w'.cell? ⟨b, n2 * 4 + 1, none⟩ = some (.int .i64 z.f1) ∧ w'.cell? ⟨b, n2 * 4 + 2, none⟩ = some (.string z.f2) ∧ w'.cell? ⟨b, n2 * 4 + 3, none⟩ = some (.int .i64 z.f3)) (ds := [29, 31]) #[F,F,F,F,F,F,F,F,F,F,F,F,F,F,F,F,F,F,F,F,F,F,F,F,F,F,F,F,F,F,F,F] (by kernel_rfl) rfl rfl ⟨s1, h1, h2, x0, x1, x2, x3, z0, z1, z2, z3⟩ (fun hHeld => ?_)
  refine with_tabW turn.tab15 turn.bits15 (fun HT_ HW_ => ?_)
  replace FL := zA FL.out.drew
  replace K3 := zA (bD K3.1)
  replace HB := zA (bw1 HB.1)
  clear h0 h1 h2 s0 s1 x0 x1 x2 x3 z0 z1 z2 z3
  generalize w3.drew = w4 at FL K3 HB hHeld ⊢
  refine pz 0 110 #[T,F,F,F,F,F,F,F,F,F,F,F,F,F,F,F,F,F,F,F,F,F,F,F,F,F,F,F,F,F,F,F] HT_.1 ?_
  refine pz 1 111 #[T,T,F,F,F,F,F,F,F,F,F,F,F,F,F,F,F,F,F,F,F,F,F,F,F,F,F,F,F,F,F,F] HT_.1 ?_
  refine pz 2 112 #[T,T,T,F,F,F,F,F,F,F,F,F,F,F,F,F,F,F,F,F,F,F,F,F,F,F,F,F,F,F,F,F] HT_.1 ?_
  refine tz 3 113 #[T,T,T,T,F,F,F,F,F,F,F,F,F,F,F,F,F,F,F,F,F,F,F,F,F,F,F,F,F,F,F,F] HT_.1 HW_.1 hHeld ?_
  refine pz 4 114 #[T,T,T,T,T,F,F,F,F,F,F,F,F,F,F,F,F,F,F,F,F,F,F,F,F,F,F,F,F,F,F,F] HT_.1 ?_
  refine tz 5 115 #[T,T,T,T,T,T,F,F,F,F,F,F,F,F,F,F,F,F,F,F,F,F,F,F,F,F,F,F,F,F,F,F] HT_.1 HW_.1 hHeld ?_
  refine pz 6 116 #[T,T,T,T,T,T,T,F,F,F,F,F,F,F,F,F,F,F,F,F,F,F,F,F,F,F,F,F,F,F,F,F] HT_.1 ?_
  refine pz 7 117 #[T,T,T,T,T,T,T,T,F,F,F,F,F,F,F,F,F,F,F,F,F,F,F,F,F,F,F,F,F,F,F,F] HT_.1 ?_
  refine pz 8 118 #[T,T,T,T,T,T,T,T,T,F,F,F,F,F,F,F,F,F,F,F,F,F,F,F,F,F,F,F,F,F,F,F] HT_.1 ?_
  refine tz 9 119 #[T,T,T,T,T,T,T,T,T,T,F,F,F,F,F,F,F,F,F,F,F,F,F,F,F,F,F,F,F,F,F,F] HT_.1 HW_.1 hHeld ?_
  refine pz 10 120 #[T,T,T,T,T,T,T,T,T,T,T,F,F,F,F,F,F,F,F,F,F,F,F,F,F,F,F,F,F,F,F,F] HT_.1 ?_
  refine pz 12 122 #[T,T,T,T,T,T,T,T,T,T,T,F,T,F,F,F,F,F,F,F,F,F,F,F,F,F,F,F,F,F,F,F] HT_.1 ?_
  refine pz 13 123 #[T,T,T,T,T,T,T,T,T,T,T,F,T,T,F,F,F,F,F,F,F,F,F,F,F,F,F,F,F,F,F,F] HT_.1 ?_
  refine pz 14 124 #[T,T,T,T,T,T,T,T,T,T,T,F,T,T,T,F,F,F,F,F,F,F,F,F,F,F,F,F,F,F,F,F] HT_.1 ?_
  refine tz 15 125 #[T,T,T,T,T,T,T,T,T,T,T,F,T,T,T,T,F,F,F,F,F,F,F,F,F,F,F,F,F,F,F,F] HT_.1 HW_.1 hHeld ?_
  refine pz 16 126 #[T,T,T,T,T,T,T,T,T,T,T,F,T,T,T,T,T,F,F,F,F,F,F,F,F,F,F,F,F,F,F,F] HT_.1 ?_
  refine tz 17 127 #[T,T,T,T,T,T,T,T,T,T,T,F,T,T,T,T,T,T,F,F,F,F,F,F,F,F,F,F,F,F,F,F] HT_.1 HW_.1 hHeld ?_
  refine pz 18 128 #[T,T,T,T,T,T,T,T,T,T,T,F,T,T,T,T,T,T,T,F,F,F,F,F,F,F,F,F,F,F,F,F] HT_.1 ?_
  refine tz 19 129 #[T,T,T,T,T,T,T,T,T,T,T,F,T,T,T,T,T,T,T,T,F,F,F,F,F,F,F,F,F,F,F,F] HT_.1 HW_.1 hHeld ?_
  refine pz 20 130 #[T,T,T,T,T,T,T,T,T,T,T,F,T,T,T,T,T,T,T,T,T,F,F,F,F,F,F,F,F,F,F,F] HT_.1 ?_
  refine pz 21 131 #[T,T,T,T,T,T,T,T,T,T,T,F,T,T,T,T,T,T,T,T,T,T,F,F,F,F,F,F,F,F,F,F] HT_.1 ?_
  refine pz 22 132 #[T,T,T,T,T,T,T,T,T,T,T,F,T,T,T,T,T,T,T,T,T,T,T,F,F,F,F,F,F,F,F,F] HT_.1 ?_
  refine tz 23 133 #[T,T,T,T,T,T,T,T,T,T,T,F,T,T,T,T,T,T,T,T,T,T,T,T,F,F,F,F,F,F,F,F] HT_.1 HW_.1 hHeld ?_
  refine pz 24 134 #[T,T,T,T,T,T,T,T,T,T,T,F,T,T,T,T,T,T,T,T,T,T,T,T,T,F,F,F,F,F,F,F] HT_.1 ?_
  refine tz 25 135 #[T,T,T,T,T,T,T,T,T,T,T,F,T,T,T,T,T,T,T,T,T,T,T,T,T,T,F,F,F,F,F,F] HT_.1 HW_.1 hHeld ?_
  refine pz 26 136 #[T,T,T,T,T,T,T,T,T,T,T,F,T,T,T,T,T,T,T,T,T,T,T,T,T,T,T,F,F,F,F,F] HT_.1 ?_
  refine tz 27 137 #[T,T,T,T,T,T,T,T,T,T,T,F,T,T,T,T,T,T,T,T,T,T,T,T,T,T,T,T,F,F,F,F] HT_.1 HW_.1 hHeld ?_
  refine pz 28 138 #[T,T,T,T,T,T,T,T,T,T,T,F,T,T,T,T,T,T,T,T,T,T,T,T,T,T,T,T,T,F,F,F] HT_.1 ?_
  refine two_last (i := 11) (j := 29) (Ni := some 121) (Nj := none) #[T,T,T,T,T,T,T,T,T,T,T,T,T,T,T,T,T,T,T,T,T,T,T,T,T,T,T,T,T,F,F,F] #[T,T,T,T,T,T,T,T,T,T,T,F,T,T,T,T,T,T,T,T,T,T,T,T,T,T,T,T,T,T,F,F] rfl rfl rfl rfl (by rw [ready_eq, HT_.out]; kernel_rfl) (by decide) (by decide) (fun K hK => ?_) (fun K hK => ?_)
  · have c2 := hHeld.2.2.1
    refine event_step (v := .int .i64 n2) (w1 := w4) rfl (by first | (go_simp; done) | (go_simp; with_reducible rfl)) ?_
    refine hK.out _ _ hHeld (fun hHeld => ?_)
    clear hK K c2
    refine nz 121 ?_
    refine last_ (i := 29) (N := none) #[T,T,T,T,T,T,T,T,T,T,T,T,T,T,T,T,T,T,T,T,T,T,T,T,T,T,T,T,T,T,F,F] rfl rfl (one_of HT_.out (by kernel_rfl)) (by decide) (fun K hK => ?_)
    obtain ⟨b2, cap2, hu2, ⟨x0, x1, x2, x3⟩, hfz⟩ := row_y FL.out.row HY.out
    cases hu2
    have f0 := hfz (n * 4)
    have f1 := hfz (n * 4 + 1)
    have f2 := hfz (n * 4 + 2)
    have f3 := hfz (n * 4 + 3)
    clear hfz
    refine sz ?_
    refine hK.out _ _ ?_
    clear hK K x0 x1 x2 x3 f0 f1 f2 f3
    have AF := zA ((After.of_below HB.out g (.slice (some ⟨b, 0, none⟩) m.length cap)).own4 (i := n * 4) (j := n * 4 + 1) (k := n * 4 + 2) (l := n * 4 + 3) rfl (.int .i64 z.f0) (.int .i64 z.f1) (.string z.f2) (.int .i64 z.f3))
    replace FL := zA (FL.out.setR4 (lt_y HY.out) rfl z)
    have hne : G3 ≠ b := fun e => NF.out.2 (congrArg some e)
    have K8 := zA (blk_far (p := ⟨b, n * 4 + 3, none⟩) (blk_far (p := ⟨b, n * 4 + 2, none⟩) (blk_far (p := ⟨b, n * 4 + 1, none⟩) (blk_far (p := ⟨b, n * 4, none⟩) K3.out hne (.int .i64 z.f0)) hne (.int .i64 z.f1)) hne (.string z.f2)) hne (.int .i64 z.f3))
    clear hne
    generalize ((((w4.setCell ⟨b, n * 4, none⟩ (.int .i64 z.f0)).setCell ⟨b, n * 4 + 1, none⟩ (.int .i64 z.f1)).setCell ⟨b, n * 4 + 2, none⟩ (.string z.f2)).setCell ⟨b, n * 4 + 3, none⟩ (.int .i64 z.f3)) = w8 at FL AF K8 ⊢
    refine pz 30 139 #[T,T,T,T,T,T,T,T,T,T,T,T,T,T,T,T,T,T,T,T,T,T,T,T,T,T,T,T,T,T,T,F] HT_.1 ?_
    refine last_ (i := 31) (N := none) #[T,T,T,T,T,T,T,T,T,T,T,T,T,T,T,T,T,T,T,T,T,T,T,T,T,T,T,T,T,T,T,T] rfl rfl (one_of HT_.out (by kernel_rfl)) (by decide) (fun K hK => ?_)
    obtain ⟨b2, cap2, hu2, ⟨x0, x1, x2, x3⟩, hfz⟩ := row_at FL.out.row (n := n2) (by rw [List.length_set]; exact lt_y HZ.out)
    rw [List.length_set] at hu2
    cases hu2
    have f0 := hfz (n2 * 4)
    have f1 := hfz (n2 * 4 + 1)
    have f2 := hfz (n2 * 4 + 2)
    have f3 := hfz (n2 * 4 + 3)
    clear hfz
    refine sz ?_
    refine hK.out _ _ ?_
    clear hK K
    refine done_ (done_of HT_.out (by kernel_rfl)) ?_
    go_wp2
    go_ret
    exact ⟨rfl, FL.out.setR4 (by rw [List.length_set]; exact lt_y HZ.out) rfl y, AF.out.own4 rfl _ _ _ _⟩
  · have c2 := hHeld.2.2.1
    obtain ⟨b2, cap2, hu2, ⟨x0, x1, x2, x3⟩, hfz⟩ := row_y FL.out.row HY.out
    cases hu2
    have f0 := hfz (n * 4)
    have f1 := hfz (n * 4 + 1)
    have f2 := hfz (n * 4 + 2)
    have f3 := hfz (n * 4 + 3)
    clear hfz
    refine sz ?_
    refine hK.out _ _ ?_
    clear hK K x0 x1 x2 x3 f0 f1 f2 f3
    have AF := zA ((After.of_below HB.out g (.slice (some ⟨b, 0, none⟩) m.length cap)).own4 (i := n * 4) (j := n * 4 + 1) (k := n * 4 + 2) (l := n * 4 + 3) rfl (.int .i64 z.f0) (.int .i64 z.f1) (.string z.f2) (.int .i64 z.f3))
    replace FL := zA (FL.out.setR4 (lt_y HY.out) rfl z)
    have hne : G3 ≠ b := fun e => NF.out.2 (congrArg some e)
    have K8 := zA (blk_far (p := ⟨b, n * 4 + 3, none⟩) (blk_far (p := ⟨b, n * 4 + 2, none⟩) (blk_far (p := ⟨b, n * 4 + 1, none⟩) (blk_far (p := ⟨b, n * 4, none⟩) K3.out hne (.int .i64 z.f0)) hne (.int .i64 z.f1)) hne (.string z.f2)) hne (.int .i64 z.f3))
    clear hne
    generalize ((((w4.setCell ⟨b, n * 4, none⟩ (.int .i64 z.f0)).setCell ⟨b, n * 4 + 1, none⟩ (.int .i64 z.f1)).setCell ⟨b, n * 4 + 2, none⟩ (.string z.f2)).setCell ⟨b, n * 4 + 3, none⟩ (.int .i64 z.f3)) = w8 at FL AF K8 ⊢
    have c3 : w8.cell? ⟨G3, 2, none⟩ = some (.int .i64 n2) := (bC K8.out 2).trans rfl
    refine one_keep (i := 11) (N := some 121) #[T,T,T,T,T,T,T,T,T,T,T,T,T,T,T,T,T,T,T,T,T,T,T,T,T,T,T,T,T,T,F,F] rfl rfl (one_of HT_.out (by kernel_rfl)) (fun K hK => ?_)
    refine event_step (v := .int .i64 n2) (w1 := w8) rfl (by first | (go_simp; done) | (go_simp; with_reducible rfl)) ?_
    refine hK.out _ _ id ?_
    clear hK K c2 c3
    refine nz 121 ?_
    refine pz 30 139 #[T,T,T,T,T,T,T,T,T,T,T,T,T,T,T,T,T,T,T,T,T,T,T,T,T,T,T,T,T,T,T,F] HT_.1 ?_
    refine last_ (i := 31) (N := none) #[T,T,T,T,T,T,T,T,T,T,T,T,T,T,T,T,T,T,T,T,T,T,T,T,T,T,T,T,T,T,T,T] rfl rfl (one_of HT_.out (by kernel_rfl)) (by decide) (fun K hK => ?_)
    obtain ⟨b2, cap2, hu2, ⟨x0, x1, x2, x3⟩, hfz⟩ := row_at FL.out.row (n := n2) (by rw [List.length_set]; exact lt_y HZ.out)
    rw [List.length_set] at hu2
    cases hu2
    have f0 := hfz (n2 * 4)
    have f1 := hfz (n2 * 4 + 1)
    have f2 := hfz (n2 * 4 + 2)
    have f3 := hfz (n2 * 4 + 3)
    clear hfz
    refine sz ?_
    refine hK.out _ _ ?_
    clear hK K
    refine done_ (done_of HT_.out (by kernel_rfl)) ?_
    go_wp2
    go_ret
    exact ⟨rfl, FL.out.setR4 (by rw [List.length_set]; exact lt_y HZ.out) rfl y, AF.out.own4 rfl _ _ _ _⟩
def turn.T20 : Bool × List (List Nat × List Nat) := (true, [([], []), ([0], [0]), ([1], [1]), ([2], [2]), ([], []), ([], []), ([5], [5]), ([6], [6]), ([7], [7]), ([], []), ([8, 9], [8, 9]), ([10], [10]), ([11], [11]), ([12], [12]), ([13], [13]), ([3, 4, 0, 1, 2, 3, 4, 5, 6, 7, 8, 9, 10, 11, 12, 13, 14], [3, 4]), ([15, 0, 1, 2, 3, 4, 5, 6, 7, 8, 9, 10, 11, 12, 13, 14], [15]), ([16, 14, 0, 1, 2, 3, 4, 5, 6, 7, 8, 9, 10, 11, 12, 13, 14], [14, 16])])
def turn.B20 : List Nat := [0, 1, 3, 7, 0, 0, 32, 96, 224, 0, 992, 2016, 4064, 8160, 16352, 32767, 65535, 131071]
theorem turn.tab20 : rtab .any (opsOf Try.f25 20) = turn.T20 := by kernel_rfl
theorem turn.bits20 : waitsOk turn.T20.2 turn.B20 = true := by kernel_rfl
theorem After.drew {W : World} {u' : Value} (h : After w W g u u') : After w W.drew g u u' := ⟨⟨h.1.os, h.1.tape, h.1.output, h.1.size, h.1.block⟩, h.2⟩
theorem turn_tick {i k : Int} (hF : Fl w base P g u m) : Calls Try.prog 25 #[.pointer (some ⟨g, 0, none⟩), .agg #[.int .i64 6, .int .i64 i, .int .i64 k]] w fun e w' => e = .returned (.int .i64 0) ∧ Fl w' base P g u (m.map tk) ∧ After w w' g u u := by
  obtain ⟨A, c, rfl, hc, hC⟩ := Kd.R_reads hF.row
  have hl63 := hC.2.1
  have HB := zA (Below.refl w.heap.size w)
  have FL := zA hF
  go_enter Try.func25, Try.ntmps25
  go_wp2_with (first | ((with_reducible refine gate_dst (N := 3) rfl ?_); refine zb (N := 3) (cs := #[.int .i64 6, .int .i64 i, .int .i64 k]) (t := 29) ?_; intro G3 hg w3 hbox hb; have NF := zA (Fl.fresh FL.out hg); have K3 := zA hbox; have GW3 := zN HB hg; replace FL := zA (FL.out.below hb); replace HB := zS HB hb; clear hb hbox hg; obtain ⟨h0, h1, h2, _, _, _⟩ := zc3 K3; obtain ⟨s0, s1, _, _⟩ := zc2 (zA FL.out.blk)) | fail)
  go_loopg [147] (m.length + 1) (fun kq v147 w' => ∃ n : Nat, v147 = .int .i64 n ∧ Aside0 (n ≤ m.length) ∧ Aside0 (kq + n = m.length + 1) ∧ Aside0 (Fl w' base P g (.slice A m.length c) (tickM m n)) ∧ Aside0 (After w w' g (.slice A m.length c) (.slice A m.length c)))
  case atStart => exact ⟨0, rfl, ⟨Nat.zero_le _⟩, ⟨by omega⟩, ⟨by rw [tickM_zero]; exact FL.out⟩, ⟨After.of_below HB.out g _⟩⟩
  case round =>
    clear HB FL h0 h1 h2 s0 s1
    obtain ⟨n, rfl, HN, HQ, FL, AF⟩ := hrel
    cases gk with
    | zero => exact absurd HQ.out (by have := HN.out; omega)
    | succ k1 =>
      obtain ⟨s0, s1, _, _⟩ := zc2 (zA FL.out.blk)
      by_cases c6 : n < m.length
      · have t1 : decide ((n : Int) < (m.length : Int)) = true := decide_eq_true (by omega)
        have q0 : (0 ≤ (n : Int)) = True := eq_true (by omega)
        have q1 : ((n : Int) < (m.length : Int)) = True := eq_true (by omega)
        obtain ⟨y, hy⟩ : ∃ y, m[n]? = some y := ⟨_, List.getElem?_eq_getElem c6⟩
        have HY := zA hy
        clear hy
        obtain ⟨b, cap, hu, ⟨x0, x1, x2, x3⟩, _⟩ := row_y FL.out.row (tickM_get HY.out)
        rw [tickM_len] at hu
        cases hu
        by_cases hmx : wrap64 (y.f3 - 1) ≤ 0
        · have hv : (if wrap64 (y.f3 - 1) ≤ 0 then 0 else wrap64 (y.f3 - 1)) = 0 := if_pos hmx
          have HV := zA hv
          clear hv
          go_wp2
          refine start_ (n := 18) (S := fun w' => w'.cell? ⟨g, 1, none⟩ = some (.slice (some ⟨b, 0, none⟩) m.length c) ∧ w'.cell? ⟨b, n * 4 + 3, none⟩ = some (.int .i64 y.f3)) (ds := [17]) #[F,F,F,F,F,F,F,F,F,F,F,F,F,F,F,F,F,F] (by kernel_rfl) rfl rfl ⟨s1, x3⟩ (fun hHeld => ?_)
          refine with_tabW turn.tab20 turn.bits20 (fun HT_ HW_ => ?_)
          replace FL := zA FL.out.drew
          replace AF := zA AF.out.drew
          clear s0 s1 x0 x1 x2 x3
          generalize wr.drew = w4 at FL AF hHeld ⊢
          refine pz 0 150 #[T,F,F,F,F,F,F,F,F,F,F,F,F,F,F,F,F,F] HT_.1 ?_
          refine pz 1 151 #[T,T,F,F,F,F,F,F,F,F,F,F,F,F,F,F,F,F] HT_.1 ?_
          refine pz 2 152 #[T,T,T,F,F,F,F,F,F,F,F,F,F,F,F,F,F,F] HT_.1 ?_
          refine tz 3 153 #[T,T,T,T,F,F,F,F,F,F,F,F,F,F,F,F,F,F] HT_.1 HW_.1 hHeld ?_
          refine pz 4 154 #[T,T,T,T,T,F,F,F,F,F,F,F,F,F,F,F,F,F] HT_.1 ?_
          refine pz 5 155 #[T,T,T,T,T,T,F,F,F,F,F,F,F,F,F,F,F,F] HT_.1 ?_
          refine pz 6 156 #[T,T,T,T,T,T,T,F,F,F,F,F,F,F,F,F,F,F] HT_.1 ?_
          refine pz 7 157 #[T,T,T,T,T,T,T,T,F,F,F,F,F,F,F,F,F,F] HT_.1 ?_
          refine tz 8 158 #[T,T,T,T,T,T,T,T,T,F,F,F,F,F,F,F,F,F] HT_.1 HW_.1 hHeld ?_
          refine pz 9 159 #[T,T,T,T,T,T,T,T,T,T,F,F,F,F,F,F,F,F] HT_.1 ?_
          refine pz 10 160 #[T,T,T,T,T,T,T,T,T,T,T,F,F,F,F,F,F,F] HT_.1 ?_
          refine pz 11 161 #[T,T,T,T,T,T,T,T,T,T,T,T,F,F,F,F,F,F] HT_.1 ?_
          refine tz 12 162 #[T,T,T,T,T,T,T,T,T,T,T,T,T,F,F,F,F,F] HT_.1 HW_.1 hHeld ?_
          refine pz 13 163 #[T,T,T,T,T,T,T,T,T,T,T,T,T,T,F,F,F,F] HT_.1 ?_
          refine pz 14 164 #[T,T,T,T,T,T,T,T,T,T,T,T,T,T,T,F,F,F] HT_.1 ?_
          refine pz 15 165 #[T,T,T,T,T,T,T,T,T,T,T,T,T,T,T,T,F,F] HT_.1 ?_
          refine pz 16 166 #[T,T,T,T,T,T,T,T,T,T,T,T,T,T,T,T,T,F] HT_.1 ?_
          refine last_ (i := 17) (N := none) #[T,T,T,T,T,T,T,T,T,T,T,T,T,T,T,T,T,T] rfl rfl (one_of HT_.out (by kernel_rfl)) (by decide) (fun K hK => ?_)
          obtain ⟨b2, cap2, hu2, ⟨x0, x1, x2, x3⟩, hfz⟩ := row_y FL.out.row (tickM_get HY.out)
          rw [tickM_len] at hu2
          cases hu2
          have f3 := hfz (n * 4 + 3)
          clear hfz
          refine sz ?_
          refine hK.out _ _ ?_
          clear hK K x0 x1 x2 x3 f3
          refine done_ (done_of HT_.out (by kernel_rfl)) ?_
          go_wp2
          go_roundg k1
          case measure => omega
          case rel =>
            have e := FL.out.set3y (tickM_get HY.out) rfl 0
            rw [show waitS y 0 = tk y by unfold tk; rw [HV.out], tickM_succ HY.out] at e
            exact ⟨n + 1, by rw [Int.natCast_add]; rfl, ⟨c6⟩, ⟨by have := HQ.out; omega⟩, ⟨e⟩, ⟨AF.out.own rfl _⟩⟩
        · have hv : (if wrap64 (y.f3 - 1) ≤ 0 then 0 else wrap64 (y.f3 - 1)) = wrap64 (y.f3 - 1) := if_neg hmx
          have HV := zA hv
          clear hv
          go_wp2
          refine start_ (n := 18) (S := fun w' => w'.cell? ⟨g, 1, none⟩ = some (.slice (some ⟨b, 0, none⟩) m.length c) ∧ w'.cell? ⟨b, n * 4 + 3, none⟩ = some (.int .i64 y.f3)) (ds := [17]) #[F,F,F,F,F,F,F,F,F,F,F,F,F,F,F,F,F,F] (by kernel_rfl) rfl rfl ⟨s1, x3⟩ (fun hHeld => ?_)
          refine with_tabW turn.tab20 turn.bits20 (fun HT_ HW_ => ?_)
          replace FL := zA FL.out.drew
          replace AF := zA AF.out.drew
          clear s0 s1 x0 x1 x2 x3
          generalize wr.drew = w4 at FL AF hHeld ⊢
          refine pz 0 150 #[T,F,F,F,F,F,F,F,F,F,F,F,F,F,F,F,F,F] HT_.1 ?_
          refine pz 1 151 #[T,T,F,F,F,F,F,F,F,F,F,F,F,F,F,F,F,F] HT_.1 ?_
          refine pz 2 152 #[T,T,T,F,F,F,F,F,F,F,F,F,F,F,F,F,F,F] HT_.1 ?_
          refine tz 3 153 #[T,T,T,T,F,F,F,F,F,F,F,F,F,F,F,F,F,F] HT_.1 HW_.1 hHeld ?_
          refine pz 4 154 #[T,T,T,T,T,F,F,F,F,F,F,F,F,F,F,F,F,F] HT_.1 ?_
          refine pz 5 155 #[T,T,T,T,T,T,F,F,F,F,F,F,F,F,F,F,F,F] HT_.1 ?_
          refine pz 6 156 #[T,T,T,T,T,T,T,F,F,F,F,F,F,F,F,F,F,F] HT_.1 ?_
          refine pz 7 157 #[T,T,T,T,T,T,T,T,F,F,F,F,F,F,F,F,F,F] HT_.1 ?_
          refine tz 8 158 #[T,T,T,T,T,T,T,T,T,F,F,F,F,F,F,F,F,F] HT_.1 HW_.1 hHeld ?_
          refine pz 9 159 #[T,T,T,T,T,T,T,T,T,T,F,F,F,F,F,F,F,F] HT_.1 ?_
          refine pz 10 160 #[T,T,T,T,T,T,T,T,T,T,T,F,F,F,F,F,F,F] HT_.1 ?_
          refine pz 11 161 #[T,T,T,T,T,T,T,T,T,T,T,T,F,F,F,F,F,F] HT_.1 ?_
          refine tz 12 162 #[T,T,T,T,T,T,T,T,T,T,T,T,T,F,F,F,F,F] HT_.1 HW_.1 hHeld ?_
          refine pz 13 163 #[T,T,T,T,T,T,T,T,T,T,T,T,T,T,F,F,F,F] HT_.1 ?_
          refine pz 14 164 #[T,T,T,T,T,T,T,T,T,T,T,T,T,T,T,F,F,F] HT_.1 ?_
          refine pz 15 165 #[T,T,T,T,T,T,T,T,T,T,T,T,T,T,T,T,F,F] HT_.1 ?_
          refine pz 16 166 #[T,T,T,T,T,T,T,T,T,T,T,T,T,T,T,T,T,F] HT_.1 ?_
          refine last_ (i := 17) (N := none) #[T,T,T,T,T,T,T,T,T,T,T,T,T,T,T,T,T,T] rfl rfl (one_of HT_.out (by kernel_rfl)) (by decide) (fun K hK => ?_)
          obtain ⟨b2, cap2, hu2, ⟨x0, x1, x2, x3⟩, hfz⟩ := row_y FL.out.row (tickM_get HY.out)
          rw [tickM_len] at hu2
          cases hu2
          have f3 := hfz (n * 4 + 3)
          clear hfz
          refine sz ?_
          refine hK.out _ _ ?_
          clear hK K x0 x1 x2 x3 f3
          refine done_ (done_of HT_.out (by kernel_rfl)) ?_
          go_wp2
          go_roundg k1
          case measure => omega
          case rel =>
            have e := FL.out.set3y (tickM_get HY.out) rfl (wrap64 (y.f3 - 1))
            rw [show waitS y (wrap64 (y.f3 - 1)) = tk y by unfold tk; rw [HV.out], tickM_succ HY.out] at e
            exact ⟨n + 1, by rw [Int.natCast_add]; rfl, ⟨c6⟩, ⟨by have := HQ.out; omega⟩, ⟨e⟩, ⟨AF.out.own rfl _⟩⟩
      · have t1 : decide ((n : Int) < (m.length : Int)) = false := decide_eq_false (by omega)
        have t2 : decide (n < m.length) = false := decide_eq_false c6
        have hnn : n = m.length := by have := HN.out; omega
        have HNN := zA hnn
        clear c6 hnn
        go_wp2
        go_ret
        have e := FL.out
        rw [HNN.out, tickM_all] at e
        exact ⟨rfl, e, AF.out⟩
end
end Go.Proofs.Ytpcipmhblknokaa.Ch
