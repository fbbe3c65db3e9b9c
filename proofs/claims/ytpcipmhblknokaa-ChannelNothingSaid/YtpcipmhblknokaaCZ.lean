import Derived.Test.YtpcipmhblknokaaCX
/- What Do of the document does, by hand (part four): Swap; all in one. -/
namespace Go.Proofs.Ytpcipmhblknokaa.Ch
open Go.RowKit Go.Proofs.Ytpcipmhblknokaa.XC Go.Proofs.YtpcipmhblknokaaW.PrintWords Go.Proofs.YtpcipmhblknokaaW.PrintLast Go.Proofs.YtpcipmhblknokaaW.PrintMore
attribute [local go_sem] max2_int min2_int max_two min_two max_three min_three max_four min_four   -- for this text's walks alone
set_option linter.unusedVariables false
set_option linter.unusedSimpArgs false
open List renaming setIfInBounds_toArray → xA, set_cons_zero → xB, set_cons_succ → xC
open Go.Proofs.YtpcipmhblknokaaW.PrintWords renaming blk_drewN → bN, blk_drew → bD, blk_alloc → bA, below_set → bS, blk_frozen → bF, blk_cell → bC, cell_far → cF, blk_far → bZ, blk_below → bB, pw_below_drewN → bwN, below_drew1 → bw1, below_alloc → bwA
open Go.Proofs.YtpcipmhblknokaaW.PrintZ
open Bool renaming true → T,false → F


set_option maxRecDepth 100000
set_option maxHeartbeats 8000000
section
variable {w0 w : World} {v : Value} {m : List S27}
theorem R_set4y {w : World} {base n b : Nat} {P : Nat → Prop} {u : Value} {m : List S27} (h : Kd.R k27 27 w base P u m) (hn : n < m.length) (hb : u.ownBlock = some b) (x : S27) : Kd.R k27 27 ((((w.setCell ⟨b, n * 4, none⟩ (.int .i64 x.f0)).setCell ⟨b, n * 4 + 1, none⟩ (.int .i64 x.f1)).setCell ⟨b, n * 4 + 2, none⟩ (.string x.f2)).setCell ⟨b, n * 4 + 3, none⟩ (.int .i64 x.f3)) base P u (m.set n x) := R_set4 h hn hb x
theorem blk_far4 {W : World} {g b i j k l : Nat} {cs : Array Value} {t : TypeId} (h : W.heap[g]? = some (.cells cs t (0, 0))) (hne : g ≠ b) (x y z v : Value) : ((((W.setCell ⟨b, i, none⟩ x).setCell ⟨b, j, none⟩ y).setCell ⟨b, k, none⟩ z).setCell ⟨b, l, none⟩ v).heap[g]? = some (.cells cs t (0, 0)) := blk_far (blk_far (blk_far (blk_far h hne x) hne y) hne z) hne v
theorem rdo5_none2 {k : Int} {n : Nat} {y : S27} (hy : m[n]? = some y) (hk : inB m k = false) (hB : Below w0.heap.size w0 w) (hR : Kd.R k27 27 w w0.heap.size (fun _ => True) v m) (hG : Good m) : Calls Try.prog 28 #[v, .agg #[.int .i64 5, .int .i64 n, .int .i64 k]] w fun e w' => ∃ v', e = .returned (.tuple #[v', gV z27, .int .i64 4]) ∧ Got w0 w w' v v' m := by
  obtain ⟨b, c, rfl, _, _⟩ := row_y hR hy
  obtain ⟨_, _, hv_, hc, hC⟩ := Kd.R_reads hR
  cases hv_
  have hl := hG.len
  have hl63 := hC.2.1
  have HB := zA (Below.refl w.heap.size w)
  have HR := zA hR
  have HB0 := zA hB
  have HG := zA hG
  have hu27 := Try.underlying27
  have hu29 := Try.underlying29
  clear hR hB hG
  have hn := lt_y hy
  have q0 : (0 ≤ (n : Int)) = True := eq_true (by omega)
  have q1 : ((n : Int) < (m.length : Int)) = True := eq_true (by omega)
  have r0 : decide (0 ≤ (n : Int)) = true := decide_eq_true (by omega)
  have r1 : decide ((n : Int) < (m.length : Int)) = true := decide_eq_true (by omega)
  have HY := zA hy
  clear hy hn
  unfold inB at hk
  by_cases hk0 : k < 0
  · have b0 : decide (k < 0) = true := decide_eq_true hk0
    clear hk hk0
    go_enter Try.func28, Try.ntmps28
    go_wp2_with (first | ((with_reducible refine gate_dst (N := 3) rfl ?_); refine zb (N := 3) (cs := #[.int .i64 5, .int .i64 n, .int .i64 k]) (t := 29) ?_; intro G3 hg w3 hbox hb; have K3 := zA hbox; have GW3 := zN HB hg; replace HB := zS HB hb; clear hb hbox hg; obtain ⟨h0, h1, h2, _, _, _⟩ := zc3 K3) | ((with_reducible refine gate_dst (N := 5) rfl ?_); refine zb (N := 5) (cs := #[.int .i64 0, .int .i64 0, .string ⟨#[]⟩, .int .i64 0]) (t := 27) ?_; intro G5 hg w5 hbox hb; have K5 := zA hbox; have GW5 := zN HB hg; replace K3 := zB K3 hb; replace HB := zS HB hb; clear hb hbox hg; obtain ⟨h0, h1, h2, _, _, _⟩ := zc3 K3; obtain ⟨_, _, _, _, _, _, _, _⟩ := zc4 K5) | ((with_reducible refine gate_callee (f := 16) rfl ?_); refine zg (some 20) Try.func16 #[.slice (some ⟨b, 0, none⟩) m.length c] ?_; (with_reducible refine (copy_calls (Kd.C_below hC HB.out) hc (by omega)).mono ?_); rintro e w6 ⟨vo, rfl, ho, hb⟩; refine ⟨_, rfl, ?_⟩; have HO := zA ho; have GO := zA (fresh_ne ho K5.out); replace K3 := zB K3 hb; replace K5 := zB K5 hb; replace HB := zS HB hb; clear hb ho; obtain ⟨A2, c2, rfl⟩ := Kd.R_slice HO.out; obtain ⟨h0, h1, h2, _, _, _⟩ := zc3 K3; obtain ⟨_, _, _, _, _, _, _, _⟩ := zc4 K5; obtain ⟨b2, cap2, hu2, ⟨x0, x1, x2, x3⟩, _⟩ := row_y (Kd.R_below HR.out HB.out) HY.out; cases hu2))
    refine bodyPost_ret (results_list (rs := [.tmp 4, .cell 5 27, .tmp 6]) rfl (by simp) (.tmp (.cell G5 27 #[.int .i64 0, .int .i64 0, .string ⟨#[]⟩, .int .i64 0] (0, 0) _ rfl (zF K5) Try.underlying27 rfl (by kernel_rfl) (.tmp .nil)))) rfl ?_
    exact ⟨_, rfl, (Got.same HB0.out HR.out HB.out).st4 HB0.out.size GW5.out (own_ne_of HR.out GW5.out) (.int .i64 0) (.int .i64 0) (.string ⟨#[]⟩) (.int .i64 0)⟩
  · have b0 : decide (k < 0) = false := decide_eq_false hk0
    have hk2 : (m.length : Int) ≤ k := by
      rw [decide_eq_true (show 0 ≤ k by omega), Bool.true_and] at hk
      simpa using hk
    have b1 : decide ((m.length : Int) ≤ k) = true := decide_eq_true hk2
    clear hk hk0 hk2
    go_enter Try.func28, Try.ntmps28
    go_wp2_with (first | ((with_reducible refine gate_dst (N := 3) rfl ?_); refine zb (N := 3) (cs := #[.int .i64 5, .int .i64 n, .int .i64 k]) (t := 29) ?_; intro G3 hg w3 hbox hb; have K3 := zA hbox; have GW3 := zN HB hg; replace HB := zS HB hb; clear hb hbox hg; obtain ⟨h0, h1, h2, _, _, _⟩ := zc3 K3) | ((with_reducible refine gate_dst (N := 5) rfl ?_); refine zb (N := 5) (cs := #[.int .i64 0, .int .i64 0, .string ⟨#[]⟩, .int .i64 0]) (t := 27) ?_; intro G5 hg w5 hbox hb; have K5 := zA hbox; have GW5 := zN HB hg; replace K3 := zB K3 hb; replace HB := zS HB hb; clear hb hbox hg; obtain ⟨h0, h1, h2, _, _, _⟩ := zc3 K3; obtain ⟨_, _, _, _, _, _, _, _⟩ := zc4 K5) | ((with_reducible refine gate_callee (f := 16) rfl ?_); refine zg (some 20) Try.func16 #[.slice (some ⟨b, 0, none⟩) m.length c] ?_; (with_reducible refine (copy_calls (Kd.C_below hC HB.out) hc (by omega)).mono ?_); rintro e w6 ⟨vo, rfl, ho, hb⟩; refine ⟨_, rfl, ?_⟩; have HO := zA ho; have GO := zA (fresh_ne ho K5.out); replace K3 := zB K3 hb; replace K5 := zB K5 hb; replace HB := zS HB hb; clear hb ho; obtain ⟨A2, c2, rfl⟩ := Kd.R_slice HO.out; obtain ⟨h0, h1, h2, _, _, _⟩ := zc3 K3; obtain ⟨_, _, _, _, _, _, _, _⟩ := zc4 K5; obtain ⟨b2, cap2, hu2, ⟨x0, x1, x2, x3⟩, _⟩ := row_y (Kd.R_below HR.out HB.out) HY.out; cases hu2))
    refine bodyPost_ret (results_list (rs := [.tmp 4, .cell 5 27, .tmp 6]) rfl (by simp) (.tmp (.cell G5 27 #[.int .i64 0, .int .i64 0, .string ⟨#[]⟩, .int .i64 0] (0, 0) _ rfl (zF K5) Try.underlying27 rfl (by kernel_rfl) (.tmp .nil)))) rfl ?_
    exact ⟨_, rfl, (Got.same HB0.out HR.out HB.out).st4 HB0.out.size GW5.out (own_ne_of HR.out GW5.out) (.int .i64 0) (.int .i64 0) (.string ⟨#[]⟩) (.int .i64 0)⟩
theorem rdo_swap {n n2 : Nat} {y z : S27} (hy : m[n]? = some y) (hz : m[n2]? = some z) (hB : Below w0.heap.size w0 w) (hR : Kd.R k27 27 w w0.heap.size (fun _ => True) v m) (hG : Good m) : Calls Try.prog 28 #[v, .agg #[.int .i64 5, .int .i64 n, .int .i64 n2]] w fun e w' => ∃ v', e = .returned (.tuple #[v', gV z27, .int .i64 0]) ∧ Got w0 w w' v v' ((m.set n z).set n2 y) := by
  obtain ⟨b, c, rfl, _, _⟩ := row_y hR hy
  obtain ⟨_, _, hv_, hc, hC⟩ := Kd.R_reads hR
  cases hv_
  have hl := hG.len
  have hl63 := hC.2.1
  have HB := zA (Below.refl w.heap.size w)
  have HR := zA hR
  have HB0 := zA hB
  have HG := zA hG
  have hu27 := Try.underlying27
  have hu29 := Try.underlying29
  clear hR hB hG
  have hn := lt_y hy
  have q0 : (0 ≤ (n : Int)) = True := eq_true (by omega)
  have q1 : ((n : Int) < (m.length : Int)) = True := eq_true (by omega)
  have r0 : decide (0 ≤ (n : Int)) = true := decide_eq_true (by omega)
  have r1 : decide ((n : Int) < (m.length : Int)) = true := decide_eq_true (by omega)
  have HY := zA hy
  clear hy hn
  have hn2 := lt_y hz
  have q2 : (0 ≤ (n2 : Int)) = True := eq_true (by omega)
  have q3 : ((n2 : Int) < (m.length : Int)) = True := eq_true (by omega)
  have b0 : decide ((n2 : Int) < 0) = false := decide_eq_false (by omega)
  have b1 : decide ((m.length : Int) ≤ (n2 : Int)) = false := decide_eq_false (by omega)
  have b2 : decide (m.length ≤ n2) = false := decide_eq_false (by omega)
  have HZ := zA hz
  clear hz hn2
  go_enter Try.func28, Try.ntmps28
  go_wp2_with (first | ((with_reducible refine gate_dst (N := 3) rfl ?_); refine zb (N := 3) (cs := #[.int .i64 5, .int .i64 n, .int .i64 n2]) (t := 29) ?_; intro G3 hg w3 hbox hb; have K3 := zA hbox; have GW3 := zN HB hg; replace HB := zS HB hb; clear hb hbox hg; obtain ⟨h0, h1, h2, _, _, _⟩ := zc3 K3) | ((with_reducible refine gate_dst (N := 5) rfl ?_); refine zb (N := 5) (cs := #[.int .i64 0, .int .i64 0, .string ⟨#[]⟩, .int .i64 0]) (t := 27) ?_; intro G5 hg w5 hbox hb; have K5 := zA hbox; have GW5 := zN HB hg; replace K3 := zB K3 hb; replace HB := zS HB hb; clear hb hbox hg; obtain ⟨h0, h1, h2, _, _, _⟩ := zc3 K3; obtain ⟨_, _, _, _, _, _, _, _⟩ := zc4 K5) | ((with_reducible refine gate_callee (f := 16) rfl ?_); refine zg (some 20) Try.func16 #[.slice (some ⟨b, 0, none⟩) m.length c] ?_; (with_reducible refine (copy_calls (Kd.C_below hC HB.out) hc (by omega)).mono ?_); rintro e w6 ⟨vo, rfl, ho, hb⟩; refine ⟨_, rfl, ?_⟩; have HO := zA (Kd.R_lower ho HB.out.size); have GO := zA (fresh_ne ho K5.out); have GO3 := zA (fresh_ne ho K3.out); replace K3 := zB K3 hb; replace K5 := zB K5 hb; replace HB := zS HB hb; clear hb ho; obtain ⟨bo, co, hvo, _, _⟩ := row_y HO.out HY.out; subst hvo; obtain ⟨h0, h1, h2, _, _, _⟩ := zc3 K3; obtain ⟨_, _, _, _, _, _, _, _⟩ := zc4 K5; obtain ⟨b2, cap2, hu2, ⟨x0, x1, x2, x3⟩, _⟩ := row_y (Kd.R_below HR.out HB.out) HY.out; cases hu2; obtain ⟨b2, cap2, hu2, ⟨z0, z1, z2, z3⟩, _⟩ := row_y (Kd.R_below HR.out HB.out) HZ.out; cases hu2))
  refine start_ (n := 20) (S := fun w' => w'.cell? ⟨G3, 1, none⟩ = some (.int .i64 n) ∧ w'.cell? ⟨G3, 2, none⟩ = some (.int .i64 n2) ∧ w'.cell? ⟨b, n * 4, none⟩ = some (.int .i64 y.f0) ∧ w'.cell? ⟨b, n * 4 + 1, none⟩ = some (.int .i64 y.f1) ∧ w'.cell? ⟨b, n * 4 + 2, none⟩ = some (.string y.f2) ∧ w'.cell? ⟨b, n * 4 + 3, none⟩ = some (.int .i64 y.f3) ∧ w'.cell? ⟨b, n2 * 4, none⟩ = some (.int .i64 z.f0) ∧ w'.cell? ⟨b, n2 * 4 + 1, none⟩ = some (.int .i64 z.f1) ∧ w'.cell? ⟨b, n2 * 4 + 2, none⟩ = some (.string z.f2) ∧ w'.cell? ⟨b, n2 * 4 + 3, none⟩ = some (.int .i64 z.f3)) (ds := [17, 19]) #[F,F,F,F,F,F,F,F,F,F,F,F,F,F,F,F,F,F,F,F] (by kernel_rfl) rfl rfl ⟨h1, h2, x0, x1, x2, x3, z0, z1, z2, z3⟩ (fun hHeld => ?_)
  refine with_tabW rdo.tab33 rdo.bits33 (fun HT_ HW_ => ?_)
  replace HO := zA (Kd.R_drew HO.out)
  replace K3 := zA (bD K3.1)
  replace K5 := zA (bD K5.1)
  replace HB := zA (bw1 HB.1)
  clear h0 h1 h2 x0 x1 x2 x3 z0 z1 z2 z3
  generalize w6.drew = w8 at HO K3 K5 HB hHeld ⊢
  refine pz 0 148 #[T,F,F,F,F,F,F,F,F,F,F,F,F,F,F,F,F,F,F,F] HT_.1 ?_
  refine pz 1 149 #[T,T,F,F,F,F,F,F,F,F,F,F,F,F,F,F,F,F,F,F] HT_.1 ?_
  refine tz 2 150 #[T,T,T,F,F,F,F,F,F,F,F,F,F,F,F,F,F,F,F,F] HT_.1 HW_.1 hHeld ?_
  refine pz 3 151 #[T,T,T,T,F,F,F,F,F,F,F,F,F,F,F,F,F,F,F,F] HT_.1 ?_
  refine pz 4 152 #[T,T,T,T,T,F,F,F,F,F,F,F,F,F,F,F,F,F,F,F] HT_.1 ?_
  refine pz 6 154 #[T,T,T,T,T,F,T,F,F,F,F,F,F,F,F,F,F,F,F,F] HT_.1 ?_
  refine pz 7 155 #[T,T,T,T,T,F,T,T,F,F,F,F,F,F,F,F,F,F,F,F] HT_.1 ?_
  refine tz 8 156 #[T,T,T,T,T,F,T,T,T,F,F,F,F,F,F,F,F,F,F,F] HT_.1 HW_.1 hHeld ?_
  refine pz 9 157 #[T,T,T,T,T,F,T,T,T,T,F,F,F,F,F,F,F,F,F,F] HT_.1 ?_
  refine tz 10 158 #[T,T,T,T,T,F,T,T,T,T,T,F,F,F,F,F,F,F,F,F] HT_.1 HW_.1 hHeld ?_
  refine pz 11 159 #[T,T,T,T,T,F,T,T,T,T,T,T,F,F,F,F,F,F,F,F] HT_.1 ?_
  refine pz 12 160 #[T,T,T,T,T,F,T,T,T,T,T,T,T,F,F,F,F,F,F,F] HT_.1 ?_
  refine tz 13 161 #[T,T,T,T,T,F,T,T,T,T,T,T,T,T,F,F,F,F,F,F] HT_.1 HW_.1 hHeld ?_
  refine pz 14 162 #[T,T,T,T,T,F,T,T,T,T,T,T,T,T,T,F,F,F,F,F] HT_.1 ?_
  refine tz 15 163 #[T,T,T,T,T,F,T,T,T,T,T,T,T,T,T,T,F,F,F,F] HT_.1 HW_.1 hHeld ?_
  refine pz 16 164 #[T,T,T,T,T,F,T,T,T,T,T,T,T,T,T,T,T,F,F,F] HT_.1 ?_
  refine two_last (i := 5) (j := 17) (Ni := some 153) (Nj := none) #[T,T,T,T,T,T,T,T,T,T,T,T,T,T,T,T,T,F,F,F] #[T,T,T,T,T,F,T,T,T,T,T,T,T,T,T,T,T,T,F,F] rfl rfl rfl rfl (by rw [ready_eq, HT_.out]; kernel_rfl) (by decide) (by decide) (fun K hK => ?_) (fun K hK => ?_)
  · have c2 := hHeld.2.1
    refine event_step (v := .int .i64 n2) (w1 := w8) rfl (by first | (go_simp; done) | (go_simp; with_reducible rfl)) ?_
    refine hK.out _ _ hHeld (fun hHeld => ?_)
    clear hK K c2
    refine nz 153 ?_
    refine last_ (i := 17) (N := none) #[T,T,T,T,T,T,T,T,T,T,T,T,T,T,T,T,T,T,F,F] rfl rfl (one_of HT_.out (by kernel_rfl)) (by decide) (fun K hK => ?_)
    obtain ⟨b2, cap2, hu2, ⟨e0, e1, e2, e3⟩, hfz⟩ := row_y HO.out HY.out
    cases hu2
    have f0 := hfz (n * 4)
    have f1 := hfz (n * 4 + 1)
    have f2 := hfz (n * 4 + 2)
    have f3 := hfz (n * 4 + 3)
    clear hfz
    refine sz ?_
    refine hK.out _ _ ?_
    clear hK K e0 e1 e2 e3 f0 f1 f2 f3
    have hlo : w.heap.size ≤ bo := own_base (R27.1 HO.out).2 bo rfl
    have g5 : G5 ≠ bo := fun e => GO.out (congrArg some e)
    have g3 : G3 ≠ bo := fun e => GO3.out (congrArg some e)
    replace HO := zA (R_set4y HO.out (lt_y HY.out) rfl z)
    replace HB := zA (below4 HB.out hlo (n * 4) (n * 4 + 1) (n * 4 + 2) (n * 4 + 3) (.int .i64 z.f0) (.int .i64 z.f1) (.string z.f2) (.int .i64 z.f3))
    replace K5 := zA (blk_far4 (i := n * 4) (j := n * 4 + 1) (k := n * 4 + 2) (l := n * 4 + 3) K5.out g5 (.int .i64 z.f0) (.int .i64 z.f1) (.string z.f2) (.int .i64 z.f3))
    replace K3 := zA (blk_far4 (i := n * 4) (j := n * 4 + 1) (k := n * 4 + 2) (l := n * 4 + 3) K3.out g3 (.int .i64 z.f0) (.int .i64 z.f1) (.string z.f2) (.int .i64 z.f3))
    clear hlo g5 g3
    generalize ((((w8.setCell ⟨bo, n * 4, none⟩ (.int .i64 z.f0)).setCell ⟨bo, n * 4 + 1, none⟩ (.int .i64 z.f1)).setCell ⟨bo, n * 4 + 2, none⟩ (.string z.f2)).setCell ⟨bo, n * 4 + 3, none⟩ (.int .i64 z.f3)) = w9 at HO HB K5 K3 ⊢
    refine pz 18 165 #[T,T,T,T,T,T,T,T,T,T,T,T,T,T,T,T,T,T,T,F] HT_.1 ?_
    refine last_ (i := 19) (N := none) #[T,T,T,T,T,T,T,T,T,T,T,T,T,T,T,T,T,T,T,T] rfl rfl (one_of HT_.out (by kernel_rfl)) (by decide) (fun K hK => ?_)
    obtain ⟨b2, cap2, hu2, ⟨e0, e1, e2, e3⟩, hfz⟩ := row_at HO.out (n := n2) (by rw [List.length_set]; exact lt_y HZ.out)
    rw [List.length_set] at hu2
    cases hu2
    have f0 := hfz (n2 * 4)
    have f1 := hfz (n2 * 4 + 1)
    have f2 := hfz (n2 * 4 + 2)
    have f3 := hfz (n2 * 4 + 3)
    clear hfz
    refine sz ?_
    refine hK.out _ _ ?_
    clear hK K e0 e1 e2 e3 f0 f1 f2 f3
    have hlo : w.heap.size ≤ bo := own_base (R27.1 HO.out).2 bo rfl
    have g5 : G5 ≠ bo := fun e => GO.out (congrArg some e)
    have g3 : G3 ≠ bo := fun e => GO3.out (congrArg some e)
    replace HO := zA (R_set4y HO.out (by rw [List.length_set]; exact lt_y HZ.out) rfl y)
    replace HB := zA (below4 HB.out hlo (n2 * 4) (n2 * 4 + 1) (n2 * 4 + 2) (n2 * 4 + 3) (.int .i64 y.f0) (.int .i64 y.f1) (.string y.f2) (.int .i64 y.f3))
    replace K5 := zA (blk_far4 (i := n2 * 4) (j := n2 * 4 + 1) (k := n2 * 4 + 2) (l := n2 * 4 + 3) K5.out g5 (.int .i64 y.f0) (.int .i64 y.f1) (.string y.f2) (.int .i64 y.f3))
    replace K3 := zA (blk_far4 (i := n2 * 4) (j := n2 * 4 + 1) (k := n2 * 4 + 2) (l := n2 * 4 + 3) K3.out g3 (.int .i64 y.f0) (.int .i64 y.f1) (.string y.f2) (.int .i64 y.f3))
    clear hlo g5 g3
    generalize ((((w9.setCell ⟨bo, n2 * 4, none⟩ (.int .i64 y.f0)).setCell ⟨bo, n2 * 4 + 1, none⟩ (.int .i64 y.f1)).setCell ⟨bo, n2 * 4 + 2, none⟩ (.string y.f2)).setCell ⟨bo, n2 * 4 + 3, none⟩ (.int .i64 y.f3)) = w11 at HO HB K5 K3 ⊢
    refine done_ (done_of HT_.out (by kernel_rfl)) ?_
    obtain ⟨_, _, _, _, _, _, _, _⟩ := zc4 K5
    go_wp2
    refine bodyPost_ret (results_list (rs := [.tmp 4, .cell 5 27, .tmp 6]) rfl (by simp) (.tmp (.cell G5 27 #[.int .i64 0, .int .i64 0, .string ⟨#[]⟩, .int .i64 0] (0, 0) _ rfl (zF K5) Try.underlying27 rfl (by kernel_rfl) (.tmp .nil)))) rfl ?_
    exact ⟨_, rfl, (Got.new HB0.out HB.out HO.out).st4 HB0.out.size GW5.out GO.out (.int .i64 0) (.int .i64 0) (.string ⟨#[]⟩) (.int .i64 0)⟩
  · skip
    obtain ⟨b2, cap2, hu2, ⟨e0, e1, e2, e3⟩, hfz⟩ := row_y HO.out HY.out
    cases hu2
    have f0 := hfz (n * 4)
    have f1 := hfz (n * 4 + 1)
    have f2 := hfz (n * 4 + 2)
    have f3 := hfz (n * 4 + 3)
    clear hfz
    refine sz ?_
    refine hK.out _ _ ?_
    clear hK K e0 e1 e2 e3 f0 f1 f2 f3
    have hlo : w.heap.size ≤ bo := own_base (R27.1 HO.out).2 bo rfl
    have g5 : G5 ≠ bo := fun e => GO.out (congrArg some e)
    have g3 : G3 ≠ bo := fun e => GO3.out (congrArg some e)
    replace HO := zA (R_set4y HO.out (lt_y HY.out) rfl z)
    replace HB := zA (below4 HB.out hlo (n * 4) (n * 4 + 1) (n * 4 + 2) (n * 4 + 3) (.int .i64 z.f0) (.int .i64 z.f1) (.string z.f2) (.int .i64 z.f3))
    replace K5 := zA (blk_far4 (i := n * 4) (j := n * 4 + 1) (k := n * 4 + 2) (l := n * 4 + 3) K5.out g5 (.int .i64 z.f0) (.int .i64 z.f1) (.string z.f2) (.int .i64 z.f3))
    replace K3 := zA (blk_far4 (i := n * 4) (j := n * 4 + 1) (k := n * 4 + 2) (l := n * 4 + 3) K3.out g3 (.int .i64 z.f0) (.int .i64 z.f1) (.string z.f2) (.int .i64 z.f3))
    clear hlo g5 g3
    generalize ((((w8.setCell ⟨bo, n * 4, none⟩ (.int .i64 z.f0)).setCell ⟨bo, n * 4 + 1, none⟩ (.int .i64 z.f1)).setCell ⟨bo, n * 4 + 2, none⟩ (.string z.f2)).setCell ⟨bo, n * 4 + 3, none⟩ (.int .i64 z.f3)) = w9 at HO HB K5 K3 ⊢
    have c3 : w9.cell? ⟨G3, 2, none⟩ = some (.int .i64 n2) := (bC K3.out 2).trans rfl
    refine one_keep (i := 5) (N := some 153) #[T,T,T,T,T,T,T,T,T,T,T,T,T,T,T,T,T,T,F,F] rfl rfl (one_of HT_.out (by kernel_rfl)) (fun K hK => ?_)
    refine event_step (v := .int .i64 n2) (w1 := w9) rfl (by first | (go_simp; done) | (go_simp; with_reducible rfl)) ?_
    refine hK.out _ _ id ?_
    clear hK K c3
    refine nz 153 ?_
    refine pz 18 165 #[T,T,T,T,T,T,T,T,T,T,T,T,T,T,T,T,T,T,T,F] HT_.1 ?_
    refine last_ (i := 19) (N := none) #[T,T,T,T,T,T,T,T,T,T,T,T,T,T,T,T,T,T,T,T] rfl rfl (one_of HT_.out (by kernel_rfl)) (by decide) (fun K hK => ?_)
    obtain ⟨b2, cap2, hu2, ⟨e0, e1, e2, e3⟩, hfz⟩ := row_at HO.out (n := n2) (by rw [List.length_set]; exact lt_y HZ.out)
    rw [List.length_set] at hu2
    cases hu2
    have f0 := hfz (n2 * 4)
    have f1 := hfz (n2 * 4 + 1)
    have f2 := hfz (n2 * 4 + 2)
    have f3 := hfz (n2 * 4 + 3)
    clear hfz
    refine sz ?_
    refine hK.out _ _ ?_
    clear hK K e0 e1 e2 e3 f0 f1 f2 f3
    have hlo : w.heap.size ≤ bo := own_base (R27.1 HO.out).2 bo rfl
    have g5 : G5 ≠ bo := fun e => GO.out (congrArg some e)
    have g3 : G3 ≠ bo := fun e => GO3.out (congrArg some e)
    replace HO := zA (R_set4y HO.out (by rw [List.length_set]; exact lt_y HZ.out) rfl y)
    replace HB := zA (below4 HB.out hlo (n2 * 4) (n2 * 4 + 1) (n2 * 4 + 2) (n2 * 4 + 3) (.int .i64 y.f0) (.int .i64 y.f1) (.string y.f2) (.int .i64 y.f3))
    replace K5 := zA (blk_far4 (i := n2 * 4) (j := n2 * 4 + 1) (k := n2 * 4 + 2) (l := n2 * 4 + 3) K5.out g5 (.int .i64 y.f0) (.int .i64 y.f1) (.string y.f2) (.int .i64 y.f3))
    replace K3 := zA (blk_far4 (i := n2 * 4) (j := n2 * 4 + 1) (k := n2 * 4 + 2) (l := n2 * 4 + 3) K3.out g3 (.int .i64 y.f0) (.int .i64 y.f1) (.string y.f2) (.int .i64 y.f3))
    clear hlo g5 g3
    generalize ((((w9.setCell ⟨bo, n2 * 4, none⟩ (.int .i64 y.f0)).setCell ⟨bo, n2 * 4 + 1, none⟩ (.int .i64 y.f1)).setCell ⟨bo, n2 * 4 + 2, none⟩ (.string y.f2)).setCell ⟨bo, n2 * 4 + 3, none⟩ (.int .i64 y.f3)) = w11 at HO HB K5 K3 ⊢
    refine done_ (done_of HT_.out (by kernel_rfl)) ?_
    obtain ⟨_, _, _, _, _, _, _, _⟩ := zc4 K5
    go_wp2
    refine bodyPost_ret (results_list (rs := [.tmp 4, .cell 5 27, .tmp 6]) rfl (by simp) (.tmp (.cell G5 27 #[.int .i64 0, .int .i64 0, .string ⟨#[]⟩, .int .i64 0] (0, 0) _ rfl (zF K5) Try.underlying27 rfl (by kernel_rfl) (.tmp .nil)))) rfl ?_
    exact ⟨_, rfl, (Got.new HB0.out HB.out HO.out).st4 HB0.out.size GW5.out GO.out (.int .i64 0) (.int .i64 0) (.string ⟨#[]⟩) (.int .i64 0)⟩
theorem rdo_turn {q i k x : Int} {m' : List S27} (hq : q ≠ 1) (hr : turnR m q i k = (m', x)) (hB : Below w0.heap.size w0 w) (hR : Kd.R k27 27 w w0.heap.size (fun _ => True) v m) (hG : Good m) : Calls Try.prog 28 #[v, .agg #[.int .i64 q, .int .i64 i, .int .i64 k]] w fun e w' => ∃ v', e = .returned (.tuple #[v', gV z27, .int .i64 x]) ∧ Got w0 w w' v v' m' := by
  unfold turnR at hr
  by_cases h6 : q = 6
  · subst h6
    rw [if_pos rfl] at hr
    obtain ⟨rfl, rfl⟩ := Prod.mk.inj hr
    exact rdo_tick hB hR hG
  rw [if_neg h6] at hr
  by_cases h7 : q = 7
  · subst h7
    rw [if_pos rfl] at hr
    by_cases hi : idB i = true
    · rw [if_pos hi] at hr
      by_cases hk : idB k = true
      · rw [if_pos hk] at hr
        by_cases he : i = k
        · rw [if_pos he] at hr
          obtain ⟨rfl, rfl⟩ := Prod.mk.inj hr
          exact rdo_cut3 hi hk he hB hR hG
        · rw [if_neg he] at hr
          obtain ⟨rfl, rfl⟩ := Prod.mk.inj hr
          exact rdo_cut hi hk he hB hR hG
      · rw [if_neg hk] at hr
        obtain ⟨rfl, rfl⟩ := Prod.mk.inj hr
        exact rdo_cut2 hi (by simpa using hk) hB hR hG
    · rw [if_neg hi] at hr
      obtain ⟨rfl, rfl⟩ := Prod.mk.inj hr
      exact rdo_cut1 (by simpa using hi) hB hR hG
  rw [if_neg h7] at hr
  by_cases h2 : q = 2
  · subst h2
    rw [if_pos rfl] at hr
    cases ha : atI m i with
    | none =>
      rw [ha] at hr
      obtain ⟨rfl, rfl⟩ := Prod.mk.inj hr
      exact rdo2_none (at_none ha) hB hR hG
    | some y =>
      rw [ha] at hr
      obtain ⟨rfl, rfl⟩ := Prod.mk.inj hr
      obtain ⟨_, hi, hn, hy⟩ := at_some ha
      rw [hi]
      exact rdo_drop hy hB hR hG
  rw [if_neg h2] at hr
  by_cases h3 : q = 3
  · subst h3
    rw [if_pos rfl] at hr
    cases ha : atI m i with
    | none =>
      rw [ha] at hr
      obtain ⟨rfl, rfl⟩ := Prod.mk.inj hr
      exact rdo3_none (at_none ha) hB hR hG
    | some y =>
      rw [ha] at hr
      obtain ⟨_, hi, hn, hy⟩ := at_some ha
      simp only [putM, putE, if_pos (hG.all y (List.mem_of_getElem? hy))] at hr
      rw [hi]
      by_cases hf : 65536 ≤ m.length
      · rw [if_pos hf, if_pos hf] at hr
        obtain ⟨rfl, rfl⟩ := Prod.mk.inj hr
        exact rdo_full hy hf hB hR hG
      · rw [if_neg hf, if_neg hf] at hr
        obtain ⟨rfl, rfl⟩ := Prod.mk.inj hr
        exact rdo_double hy hf hB hR hG
  rw [if_neg h3] at hr
  by_cases h4 : q = 4
  · subst h4
    rw [if_pos rfl] at hr
    cases ha : atI m i with
    | none =>
      rw [ha] at hr
      obtain ⟨rfl, rfl⟩ := Prod.mk.inj hr
      exact rdo4_none (at_none ha) hB hR hG
    | some y =>
      rw [ha] at hr
      obtain ⟨_, hi, hn, hy⟩ := at_some ha
      simp only at hr
      rw [hi]
      by_cases hk : k < 0
      · rw [if_pos hk] at hr
        obtain ⟨rfl, rfl⟩ := Prod.mk.inj hr
        exact rdo_neg hy hk hB hR hG
      · rw [if_neg hk] at hr
        by_cases hk2 : 65536 - y.f3 < k
        · rw [if_pos hk2] at hr
          obtain ⟨rfl, rfl⟩ := Prod.mk.inj hr
          exact rdo_far hy hk hk2 hB hR hG
        · rw [if_neg hk2] at hr
          obtain ⟨rfl, rfl⟩ := Prod.mk.inj hr
          exact rdo_delay hy hk hk2 hB hR hG
  rw [if_neg h4] at hr
  by_cases h5 : q = 5
  · subst h5
    rw [if_pos rfl] at hr
    cases ha : atI m i with
    | none =>
      rw [ha] at hr
      obtain ⟨rfl, rfl⟩ := Prod.mk.inj hr
      exact rdo5_none (at_none ha) hB hR hG
    | some y =>
      rw [ha] at hr
      obtain ⟨_, hi, hn, hy⟩ := at_some ha
      simp only at hr
      rw [hi]
      cases hc : atI m k with
      | none =>
        rw [hc] at hr
        obtain ⟨rfl, rfl⟩ := Prod.mk.inj hr
        exact rdo5_none2 hy (at_none hc) hB hR hG
      | some z =>
        rw [hc] at hr
        obtain ⟨rfl, rfl⟩ := Prod.mk.inj hr
        obtain ⟨_, hk, _, hz⟩ := at_some hc
        have h := rdo_swap hy hz hB hR hG
        rw [← hk] at h
        exact h
  rw [if_neg h5] at hr
  obtain ⟨rfl, rfl⟩ := Prod.mk.inj hr
  exact rdo_other ⟨hq, h2, h3, h4, h5, h6, h7⟩ hB hR hG
theorem rdo_calls {q i k x : Int} {m' : List S27} {y : S27} (hr : doR m q i k = (m', y, x)) (hB : Below w0.heap.size w0 w) (hR : Kd.R k27 27 w w0.heap.size (fun _ => True) v m) (hG : Good m) : Calls Try.prog 28 #[v, .agg #[.int .i64 q, .int .i64 i, .int .i64 k]] w fun e w' => ∃ v', e = .returned (.tuple #[v', gV y, .int .i64 x]) ∧ Got w0 w w' v v' m' := by
  unfold doR at hr
  by_cases h : q = 1
  · subst h
    rw [if_pos rfl] at hr
    exact rdo_take hr hB hR hG
  · rw [if_neg h] at hr
    obtain ⟨t, ht⟩ : ∃ t, turnR m q i k = t := ⟨_, rfl⟩
    rw [ht] at hr
    obtain ⟨m1, x1⟩ := t
    simp only [Prod.mk.injEq] at hr
    obtain ⟨rfl, rfl, rfl⟩ := hr
    exact rdo_turn h ht hB hR hG
end
end Go.Proofs.Ytpcipmhblknokaa.Ch
/- What does does, by hand: a flight and its list. -/
namespace Go.Proofs.Ytpcipmhblknokaa.Ch
open Go.RowKit Go.Proofs.Ytpcipmhblknokaa.XC Go.Proofs.YtpcipmhblknokaaW.PrintWords Go.Proofs.YtpcipmhblknokaaW.PrintLast Go.Proofs.YtpcipmhblknokaaW.PrintMore
attribute [local go_sem] max2_int min2_int max_two min_two max_three min_three max_four min_four   -- for this text's walks alone
set_option linter.unusedVariables false
set_option linter.unusedSimpArgs false
open List renaming setIfInBounds_toArray → xA, set_cons_zero → xB, set_cons_succ → xC
open Go.Proofs.YtpcipmhblknokaaW.PrintWords renaming blk_drewN → bN, blk_drew → bD, blk_alloc → bA, below_set → bS, blk_frozen → bF, blk_cell → bC, cell_far → cF, blk_far → bZ, blk_below → bB, pw_below_drewN → bwN, below_drew1 → bw1, below_alloc → bwA
open Go.Proofs.YtpcipmhblknokaaW.PrintZ
open Bool renaming true → T,false → F


set_option maxRecDepth 100000
set_option maxHeartbeats 8000000
theorem may_waitS {x : S27} {k : Int} (h : mayB x = true) (h0 : 0 ≤ k) (h1 : k ≤ 65536) : mayB (waitS x k) = true := by
  unfold mayB waitS at *
  simp only [Bool.and_eq_true, decide_eq_true_eq] at *
  exact ⟨h.1, h.2.1, h.2.2.1, h.2.2.2.1, h0, h1⟩
theorem Good.set {m : List S27} (hG : Good m) (n : Nat) {x : S27} (h : mayB x = true) : Good (m.set n x) :=
  ⟨fun y hy => (List.mem_or_eq_of_mem_set hy).elim (hG.all y) (fun e => e ▸ h), by rw [List.length_set]; exact hG.len⟩
theorem Good.erase {m : List S27} (hG : Good m) (n : Nat) : Good (m.eraseIdx n) :=
  ⟨fun y hy => hG.all y (List.mem_of_mem_eraseIdx hy), Nat.le_trans (List.length_eraseIdx_le ..) hG.len⟩
theorem Good.put {m : List S27} (hG : Good m) (x : S27) : Good (putM m x) := by
  unfold putM
  by_cases h : mayB x = true
  · rw [if_pos h]
    by_cases h2 : 65536 ≤ m.length
    · rw [if_pos h2]; exact hG
    · rw [if_neg h2]
      exact ⟨fun y hy => (List.mem_append.1 hy).elim (hG.all y) (fun e => by rw [List.mem_singleton.1 e]; exact h), by rw [List.length_append, List.length_singleton]; omega⟩
  · rw [if_neg h]; exact hG
theorem Good.take {m : List S27} (hG : Good m) (i : Int) : Good (takeR m i).1 := by
  unfold takeR
  cases atI m i with
  | none => exact hG
  | some y =>
    simp only
    by_cases h : 0 < y.f3
    · rw [if_pos h]; exact hG
    · rw [if_neg h]; exact hG.erase _
theorem Good.turn {m : List S27} (hG : Good m) (q i k : Int) : Good (turnR m q i k).1 := by
  unfold turnR
  by_cases h6 : q = 6
  · rw [if_pos h6]
    refine ⟨fun x hx => ?_, by rw [List.length_map]; exact hG.len⟩
    obtain ⟨y, hy, rfl⟩ := List.mem_map.1 hx
    have h := hG.all y hy
    obtain ⟨w0, w1⟩ := may_wait h
    have hw : wrap64 (y.f3 - 1) = y.f3 - 1 := by unfold wrap64; omega
    unfold tk
    rw [hw]
    by_cases h2 : y.f3 - 1 ≤ 0
    · rw [if_pos h2]; exact may_waitS h (by decide) (by decide)
    · rw [if_neg h2]; exact may_waitS h (by omega) (by omega)
  rw [if_neg h6]
  by_cases h7 : q = 7
  · rw [if_pos h7]
    split
    · split
      · split
        · exact hG
        · exact ⟨fun x hx => hG.all x (List.mem_filter.1 hx).1, Nat.le_trans (List.length_filter_le _ _) hG.len⟩
      · exact hG
    · exact hG
  rw [if_neg h7]
  by_cases h2 : q = 2
  · rw [if_pos h2]
    cases atI m i with
    | none => exact hG
    | some y => exact hG.erase _
  rw [if_neg h2]
  by_cases h3 : q = 3
  · rw [if_pos h3]
    cases atI m i with
    | none => exact hG
    | some y => exact hG.put y
  rw [if_neg h3]
  by_cases h4 : q = 4
  · rw [if_pos h4]
    cases ha : atI m i with
    | none => exact hG
    | some y =>
      have h := hG.all y (List.mem_of_getElem? (at_some ha).2.2.2)
      obtain ⟨w0, w1⟩ := may_wait h
      simp only
      by_cases hk : k < 0
      · rw [if_pos hk]; exact hG
      · rw [if_neg hk]
        by_cases hk2 : 65536 - y.f3 < k
        · rw [if_pos hk2]; exact hG
        · rw [if_neg hk2]; exact hG.set _ (may_waitS h (by omega) (by omega))
  rw [if_neg h4]
  by_cases h5 : q = 5
  · rw [if_pos h5]
    cases ha : atI m i with
    | none => exact hG
    | some y =>
      simp only
      cases hc : atI m k with
      | none => exact hG
      | some z => exact (hG.set _ (hG.all z (List.mem_of_getElem? (at_some hc).2.2.2))).set _ (hG.all y (List.mem_of_getElem? (at_some ha).2.2.2))
  rw [if_neg h5]
  exact hG
theorem Good.doR {m : List S27} (hG : Good m) (q i k : Int) : Good (doR m q i k).1 := by
  unfold Ch.doR
  by_cases h : q = 1
  · rw [if_pos h]; exact hG.take i
  · rw [if_neg h]; exact hG.turn q i k
/-- The blocks of a flight, of its row, and of the list beside it. -/
def inS (g : Nat) (u v : Value) (k : Nat) : Prop := k = g ∨ u.ownBlock = some k ∨ v.ownBlock = some k
/-- A flight and a list beside it, each in memory of its own, all made behind w0. -/
structure Side (w0 w : World) (g : Nat) (u v : Value) (mf mr : List S27) : Prop where
  fl : Fl w w0.heap.size (fun _ => True) g u mf
  row : Kd.R k27 27 w w0.heap.size (fun _ => True) v mr
  low : w0.heap.size ≤ g
  n1 : v.ownBlock ≠ some g
  n2 : ∀ k, v.ownBlock = some k → u.ownBlock ≠ some k
  below : Below w0.heap.size w0 w
structure Stp (w w' : World) (g : Nat) (u v u' v' : Value) : Prop where
  kept : Kept w w' (inS g u v)
  own : ∀ k, inS g u' v' k → inS g u v k ∨ w.heap.size ≤ k
theorem R_stepO {w w' : World} {base : Nat} {P : Nat → Prop} {v : Value} {m : List S27} (h : Kd.R k27 27 w base P v m) (hk : ∀ k, v.ownBlock = some k → k < w.heap.size → w'.heap[k]? = w.heap[k]?) : Kd.R k27 27 w' base P v m :=
  have h2 : Kd.R k27 27 w base (fun k => v.ownBlock = some k) v m := R27.2 ⟨fun k hk => hk, (R27.1 h).2⟩
  R27.2 ⟨(R27.1 h).1, (R27.1 (Kd.R_step h2 hk)).2⟩
section
variable {w0 w w1 w' : World} {g : Nat} {u v u' v' : Value} {mf mr m' : List S27}
theorem Stp.refl (w : World) : Stp w w g u v u v := ⟨Kept.refl w _, fun _ h => .inl h⟩
theorem Stp.of_below (h : Below w.heap.size w w') : Stp w w' g u v u v := ⟨Kept.of_below h _, fun _ h => .inl h⟩
theorem Stp.trans {u2 v2 : Value} (h : Stp w w1 g u v u' v') (k : Stp w1 w' g u' v' u2 v2) : Stp w w' g u v u2 v2 :=
  ⟨h.kept.then_ k.kept h.own, fun i hi => (k.own i hi).elim (h.own i) (fun h2 => .inr (Nat.le_trans h.kept.1 h2))⟩
theorem Side.lt (S : Side w0 w g u v mf mr) {k : Nat} (h : inS g u v k) : k < w.heap.size := by
  rcases h with rfl | h | h
  · exact blk_lt S.fl.blk
  · exact own_lt (R27.1 S.fl.row).2 k h
  · exact own_lt (R27.1 S.row).2 k h
theorem Side.lo (S : Side w0 w g u v mf mr) {k : Nat} (h : inS g u v k) : w0.heap.size ≤ k := by
  rcases h with rfl | h | h
  · exact S.low
  · exact own_base (R27.1 S.fl.row).2 k h
  · exact own_base (R27.1 S.row).2 k h
theorem Side.bel (S : Side w0 w g u v mf mr) (hb : Below w.heap.size w w') : Side w0 w' g u v mf mr :=
  ⟨S.fl.below hb, Kd.R_below S.row hb, S.low, S.n1, S.n2, below_up S.below hb⟩
theorem Side.drew (S : Side w0 w g u v mf mr) : Side w0 w.drew g u v mf mr := ⟨S.fl.drew, Kd.R_drew S.row, S.low, S.n1, S.n2, bw1 S.below⟩
/-- A store into a block that is none of these. -/
theorem Side.set (S : Side w0 w g u v mf mr) {G : Nat} (hG : ¬ inS g u v G) (hl : w0.heap.size ≤ G) (i : Nat) (a : Value) : Side w0 (w.setCell ⟨G, i, none⟩ a) g u v mf mr :=
  ⟨S.fl.set (fun e => hG (.inl e.symm)) (fun e => hG (.inr (.inl e.symm))) i a, R27.2 ⟨(R27.1 S.row).1, ownsRow_setCell_other (R27.1 S.row).2 (fun e => hG (.inr (.inr e))) a⟩, S.low, S.n1, S.n2, bS S.below hl⟩
theorem Side.set4 (S : Side w0 w g u v mf mr) {G : Nat} (hG : ¬ inS g u v G) (hl : w0.heap.size ≤ G) (a b c d : Value) : Side w0 ((((w.setCell ⟨G, 0, none⟩ a).setCell ⟨G, 1, none⟩ b).setCell ⟨G, 2, none⟩ c).setCell ⟨G, 3, none⟩ d) g u v mf mr :=
  (((S.set hG hl 0 a).set hG hl 1 b).set hG hl 2 c).set hG hl 3 d
theorem Stp.set4 (S : Stp w w' g u v u' v') {G : Nat} (hl : w.heap.size ≤ G) (a b c d : Value) : Stp w ((((w'.setCell ⟨G, 0, none⟩ a).setCell ⟨G, 1, none⟩ b).setCell ⟨G, 2, none⟩ c).setCell ⟨G, 3, none⟩ d) g u v u' v' :=
  ⟨(((S.kept.setCell (.inr hl) a).setCell (.inr hl) b).setCell (.inr hl) c).setCell (.inr hl) d, S.own⟩
theorem Side.kept (S : Side w0 w g u v mf mr) {X : Nat → Prop} (hk : Kept w w' X) (hX : ∀ k, inS g u v k → ¬ X k) (hB : Below w0.heap.size w0 w') : Side w0 w' g u v mf mr := by
  have hf : ∀ k, inS g u v k → w'.heap[k]? = w.heap[k]? := fun k h => hk.2 k (S.lt h) (hX k h)
  exact ⟨⟨(hf g (.inl rfl)).trans S.fl.blk, R_stepO S.fl.row (fun k ho hlt => (hk.2 k hlt (hX k (.inr (.inl ho)))))⟩, R_stepO S.row (fun k ho hlt => (hk.2 k hlt (hX k (.inr (.inr ho))))), S.low, S.n1, S.n2, hB⟩
theorem Side.got (S : Side w0 w g u v mf mr) (h : Got w0 w w' v v' m') : Side w0 w' g u v' mf m' ∧ Stp w w' g u v u v' := by
  have hg := blk_lt S.fl.blk
  have hu := own_lt (R27.1 S.fl.row).2
  refine ⟨⟨⟨(h.kept.2 g hg S.n1).trans S.fl.blk, R_stepO S.fl.row (fun k ho hlt => h.kept.2 k hlt (fun e => S.n2 k e ho))⟩, h.row, S.low, fun e => ?_, fun k hk hk2 => ?_, h.below⟩, ⟨h.kept.mono (fun k hk => .inr (.inr hk)), fun k hk => ?_⟩⟩
  · rcases h.own g e with h2 | h2
    · exact S.n1 h2
    · omega
  · have := hu k hk2
    rcases h.own k hk with h2 | h2
    · exact S.n2 k h2 hk2
    · omega
  · rcases hk with hk | hk | hk
    · exact .inl (.inl hk)
    · exact .inl (.inr (.inl hk))
    · exact (h.own k hk).imp (fun h => .inr (.inr h)) id
theorem Side.did (S : Side w0 w g u v mf mr) (h : Did w w' w0.heap.size (fun _ => True) g u u' m') : Side w0 w' g u' v m' mr ∧ Stp w w' g u v u' v := by
  obtain ⟨h1, h2, h3⟩ := h
  have hv := own_lt (R27.1 S.row).2
  refine ⟨⟨h1, R_stepO S.row (fun k ho hlt => h2.block k hlt (fun e => S.n1 (e ▸ ho)) (fun e => S.n2 k ho e.symm)), S.low, S.n1, fun k hk hk2 => ?_, ?_⟩, ⟨⟨h2.size, fun k hk hn => h2.block k hk (fun e => hn (.inl e)) (fun e => hn (.inr (.inl e.symm)))⟩, fun k hk => ?_⟩⟩
  · have := hv k hk
    rcases h3 with e | ⟨j, e, hj⟩
    · exact S.n2 k hk (e.symm.trans hk2)
    · rw [e] at hk2
      injection hk2 with hk2
      omega
  · exact ⟨h2.os.trans S.below.os, h2.tape.trans S.below.tape, h2.output.trans S.below.output, Nat.le_trans S.below.size h2.size, fun k hk => (h2.block k (Nat.lt_of_lt_of_le hk S.below.size) (fun e => by have := S.low; omega) (fun e => by have := own_base (R27.1 S.fl.row).2 k e.symm; omega)).trans (S.below.block k hk)⟩
  · rcases hk with hk | hk | hk
    · exact .inl (.inl hk)
    · rcases h3 with e | ⟨j, e, hj⟩
      · exact .inl (.inr (.inl (e.symm.trans hk)))
      · rw [e] at hk
        injection hk with hk
        exact .inr (by omega)
    · exact .inl (.inr (.inr hk))
/-- A block that is none of these stays as it is. -/
theorem Stp.blk {G : Nat} {ob : Obj} (h : Stp w w' g u v u' v') (hK : w.heap[G]? = some ob) (hG : ¬ inS g u v G) : w'.heap[G]? = some ob ∧ ¬ inS g u' v' G := by
  have hl := blk_lt hK
  refine ⟨(h.kept.2 G hl hG).trans hK, fun e => ?_⟩
  rcases h.own G e with h2 | h2
  · exact hG h2
  · omega
theorem Side.new (S : Side w0 w g u v mf mr) {G : Nat} (h : w.heap.size ≤ G) : ¬ inS g u v G := fun e => by
  have := S.lt e
  omega
theorem side_put {x : S27} (S : Side w0 w g u v mf mr) : Calls Try.prog 9 #[.pointer (some ⟨g, 0, none⟩), gV x] w fun e w' => ∃ u', e = .returned (.int .i64 (putE mf x)) ∧ Side w0 w' g u' v (putM mf x) mr ∧ Stp w w' g u v u' v :=
  (put_calls x S.fl S.below.size (fun _ _ => trivial)).mono fun e w' ⟨u', he, h1, h2⟩ => ⟨u', he, S.did ⟨h1, h2⟩⟩
theorem side_take {i x : Int} {y : S27} (hr : takeR mf i = (m', y, x)) (S : Side w0 w g u v mf mr) : Calls Try.prog 20 #[.pointer (some ⟨g, 0, none⟩), .int .i64 i] w fun e w' => ∃ u', e = .returned (.tuple #[gV y, .int .i64 x]) ∧ Side w0 w' g u' v m' mr ∧ Stp w w' g u v u' v :=
  (take_r hr S.fl).mono fun e w' ⟨u', he, h⟩ => ⟨u', he, S.did h⟩
theorem side_do {q i k x : Int} {y : S27} (hr : doR mf q i k = (m', y, x)) (hG : Good mf) (S : Side w0 w g u v mf mr) : Calls Try.prog 11 #[.pointer (some ⟨g, 0, none⟩), .agg #[.int .i64 q, .int .i64 i, .int .i64 k]] w fun e w' => ∃ u', e = .returned (.tuple #[gV y, .int .i64 x]) ∧ Side w0 w' g u' v m' mr ∧ Stp w w' g u v u' v := by
  have h := do_calls (q := q) (i := i) (k := k) hG S.fl S.below.size (fun _ _ => trivial)
  rw [hr] at h
  exact h.mono fun e w' ⟨u', he, h⟩ => ⟨u', he, S.did h⟩
theorem side_rput {x : S27} (S : Side w0 w g u v mf mr) (hl : mr.length ≤ 65536) : Calls Try.prog 26 #[v, gV x] w fun e w' => ∃ v', e = .returned (.tuple #[v', .int .i64 (putE mr x)]) ∧ Side w0 w' g u v' mf (putM mr x) ∧ Stp w w' g u v u v' :=
  (rput_calls S.below S.row hl).mono fun e w' ⟨v', he, h⟩ => ⟨v', he, S.got h⟩
theorem side_rtake {i x : Int} {y : S27} (hr : takeR mr i = (m', y, x)) (hl : mr.length ≤ 65536) (S : Side w0 w g u v mf mr) : Calls Try.prog 27 #[v, .int .i64 i] w fun e w' => ∃ v', e = .returned (.tuple #[v', gV y, .int .i64 x]) ∧ Side w0 w' g u v' mf m' ∧ Stp w w' g u v u v' :=
  (rtake_calls S.below S.row hl hr).mono fun e w' ⟨v', he, h⟩ => ⟨v', he, S.got h⟩
theorem side_rdo {q i k x : Int} {y : S27} (hr : doR mr q i k = (m', y, x)) (hG : Good mr) (S : Side w0 w g u v mf mr) : Calls Try.prog 28 #[v, .agg #[.int .i64 q, .int .i64 i, .int .i64 k]] w fun e w' => ∃ v', e = .returned (.tuple #[v', gV y, .int .i64 x]) ∧ Side w0 w' g u v' mf m' ∧ Stp w w' g u v u v' :=
  (rdo_calls hr S.below S.row hG).mono fun e w' ⟨v', he, h⟩ => ⟨v', he, S.got h⟩
end
/-- What an act makes of a list. -/
def stepM (m : List S27) (x : S31) : List S27 := if x.f0 = true then putM m x.f1 else (doR m x.f2.f0 x.f2.f1 x.f2.f2).1
theorem Good.step {m : List S27} (hG : Good m) (x : S31) : Good (stepM m x) := by
  unfold stepM
  by_cases h : x.f0 = true
  · rw [if_pos h]; exact hG.put _
  · rw [if_neg h]; exact hG.doR _ _ _
abbrev aV (x : S31) : Value := .agg #[.bool x.f0, .int .i64 x.f1.f0, .int .i64 x.f1.f1, .string x.f1.f2, .int .i64 x.f1.f3, .int .i64 x.f2.f0, .int .i64 x.f2.f1, .int .i64 x.f2.f2]
attribute [local go_sem high] eqA27
section
variable {w0 w : World} {g : Nat} {u v : Value} {m : List S27}
theorem does_put {y : S27} {q i k : Int} (S : Side w0 w g u v m m) (hG : Good m) : Calls Try.prog 13 #[.pointer (some ⟨g, 0, none⟩), v, .agg #[.bool true, .int .i64 y.f0, .int .i64 y.f1, .string y.f2, .int .i64 y.f3, .int .i64 q, .int .i64 i, .int .i64 k]] w fun e w' => ∃ u' v', e = .returned (.tuple #[v', .bool true]) ∧ Side w0 w' g u' v' (putM m y) (putM m y) ∧ Stp w w' g u v u' v' := by
  obtain ⟨A, c, rfl⟩ := Kd.R_slice S.row
  have SD := zA S
  have ST := zA (Stp.refl (g := g) (u := u) (v := .slice A m.length c) w)
  have HG := zA hG
  have hl := hG.len
  have hu27 := Try.underlying27
  have hu29 := Try.underlying29
  have hu31 := Try.underlying31
  clear S hG
  go_enter Try.func13, Try.ntmps13
  go_wp2_with (first | ((with_reducible refine gate_dst (N := 5) rfl ?_); refine zb (N := 5) (cs := #[.bool true, .int .i64 y.f0, .int .i64 y.f1, .string y.f2, .int .i64 y.f3, .int .i64 q, .int .i64 i, .int .i64 k]) (t := 31) ?_; intro G5 hg w5 hbox hb; have K5 := zA hbox; have N5 := zA (SD.out.new (Nat.le_of_eq hg.symm)); replace SD := zA (SD.out.bel hb); replace ST := zA (ST.out.trans (Stp.of_below hb)); clear hb hbox hg; have c0 := (bC K5.out 0).trans rfl; have c1 := (bC K5.out 1).trans rfl; have c2 := (bC K5.out 2).trans rfl; have c3 := (bC K5.out 3).trans rfl; have c4 := (bC K5.out 4).trans rfl; have c5 := (bC K5.out 5).trans rfl; have c6 := (bC K5.out 6).trans rfl; have c7 := (bC K5.out 7).trans rfl) | ((with_reducible refine gate_callee (f := 26) rfl ?_); refine zg (some 26) Try.func26 #[.slice A m.length c, gV y] ?_; (with_reducible refine (side_rput SD.out hl).mono ?_); rintro e w7 ⟨v', rfl, hS, hT⟩; refine ⟨_, rfl, ?_⟩; have hk5 := hT.blk K5.out N5.out; replace K5 := zA hk5.1; replace N5 := zA hk5.2; replace SD := zA hS; replace ST := zA (ST.out.trans hT); clear hS hT hk5; have c0 := (bC K5.out 0).trans rfl; have c1 := (bC K5.out 1).trans rfl; have c2 := (bC K5.out 2).trans rfl; have c3 := (bC K5.out 3).trans rfl; have c4 := (bC K5.out 4).trans rfl; have c5 := (bC K5.out 5).trans rfl; have c6 := (bC K5.out 6).trans rfl; have c7 := (bC K5.out 7).trans rfl; obtain ⟨A7, c7_, rfl⟩ := Kd.R_slice SD.out.row; have EQ : ((putE m y) == (putE m y)) = true := beq_self_eq_true _) | ((with_reducible refine gate_callee (f := 9) rfl ?_); refine zg (some 33) Try.func9 #[.pointer (some ⟨g, 0, none⟩), gV y] ?_; (with_reducible refine (side_put SD.out).mono ?_); rintro e w7 ⟨u', rfl, hS, hT⟩; refine ⟨_, rfl, ?_⟩; have hk5 := hT.blk K5.out N5.out; replace K5 := zA hk5.1; replace N5 := zA hk5.2; replace SD := zA hS; replace ST := zA (ST.out.trans hT); clear hS hT hk5; have c0 := (bC K5.out 0).trans rfl; have c1 := (bC K5.out 1).trans rfl; have c2 := (bC K5.out 2).trans rfl; have c3 := (bC K5.out 3).trans rfl; have c4 := (bC K5.out 4).trans rfl; have c5 := (bC K5.out 5).trans rfl; have c6 := (bC K5.out 6).trans rfl; have c7 := (bC K5.out 7).trans rfl))
  go_ret2
  exact ⟨_, _, rfl, SD.out, ST.out⟩
theorem does_take {y : S27} {i k : Int} (hk : (bits BinOp.and IntKind.i64 k 1 == 1) = true) (S : Side w0 w g u v m m) (hG : Good m) : Calls Try.prog 13 #[.pointer (some ⟨g, 0, none⟩), v, .agg #[.bool false, .int .i64 y.f0, .int .i64 y.f1, .string y.f2, .int .i64 y.f3, .int .i64 1, .int .i64 i, .int .i64 k]] w fun e w' => ∃ u' v', e = .returned (.tuple #[v', .bool true]) ∧ Side w0 w' g u' v' (takeR m i).1 (takeR m i).1 ∧ Stp w w' g u v u' v' := by
  obtain ⟨A, c, rfl⟩ := Kd.R_slice S.row
  have SD := zA S
  have ST := zA (Stp.refl (g := g) (u := u) (v := .slice A m.length c) w)
  have HG := zA hG
  have hl := hG.len
  have hu27 := Try.underlying27
  have hu29 := Try.underlying29
  have hu31 := Try.underlying31
  clear S hG
  go_enter Try.func13, Try.ntmps13
  obtain ⟨r, hr⟩ : ∃ r, takeR m i = r := ⟨_, rfl⟩
  rw [hr]
  obtain ⟨m', z, x⟩ := r
  have HR := zA hr
  clear hr
  have ex : (x == x) = true := beq_self_eq_true _
  have ez0 : (z.f0 == z.f0) = true := beq_self_eq_true _
  have ez1 : (z.f1 == z.f1) = true := beq_self_eq_true _
  have ez2 : (z.f2.toList == z.f2.toList) = true := beq_self_eq_true _
  have ez3 : (z.f3 == z.f3) = true := beq_self_eq_true _
  go_wp2_with (first | ((with_reducible refine gate_dst (N := 5) rfl ?_); refine zb (N := 5) (cs := #[.bool false, .int .i64 y.f0, .int .i64 y.f1, .string y.f2, .int .i64 y.f3, .int .i64 1, .int .i64 i, .int .i64 k]) (t := 31) ?_; intro G5 hg w5 hbox hb; have K5 := zA hbox; have N5 := zA (SD.out.new (Nat.le_of_eq hg.symm)); replace SD := zA (SD.out.bel hb); replace ST := zA (ST.out.trans (Stp.of_below hb)); clear hb hbox hg; have c0 := (bC K5.out 0).trans rfl; have c1 := (bC K5.out 1).trans rfl; have c2 := (bC K5.out 2).trans rfl; have c3 := (bC K5.out 3).trans rfl; have c4 := (bC K5.out 4).trans rfl; have c5 := (bC K5.out 5).trans rfl; have c6 := (bC K5.out 6).trans rfl; have c7 := (bC K5.out 7).trans rfl) | ((with_reducible refine gate_callee (f := 27) rfl ?_); refine zg (some 52) Try.func27 #[.slice A m.length c, .int .i64 i] ?_; (with_reducible refine (side_rtake HR.out hl SD.out).mono ?_); rintro e w7 ⟨v', rfl, hS, hT⟩; refine ⟨_, rfl, ?_⟩; have hk5 := hT.blk K5.out N5.out; replace K5 := zA hk5.1; replace N5 := zA hk5.2; replace SD := zA hS; replace ST := zA (ST.out.trans hT); clear hS hT hk5; have c0 := (bC K5.out 0).trans rfl; have c1 := (bC K5.out 1).trans rfl; have c2 := (bC K5.out 2).trans rfl; have c3 := (bC K5.out 3).trans rfl; have c4 := (bC K5.out 4).trans rfl; have c5 := (bC K5.out 5).trans rfl; have c6 := (bC K5.out 6).trans rfl; have c7 := (bC K5.out 7).trans rfl; obtain ⟨A7, c7_, rfl⟩ := Kd.R_slice SD.out.row) | ((with_reducible refine gate_dst (N := 11) rfl ?_); refine zb (N := 11) (cs := #[.int .i64 0, .int .i64 0, .string ⟨#[]⟩, .int .i64 0]) (t := 27) ?_; intro G11 hg wa11 hbox hb; have K11 := zA hbox; have N11 := zA (SD.out.new (Nat.le_of_eq hg.symm)); have L11 := zA (show w0.heap.size ≤ G11 from hg ▸ SD.out.below.size); have M11 := zA (show w.heap.size ≤ G11 from hg ▸ ST.out.kept.1); have NE5_11 := zL K5 hg; replace SD := zA (SD.out.bel hb); replace ST := zA (ST.out.trans (Stp.of_below hb)); replace K5 := zB K5 hb; clear hb hbox hg; obtain ⟨_, _, _, _, _, _, _, _⟩ := zc4 K11) | ((with_reducible refine gate_store (t := 27) (p := 11) rfl ?_); refine store_event (t := 27) (p := 11) (v := ?vo) (w1 := ((((wa11.setCell ⟨G11, 0, none⟩ (.int .i64 z.f0)).setCell ⟨G11, 1, none⟩ (.int .i64 z.f1)).setCell ⟨G11, 2, none⟩ (.string z.f2)).setCell ⟨G11, 3, none⟩ (.int .i64 z.f3))) ?hg ?ho ?hn ?hr ?_; (case ho => rfl); (case hg => rfl); (case hn => rfl); (case hr => first|(go_simp;done)|(go_simp;rfl)); intro ws11 hw; replace SD := zA (show Side w0 ws11 g _ _ _ _ from by rw [hw]; exact SD.out.set4 N11.out L11.out _ _ _ _); replace ST := zA (show Stp w ws11 g _ _ _ _ from by rw [hw]; exact ST.out.set4 M11.out _ _ _ _); replace K5 := zV hw K5; replace K11 := zVp hw (.cells #[.int .i64 z.f0, .int .i64 z.f1, .string z.f2, .int .i64 z.f3] 27 (0, 0)) K11; clear hw; have c0 := (bC K5.out 0).trans rfl; have c1 := (bC K5.out 1).trans rfl; have c2 := (bC K5.out 2).trans rfl; have c3 := (bC K5.out 3).trans rfl; have c4 := (bC K5.out 4).trans rfl; have c5 := (bC K5.out 5).trans rfl; have c6 := (bC K5.out 6).trans rfl; have c7 := (bC K5.out 7).trans rfl) | ((with_reducible refine gate_callee (f := 20) rfl ?_); refine zg (some 61) Try.func20 #[.pointer (some ⟨g, 0, none⟩), .int .i64 i] ?_; (with_reducible refine (side_take HR.out SD.out).mono ?_); rintro e w7 ⟨u', rfl, hS, hT⟩; refine ⟨_, rfl, ?_⟩; have hk5 := hT.blk K5.out N5.out; have hk11 := hT.blk K11.out N11.out; replace K5 := zA hk5.1; replace N5 := zA hk5.2; replace K11 := zA hk11.1; replace N11 := zA hk11.2; replace SD := zA hS; replace ST := zA (ST.out.trans hT); clear hS hT hk5 hk11; have c0 := (bC K5.out 0).trans rfl; have c1 := (bC K5.out 1).trans rfl; have c2 := (bC K5.out 2).trans rfl; have c3 := (bC K5.out 3).trans rfl; have c4 := (bC K5.out 4).trans rfl; have c5 := (bC K5.out 5).trans rfl; have c6 := (bC K5.out 6).trans rfl; have c7 := (bC K5.out 7).trans rfl) | ((with_reducible refine gate_dst (N := 13) rfl ?_); refine zb (N := 13) (cs := #[.int .i64 0, .int .i64 0, .string ⟨#[]⟩, .int .i64 0]) (t := 27) ?_; intro G13 hg wa13 hbox hb; have K13 := zA hbox; have N13 := zA (SD.out.new (Nat.le_of_eq hg.symm)); have L13 := zA (show w0.heap.size ≤ G13 from hg ▸ SD.out.below.size); have M13 := zA (show w.heap.size ≤ G13 from hg ▸ ST.out.kept.1); have NE5_13 := zL K5 hg; have NE11_13 := zL K11 hg; replace SD := zA (SD.out.bel hb); replace ST := zA (ST.out.trans (Stp.of_below hb)); replace K5 := zB K5 hb; replace K11 := zB K11 hb; clear hb hbox hg; obtain ⟨_, _, _, _, _, _, _, _⟩ := zc4 K13; have d11_0 := (bC K11.out 0).trans rfl; have d11_1 := (bC K11.out 1).trans rfl; have d11_2 := (bC K11.out 2).trans rfl; have d11_3 := (bC K11.out 3).trans rfl; have n1 := NE11_13.out; have n2 := Ne.symm n1))
  go_ret2
  exact ⟨_, _, rfl, SD.out.set4 N13.out L13.out _ _ _ _, ST.out.set4 M13.out _ _ _ _⟩
theorem does_do1 {y : S27} {i k : Int} (hk : (bits BinOp.and IntKind.i64 k 1 == 1) = false) (S : Side w0 w g u v m m) (hG : Good m) : Calls Try.prog 13 #[.pointer (some ⟨g, 0, none⟩), v, .agg #[.bool false, .int .i64 y.f0, .int .i64 y.f1, .string y.f2, .int .i64 y.f3, .int .i64 1, .int .i64 i, .int .i64 k]] w fun e w' => ∃ u' v', e = .returned (.tuple #[v', .bool true]) ∧ Side w0 w' g u' v' (doR m 1 i k).1 (doR m 1 i k).1 ∧ Stp w w' g u v u' v' := by
  obtain ⟨A, c, rfl⟩ := Kd.R_slice S.row
  have SD := zA S
  have ST := zA (Stp.refl (g := g) (u := u) (v := .slice A m.length c) w)
  have HG := zA hG
  have hl := hG.len
  have hu27 := Try.underlying27
  have hu29 := Try.underlying29
  have hu31 := Try.underlying31
  clear S hG
  go_enter Try.func13, Try.ntmps13
  obtain ⟨r, hr⟩ : ∃ r, doR m 1 i k = r := ⟨_, rfl⟩
  rw [hr]
  obtain ⟨m', z, x⟩ := r
  have HR := zA hr
  clear hr
  have ex : (x == x) = true := beq_self_eq_true _
  have ez0 : (z.f0 == z.f0) = true := beq_self_eq_true _
  have ez1 : (z.f1 == z.f1) = true := beq_self_eq_true _
  have ez2 : (z.f2.toList == z.f2.toList) = true := beq_self_eq_true _
  have ez3 : (z.f3 == z.f3) = true := beq_self_eq_true _
  go_wp2_with (first | ((with_reducible refine gate_dst (N := 5) rfl ?_); refine zb (N := 5) (cs := #[.bool false, .int .i64 y.f0, .int .i64 y.f1, .string y.f2, .int .i64 y.f3, .int .i64 1, .int .i64 i, .int .i64 k]) (t := 31) ?_; intro G5 hg w5 hbox hb; have K5 := zA hbox; have N5 := zA (SD.out.new (Nat.le_of_eq hg.symm)); replace SD := zA (SD.out.bel hb); replace ST := zA (ST.out.trans (Stp.of_below hb)); clear hb hbox hg; have c0 := (bC K5.out 0).trans rfl; have c1 := (bC K5.out 1).trans rfl; have c2 := (bC K5.out 2).trans rfl; have c3 := (bC K5.out 3).trans rfl; have c4 := (bC K5.out 4).trans rfl; have c5 := (bC K5.out 5).trans rfl; have c6 := (bC K5.out 6).trans rfl; have c7 := (bC K5.out 7).trans rfl) | ((with_reducible refine gate_callee (f := 28) rfl ?_); refine zg (some 77) Try.func28 #[.slice A m.length c, .agg #[.int .i64 1, .int .i64 i, .int .i64 k]] ?_; (with_reducible refine (side_rdo HR.out HG.out SD.out).mono ?_); rintro e w7 ⟨v', rfl, hS, hT⟩; refine ⟨_, rfl, ?_⟩; have hk5 := hT.blk K5.out N5.out; replace K5 := zA hk5.1; replace N5 := zA hk5.2; replace SD := zA hS; replace ST := zA (ST.out.trans hT); clear hS hT hk5; have c0 := (bC K5.out 0).trans rfl; have c1 := (bC K5.out 1).trans rfl; have c2 := (bC K5.out 2).trans rfl; have c3 := (bC K5.out 3).trans rfl; have c4 := (bC K5.out 4).trans rfl; have c5 := (bC K5.out 5).trans rfl; have c6 := (bC K5.out 6).trans rfl; have c7 := (bC K5.out 7).trans rfl; obtain ⟨A7, c7_, rfl⟩ := Kd.R_slice SD.out.row) | ((with_reducible refine gate_dst (N := 16) rfl ?_); refine zb (N := 16) (cs := #[.int .i64 0, .int .i64 0, .string ⟨#[]⟩, .int .i64 0]) (t := 27) ?_; intro G16 hg wa16 hbox hb; have K16 := zA hbox; have N16 := zA (SD.out.new (Nat.le_of_eq hg.symm)); have L16 := zA (show w0.heap.size ≤ G16 from hg ▸ SD.out.below.size); have M16 := zA (show w.heap.size ≤ G16 from hg ▸ ST.out.kept.1); have NE5_16 := zL K5 hg; replace SD := zA (SD.out.bel hb); replace ST := zA (ST.out.trans (Stp.of_below hb)); replace K5 := zB K5 hb; clear hb hbox hg; obtain ⟨_, _, _, _, _, _, _, _⟩ := zc4 K16) | ((with_reducible refine gate_store (t := 27) (p := 16) rfl ?_); refine store_event (t := 27) (p := 16) (v := ?vo) (w1 := ((((wa16.setCell ⟨G16, 0, none⟩ (.int .i64 z.f0)).setCell ⟨G16, 1, none⟩ (.int .i64 z.f1)).setCell ⟨G16, 2, none⟩ (.string z.f2)).setCell ⟨G16, 3, none⟩ (.int .i64 z.f3))) ?hg ?ho ?hn ?hr ?_; (case ho => rfl); (case hg => rfl); (case hn => rfl); (case hr => first|(go_simp;done)|(go_simp;rfl)); intro ws16 hw; replace SD := zA (show Side w0 ws16 g _ _ _ _ from by rw [hw]; exact SD.out.set4 N16.out L16.out _ _ _ _); replace ST := zA (show Stp w ws16 g _ _ _ _ from by rw [hw]; exact ST.out.set4 M16.out _ _ _ _); replace K5 := zV hw K5; replace K16 := zVp hw (.cells #[.int .i64 z.f0, .int .i64 z.f1, .string z.f2, .int .i64 z.f3] 27 (0, 0)) K16; clear hw; have c0 := (bC K5.out 0).trans rfl; have c1 := (bC K5.out 1).trans rfl; have c2 := (bC K5.out 2).trans rfl; have c3 := (bC K5.out 3).trans rfl; have c4 := (bC K5.out 4).trans rfl; have c5 := (bC K5.out 5).trans rfl; have c6 := (bC K5.out 6).trans rfl; have c7 := (bC K5.out 7).trans rfl) | ((with_reducible refine gate_callee (f := 11) rfl ?_); refine zg (some 85) Try.func11 #[.pointer (some ⟨g, 0, none⟩), .agg #[.int .i64 1, .int .i64 i, .int .i64 k]] ?_; (with_reducible refine (side_do HR.out HG.out SD.out).mono ?_); rintro e w7 ⟨u', rfl, hS, hT⟩; refine ⟨_, rfl, ?_⟩; have hk5 := hT.blk K5.out N5.out; have hk11 := hT.blk K16.out N16.out; replace K5 := zA hk5.1; replace N5 := zA hk5.2; replace K16 := zA hk11.1; replace N16 := zA hk11.2; replace SD := zA hS; replace ST := zA (ST.out.trans hT); clear hS hT hk5 hk11; have c0 := (bC K5.out 0).trans rfl; have c1 := (bC K5.out 1).trans rfl; have c2 := (bC K5.out 2).trans rfl; have c3 := (bC K5.out 3).trans rfl; have c4 := (bC K5.out 4).trans rfl; have c5 := (bC K5.out 5).trans rfl; have c6 := (bC K5.out 6).trans rfl; have c7 := (bC K5.out 7).trans rfl) | ((with_reducible refine gate_dst (N := 18) rfl ?_); refine zb (N := 18) (cs := #[.int .i64 0, .int .i64 0, .string ⟨#[]⟩, .int .i64 0]) (t := 27) ?_; intro G18 hg wa18 hbox hb; have K18 := zA hbox; have N18 := zA (SD.out.new (Nat.le_of_eq hg.symm)); have L18 := zA (show w0.heap.size ≤ G18 from hg ▸ SD.out.below.size); have M18 := zA (show w.heap.size ≤ G18 from hg ▸ ST.out.kept.1); have NE5_18 := zL K5 hg; have NE16_18 := zL K16 hg; replace SD := zA (SD.out.bel hb); replace ST := zA (ST.out.trans (Stp.of_below hb)); replace K5 := zB K5 hb; replace K16 := zB K16 hb; clear hb hbox hg; obtain ⟨_, _, _, _, _, _, _, _⟩ := zc4 K18; have d16_0 := (bC K16.out 0).trans rfl; have d16_1 := (bC K16.out 1).trans rfl; have d16_2 := (bC K16.out 2).trans rfl; have d16_3 := (bC K16.out 3).trans rfl; have n1 := NE16_18.out; have n2 := Ne.symm n1))
  go_ret2
  exact ⟨_, _, rfl, SD.out.set4 N18.out L18.out _ _ _ _, ST.out.set4 M18.out _ _ _ _⟩
theorem does_do {y : S27} {q i k : Int} (hq : q ≠ 1) (S : Side w0 w g u v m m) (hG : Good m) : Calls Try.prog 13 #[.pointer (some ⟨g, 0, none⟩), v, .agg #[.bool false, .int .i64 y.f0, .int .i64 y.f1, .string y.f2, .int .i64 y.f3, .int .i64 q, .int .i64 i, .int .i64 k]] w fun e w' => ∃ u' v', e = .returned (.tuple #[v', .bool true]) ∧ Side w0 w' g u' v' (doR m q i k).1 (doR m q i k).1 ∧ Stp w w' g u v u' v' := by
  obtain ⟨A, c, rfl⟩ := Kd.R_slice S.row
  have SD := zA S
  have ST := zA (Stp.refl (g := g) (u := u) (v := .slice A m.length c) w)
  have HG := zA hG
  have hl := hG.len
  have hu27 := Try.underlying27
  have hu29 := Try.underlying29
  have hu31 := Try.underlying31
  clear S hG
  go_enter Try.func13, Try.ntmps13
  have t1 : (q == 1) = false := beq_eq_false_iff_ne.mpr hq
  clear hq
  obtain ⟨r, hr⟩ : ∃ r, doR m q i k = r := ⟨_, rfl⟩
  rw [hr]
  obtain ⟨m', z, x⟩ := r
  have HR := zA hr
  clear hr
  have ex : (x == x) = true := beq_self_eq_true _
  have ez0 : (z.f0 == z.f0) = true := beq_self_eq_true _
  have ez1 : (z.f1 == z.f1) = true := beq_self_eq_true _
  have ez2 : (z.f2.toList == z.f2.toList) = true := beq_self_eq_true _
  have ez3 : (z.f3 == z.f3) = true := beq_self_eq_true _
  go_wp2_with (first | ((with_reducible refine gate_dst (N := 5) rfl ?_); refine zb (N := 5) (cs := #[.bool false, .int .i64 y.f0, .int .i64 y.f1, .string y.f2, .int .i64 y.f3, .int .i64 q, .int .i64 i, .int .i64 k]) (t := 31) ?_; intro G5 hg w5 hbox hb; have K5 := zA hbox; have N5 := zA (SD.out.new (Nat.le_of_eq hg.symm)); replace SD := zA (SD.out.bel hb); replace ST := zA (ST.out.trans (Stp.of_below hb)); clear hb hbox hg; have c0 := (bC K5.out 0).trans rfl; have c1 := (bC K5.out 1).trans rfl; have c2 := (bC K5.out 2).trans rfl; have c3 := (bC K5.out 3).trans rfl; have c4 := (bC K5.out 4).trans rfl; have c5 := (bC K5.out 5).trans rfl; have c6 := (bC K5.out 6).trans rfl; have c7 := (bC K5.out 7).trans rfl) | ((with_reducible refine gate_callee (f := 28) rfl ?_); refine zg (some 77) Try.func28 #[.slice A m.length c, .agg #[.int .i64 q, .int .i64 i, .int .i64 k]] ?_; (with_reducible refine (side_rdo HR.out HG.out SD.out).mono ?_); rintro e w7 ⟨v', rfl, hS, hT⟩; refine ⟨_, rfl, ?_⟩; have hk5 := hT.blk K5.out N5.out; replace K5 := zA hk5.1; replace N5 := zA hk5.2; replace SD := zA hS; replace ST := zA (ST.out.trans hT); clear hS hT hk5; have c0 := (bC K5.out 0).trans rfl; have c1 := (bC K5.out 1).trans rfl; have c2 := (bC K5.out 2).trans rfl; have c3 := (bC K5.out 3).trans rfl; have c4 := (bC K5.out 4).trans rfl; have c5 := (bC K5.out 5).trans rfl; have c6 := (bC K5.out 6).trans rfl; have c7 := (bC K5.out 7).trans rfl; obtain ⟨A7, c7_, rfl⟩ := Kd.R_slice SD.out.row) | ((with_reducible refine gate_dst (N := 16) rfl ?_); refine zb (N := 16) (cs := #[.int .i64 0, .int .i64 0, .string ⟨#[]⟩, .int .i64 0]) (t := 27) ?_; intro G16 hg wa16 hbox hb; have K16 := zA hbox; have N16 := zA (SD.out.new (Nat.le_of_eq hg.symm)); have L16 := zA (show w0.heap.size ≤ G16 from hg ▸ SD.out.below.size); have M16 := zA (show w.heap.size ≤ G16 from hg ▸ ST.out.kept.1); have NE5_16 := zL K5 hg; replace SD := zA (SD.out.bel hb); replace ST := zA (ST.out.trans (Stp.of_below hb)); replace K5 := zB K5 hb; clear hb hbox hg; obtain ⟨_, _, _, _, _, _, _, _⟩ := zc4 K16) | ((with_reducible refine gate_store (t := 27) (p := 16) rfl ?_); refine store_event (t := 27) (p := 16) (v := ?vo) (w1 := ((((wa16.setCell ⟨G16, 0, none⟩ (.int .i64 z.f0)).setCell ⟨G16, 1, none⟩ (.int .i64 z.f1)).setCell ⟨G16, 2, none⟩ (.string z.f2)).setCell ⟨G16, 3, none⟩ (.int .i64 z.f3))) ?hg ?ho ?hn ?hr ?_; (case ho => rfl); (case hg => rfl); (case hn => rfl); (case hr => first|(go_simp;done)|(go_simp;rfl)); intro ws16 hw; replace SD := zA (show Side w0 ws16 g _ _ _ _ from by rw [hw]; exact SD.out.set4 N16.out L16.out _ _ _ _); replace ST := zA (show Stp w ws16 g _ _ _ _ from by rw [hw]; exact ST.out.set4 M16.out _ _ _ _); replace K5 := zV hw K5; replace K16 := zVp hw (.cells #[.int .i64 z.f0, .int .i64 z.f1, .string z.f2, .int .i64 z.f3] 27 (0, 0)) K16; clear hw; have c0 := (bC K5.out 0).trans rfl; have c1 := (bC K5.out 1).trans rfl; have c2 := (bC K5.out 2).trans rfl; have c3 := (bC K5.out 3).trans rfl; have c4 := (bC K5.out 4).trans rfl; have c5 := (bC K5.out 5).trans rfl; have c6 := (bC K5.out 6).trans rfl; have c7 := (bC K5.out 7).trans rfl) | ((with_reducible refine gate_callee (f := 11) rfl ?_); refine zg (some 85) Try.func11 #[.pointer (some ⟨g, 0, none⟩), .agg #[.int .i64 q, .int .i64 i, .int .i64 k]] ?_; (with_reducible refine (side_do HR.out HG.out SD.out).mono ?_); rintro e w7 ⟨u', rfl, hS, hT⟩; refine ⟨_, rfl, ?_⟩; have hk5 := hT.blk K5.out N5.out; have hk11 := hT.blk K16.out N16.out; replace K5 := zA hk5.1; replace N5 := zA hk5.2; replace K16 := zA hk11.1; replace N16 := zA hk11.2; replace SD := zA hS; replace ST := zA (ST.out.trans hT); clear hS hT hk5 hk11; have c0 := (bC K5.out 0).trans rfl; have c1 := (bC K5.out 1).trans rfl; have c2 := (bC K5.out 2).trans rfl; have c3 := (bC K5.out 3).trans rfl; have c4 := (bC K5.out 4).trans rfl; have c5 := (bC K5.out 5).trans rfl; have c6 := (bC K5.out 6).trans rfl; have c7 := (bC K5.out 7).trans rfl) | ((with_reducible refine gate_dst (N := 18) rfl ?_); refine zb (N := 18) (cs := #[.int .i64 0, .int .i64 0, .string ⟨#[]⟩, .int .i64 0]) (t := 27) ?_; intro G18 hg wa18 hbox hb; have K18 := zA hbox; have N18 := zA (SD.out.new (Nat.le_of_eq hg.symm)); have L18 := zA (show w0.heap.size ≤ G18 from hg ▸ SD.out.below.size); have M18 := zA (show w.heap.size ≤ G18 from hg ▸ ST.out.kept.1); have NE5_18 := zL K5 hg; have NE16_18 := zL K16 hg; replace SD := zA (SD.out.bel hb); replace ST := zA (ST.out.trans (Stp.of_below hb)); replace K5 := zB K5 hb; replace K16 := zB K16 hb; clear hb hbox hg; obtain ⟨_, _, _, _, _, _, _, _⟩ := zc4 K18; have d16_0 := (bC K16.out 0).trans rfl; have d16_1 := (bC K16.out 1).trans rfl; have d16_2 := (bC K16.out 2).trans rfl; have d16_3 := (bC K16.out 3).trans rfl; have n1 := NE16_18.out; have n2 := Ne.symm n1))
  go_ret2
  exact ⟨_, _, rfl, SD.out.set4 N18.out L18.out _ _ _ _, ST.out.set4 M18.out _ _ _ _⟩
theorem does_calls (x : S31) (S : Side w0 w g u v m m) (hG : Good m) : Calls Try.prog 13 #[.pointer (some ⟨g, 0, none⟩), v, aV x] w fun e w' => ∃ u' v', e = .returned (.tuple #[v', .bool true]) ∧ Side w0 w' g u' v' (stepM m x) (stepM m x) ∧ Stp w w' g u v u' v' := by
  obtain ⟨b, y, ⟨q, i, k⟩⟩ := x
  unfold stepM
  cases b with
  | true => exact does_put S hG
  | false =>
    rw [if_neg (by simp)]
    by_cases hq : q = 1
    · subst hq
      cases hk : (bits BinOp.and IntKind.i64 k 1 == 1) with
      | true => exact does_take hk S hG
      | false => exact does_do1 hk S hG
    · exact does_do hq S hG
end
end Go.Proofs.Ytpcipmhblknokaa.Ch
