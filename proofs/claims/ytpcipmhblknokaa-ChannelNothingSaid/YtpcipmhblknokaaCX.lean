import Derived.Test.YtpcipmhblknokaaCV
/- What Do of the document does, by hand (part two): Cut, Double, Delay. -/
namespace Go.Proofs.Ytpcipmhblknokaa.Ch
open Go.RowKit Go.Proofs.Ytpcipmhblknokaa.XC Go.Proofs.YtpcipmhblknokaaW.PrintWords Go.Proofs.YtpcipmhblknokaaW.PrintLast Go.Proofs.YtpcipmhblknokaaW.PrintMore
attribute [local go_sem] max2_int min2_int max_two min_two max_three min_three max_four min_four   -- for this text's walks alone
set_option linter.unusedVariables false
set_option linter.unusedSimpArgs false
open List renaming setIfInBounds_toArray → xA, set_cons_zero → xB, set_cons_succ → xC
open Go.Proofs.YtpcipmhblknokaaW.PrintWords renaming blk_drewN → bN, blk_drew → bD, blk_alloc → bA, below_set → bS, blk_frozen → bF, blk_cell → bC, cell_far → cF, blk_far → bZ, blk_below → bB, pw_below_drewN → bwN, below_drew1 → bw1, below_alloc → bwA
open Go.Proofs.YtpcipmhblknokaaW.PrintZ
open Bool renaming true → T,false → F


set_option maxRecDepth 100000
set_option maxHeartbeats 8000000
section
variable {w0 w : World} {v : Value} {m : List S27}
theorem rdo_cut1 {i k : Int} (hi : idB i = false) (hB : Below w0.heap.size w0 w) (hR : Kd.R k27 27 w w0.heap.size (fun _ => True) v m) (hG : Good m) : Calls Try.prog 28 #[v, .agg #[.int .i64 7, .int .i64 i, .int .i64 k]] w fun e w' => ∃ v', e = .returned (.tuple #[v', gV z27, .int .i64 1]) ∧ Got w0 w w' v v' m := by
  obtain ⟨A, c, rfl, hc, hC⟩ := Kd.R_reads hR
  have hl := hG.len
  have hl63 := hC.2.1
  have HB := zA (Below.refl w.heap.size w)
  have HR := zA hR
  have HB0 := zA hB
  have HG := zA hG
  have hu27 := Try.underlying27
  have hu29 := Try.underlying29
  clear hR hB hG
  have HI := zA hi
  clear hi
  by_cases hi0 : 0 ≤ i
  · have hb0 : decide (0 ≤ i) = true := decide_eq_true hi0
    clear hi0
    go_enter Try.func28, Try.ntmps28
    go_wp2_with (first | ((with_reducible refine gate_dst (N := 3) rfl ?_); refine zb (N := 3) (cs := #[.int .i64 7, .int .i64 i, .int .i64 k]) (t := 29) ?_; intro G3 hg w3 hbox hb; have K3 := zA hbox; have GW3 := zN HB hg; replace HB := zS HB hb; clear hb hbox hg; obtain ⟨h0, h1, h2, _, _, _⟩ := zc3 K3) | ((with_reducible refine gate_dst (N := 5) rfl ?_); refine zb (N := 5) (cs := #[.int .i64 0, .int .i64 0, .string ⟨#[]⟩, .int .i64 0]) (t := 27) ?_; intro G5 hg w5 hbox hb; have K5 := zA hbox; have GW5 := zN HB hg; replace K3 := zB K3 hb; replace HB := zS HB hb; clear hb hbox hg; obtain ⟨h0, h1, h2, _, _, _⟩ := zc3 K3; obtain ⟨_, _, _, _, _, _, _, _⟩ := zc4 K5) | ((with_reducible refine gate_callee (f := 16) rfl ?_); refine zg (some 20) Try.func16 #[.slice A m.length c] ?_; (with_reducible refine (copy_calls (Kd.C_below hC HB.out) hc (by omega)).mono ?_); rintro e w6 ⟨vo, rfl, ho, hb⟩; refine ⟨_, rfl, ?_⟩; have HO := zA ho; have GO := zA (fresh_ne ho K5.out); replace K3 := zB K3 hb; replace K5 := zB K5 hb; replace HB := zS HB hb; clear hb ho; obtain ⟨A2, c2, rfl⟩ := Kd.R_slice HO.out; obtain ⟨h0, h1, h2, _, _, _⟩ := zc3 K3; obtain ⟨_, _, _, _, _, _, _, _⟩ := zc4 K5) | ((go_at_call 41); (with_reducible refine (beaconref11_number.calls i _ _ (rid_f i)).mono ?_); rintro e w8 ⟨rfl, hb⟩; rw [HI.out]; replace hb := drawn_below hb; replace K3 := zB K3 hb; replace K5 := zB K5 hb; replace HB := zS HB hb; clear hb; obtain ⟨h0, h1, h2, _, _, _⟩ := zc3 K3; obtain ⟨_, _, _, _, _, _, _, _⟩ := zc4 K5))
    refine bodyPost_ret (results_list (rs := [.tmp 4, .cell 5 27, .tmp 6]) rfl (by simp) (.tmp (.cell G5 27 #[.int .i64 0, .int .i64 0, .string ⟨#[]⟩, .int .i64 0] (0, 0) _ rfl (zF K5) Try.underlying27 rfl (by kernel_rfl) (.tmp .nil)))) rfl ?_
    exact ⟨_, rfl, (Got.same HB0.out HR.out HB.out).st4 HB0.out.size GW5.out (own_ne_of HR.out GW5.out) (.int .i64 0) (.int .i64 0) (.string ⟨#[]⟩) (.int .i64 0)⟩
  · have hb0 : decide (0 ≤ i) = false := decide_eq_false hi0
    clear hi0
    go_enter Try.func28, Try.ntmps28
    go_wp2_with (first | ((with_reducible refine gate_dst (N := 3) rfl ?_); refine zb (N := 3) (cs := #[.int .i64 7, .int .i64 i, .int .i64 k]) (t := 29) ?_; intro G3 hg w3 hbox hb; have K3 := zA hbox; have GW3 := zN HB hg; replace HB := zS HB hb; clear hb hbox hg; obtain ⟨h0, h1, h2, _, _, _⟩ := zc3 K3) | ((with_reducible refine gate_dst (N := 5) rfl ?_); refine zb (N := 5) (cs := #[.int .i64 0, .int .i64 0, .string ⟨#[]⟩, .int .i64 0]) (t := 27) ?_; intro G5 hg w5 hbox hb; have K5 := zA hbox; have GW5 := zN HB hg; replace K3 := zB K3 hb; replace HB := zS HB hb; clear hb hbox hg; obtain ⟨h0, h1, h2, _, _, _⟩ := zc3 K3; obtain ⟨_, _, _, _, _, _, _, _⟩ := zc4 K5) | ((with_reducible refine gate_callee (f := 16) rfl ?_); refine zg (some 20) Try.func16 #[.slice A m.length c] ?_; (with_reducible refine (copy_calls (Kd.C_below hC HB.out) hc (by omega)).mono ?_); rintro e w6 ⟨vo, rfl, ho, hb⟩; refine ⟨_, rfl, ?_⟩; have HO := zA ho; have GO := zA (fresh_ne ho K5.out); replace K3 := zB K3 hb; replace K5 := zB K5 hb; replace HB := zS HB hb; clear hb ho; obtain ⟨A2, c2, rfl⟩ := Kd.R_slice HO.out; obtain ⟨h0, h1, h2, _, _, _⟩ := zc3 K3; obtain ⟨_, _, _, _, _, _, _, _⟩ := zc4 K5) | ((go_at_call 41); (with_reducible refine (beaconref11_number.calls i _ _ (rid_f i)).mono ?_); rintro e w8 ⟨rfl, hb⟩; rw [HI.out]; replace hb := drawn_below hb; replace K3 := zB K3 hb; replace K5 := zB K5 hb; replace HB := zS HB hb; clear hb; obtain ⟨h0, h1, h2, _, _, _⟩ := zc3 K3; obtain ⟨_, _, _, _, _, _, _, _⟩ := zc4 K5))
    refine bodyPost_ret (results_list (rs := [.tmp 4, .cell 5 27, .tmp 6]) rfl (by simp) (.tmp (.cell G5 27 #[.int .i64 0, .int .i64 0, .string ⟨#[]⟩, .int .i64 0] (0, 0) _ rfl (zF K5) Try.underlying27 rfl (by kernel_rfl) (.tmp .nil)))) rfl ?_
    exact ⟨_, rfl, (Got.same HB0.out HR.out HB.out).st4 HB0.out.size GW5.out (own_ne_of HR.out GW5.out) (.int .i64 0) (.int .i64 0) (.string ⟨#[]⟩) (.int .i64 0)⟩
theorem rdo_cut2 {i k : Int} (hi : idB i = true) (hk : idB k = false) (hB : Below w0.heap.size w0 w) (hR : Kd.R k27 27 w w0.heap.size (fun _ => True) v m) (hG : Good m) : Calls Try.prog 28 #[v, .agg #[.int .i64 7, .int .i64 i, .int .i64 k]] w fun e w' => ∃ v', e = .returned (.tuple #[v', gV z27, .int .i64 1]) ∧ Got w0 w w' v v' m := by
  obtain ⟨A, c, rfl, hc, hC⟩ := Kd.R_reads hR
  have hl := hG.len
  have hl63 := hC.2.1
  have HB := zA (Below.refl w.heap.size w)
  have HR := zA hR
  have HB0 := zA hB
  have HG := zA hG
  have hu27 := Try.underlying27
  have hu29 := Try.underlying29
  clear hR hB hG
  have HI := zA hi
  have HJ := zA hk
  clear hi hk
  by_cases hi0 : 0 ≤ i
  · have hb0 : decide (0 ≤ i) = true := decide_eq_true hi0
    clear hi0
    go_enter Try.func28, Try.ntmps28
    go_wp2_with (first | ((with_reducible refine gate_dst (N := 3) rfl ?_); refine zb (N := 3) (cs := #[.int .i64 7, .int .i64 i, .int .i64 k]) (t := 29) ?_; intro G3 hg w3 hbox hb; have K3 := zA hbox; have GW3 := zN HB hg; replace HB := zS HB hb; clear hb hbox hg; obtain ⟨h0, h1, h2, _, _, _⟩ := zc3 K3) | ((with_reducible refine gate_dst (N := 5) rfl ?_); refine zb (N := 5) (cs := #[.int .i64 0, .int .i64 0, .string ⟨#[]⟩, .int .i64 0]) (t := 27) ?_; intro G5 hg w5 hbox hb; have K5 := zA hbox; have GW5 := zN HB hg; replace K3 := zB K3 hb; replace HB := zS HB hb; clear hb hbox hg; obtain ⟨h0, h1, h2, _, _, _⟩ := zc3 K3; obtain ⟨_, _, _, _, _, _, _, _⟩ := zc4 K5) | ((with_reducible refine gate_callee (f := 16) rfl ?_); refine zg (some 20) Try.func16 #[.slice A m.length c] ?_; (with_reducible refine (copy_calls (Kd.C_below hC HB.out) hc (by omega)).mono ?_); rintro e w6 ⟨vo, rfl, ho, hb⟩; refine ⟨_, rfl, ?_⟩; have HO := zA ho; have GO := zA (fresh_ne ho K5.out); replace K3 := zB K3 hb; replace K5 := zB K5 hb; replace HB := zS HB hb; clear hb ho; obtain ⟨A2, c2, rfl⟩ := Kd.R_slice HO.out; obtain ⟨h0, h1, h2, _, _, _⟩ := zc3 K3; obtain ⟨_, _, _, _, _, _, _, _⟩ := zc4 K5) | ((go_at_call 41); (with_reducible refine (beaconref11_number.calls i _ _ (rid_f i)).mono ?_); rintro e w8 ⟨rfl, hb⟩; rw [HI.out]; replace hb := drawn_below hb; replace K3 := zB K3 hb; replace K5 := zB K5 hb; replace HB := zS HB hb; clear hb; obtain ⟨h0, h1, h2, _, _, _⟩ := zc3 K3; obtain ⟨_, _, _, _, _, _, _, _⟩ := zc4 K5) | ((go_at_call 41); (with_reducible refine (beaconref11_number.calls k _ _ (rid_f k)).mono ?_); rintro e w8 ⟨rfl, hb⟩; rw [HJ.out]; replace hb := drawn_below hb; replace K3 := zB K3 hb; replace K5 := zB K5 hb; replace HB := zS HB hb; clear hb; obtain ⟨h0, h1, h2, _, _, _⟩ := zc3 K3; obtain ⟨_, _, _, _, _, _, _, _⟩ := zc4 K5))
    refine bodyPost_ret (results_list (rs := [.tmp 4, .cell 5 27, .tmp 6]) rfl (by simp) (.tmp (.cell G5 27 #[.int .i64 0, .int .i64 0, .string ⟨#[]⟩, .int .i64 0] (0, 0) _ rfl (zF K5) Try.underlying27 rfl (by kernel_rfl) (.tmp .nil)))) rfl ?_
    exact ⟨_, rfl, (Got.same HB0.out HR.out HB.out).st4 HB0.out.size GW5.out (own_ne_of HR.out GW5.out) (.int .i64 0) (.int .i64 0) (.string ⟨#[]⟩) (.int .i64 0)⟩
  · have hb0 : decide (0 ≤ i) = false := decide_eq_false hi0
    clear hi0
    go_enter Try.func28, Try.ntmps28
    go_wp2_with (first | ((with_reducible refine gate_dst (N := 3) rfl ?_); refine zb (N := 3) (cs := #[.int .i64 7, .int .i64 i, .int .i64 k]) (t := 29) ?_; intro G3 hg w3 hbox hb; have K3 := zA hbox; have GW3 := zN HB hg; replace HB := zS HB hb; clear hb hbox hg; obtain ⟨h0, h1, h2, _, _, _⟩ := zc3 K3) | ((with_reducible refine gate_dst (N := 5) rfl ?_); refine zb (N := 5) (cs := #[.int .i64 0, .int .i64 0, .string ⟨#[]⟩, .int .i64 0]) (t := 27) ?_; intro G5 hg w5 hbox hb; have K5 := zA hbox; have GW5 := zN HB hg; replace K3 := zB K3 hb; replace HB := zS HB hb; clear hb hbox hg; obtain ⟨h0, h1, h2, _, _, _⟩ := zc3 K3; obtain ⟨_, _, _, _, _, _, _, _⟩ := zc4 K5) | ((with_reducible refine gate_callee (f := 16) rfl ?_); refine zg (some 20) Try.func16 #[.slice A m.length c] ?_; (with_reducible refine (copy_calls (Kd.C_below hC HB.out) hc (by omega)).mono ?_); rintro e w6 ⟨vo, rfl, ho, hb⟩; refine ⟨_, rfl, ?_⟩; have HO := zA ho; have GO := zA (fresh_ne ho K5.out); replace K3 := zB K3 hb; replace K5 := zB K5 hb; replace HB := zS HB hb; clear hb ho; obtain ⟨A2, c2, rfl⟩ := Kd.R_slice HO.out; obtain ⟨h0, h1, h2, _, _, _⟩ := zc3 K3; obtain ⟨_, _, _, _, _, _, _, _⟩ := zc4 K5) | ((go_at_call 41); (with_reducible refine (beaconref11_number.calls i _ _ (rid_f i)).mono ?_); rintro e w8 ⟨rfl, hb⟩; rw [HI.out]; replace hb := drawn_below hb; replace K3 := zB K3 hb; replace K5 := zB K5 hb; replace HB := zS HB hb; clear hb; obtain ⟨h0, h1, h2, _, _, _⟩ := zc3 K3; obtain ⟨_, _, _, _, _, _, _, _⟩ := zc4 K5) | ((go_at_call 41); (with_reducible refine (beaconref11_number.calls k _ _ (rid_f k)).mono ?_); rintro e w8 ⟨rfl, hb⟩; rw [HJ.out]; replace hb := drawn_below hb; replace K3 := zB K3 hb; replace K5 := zB K5 hb; replace HB := zS HB hb; clear hb; obtain ⟨h0, h1, h2, _, _, _⟩ := zc3 K3; obtain ⟨_, _, _, _, _, _, _, _⟩ := zc4 K5))
    refine bodyPost_ret (results_list (rs := [.tmp 4, .cell 5 27, .tmp 6]) rfl (by simp) (.tmp (.cell G5 27 #[.int .i64 0, .int .i64 0, .string ⟨#[]⟩, .int .i64 0] (0, 0) _ rfl (zF K5) Try.underlying27 rfl (by kernel_rfl) (.tmp .nil)))) rfl ?_
    exact ⟨_, rfl, (Got.same HB0.out HR.out HB.out).st4 HB0.out.size GW5.out (own_ne_of HR.out GW5.out) (.int .i64 0) (.int .i64 0) (.string ⟨#[]⟩) (.int .i64 0)⟩
theorem rdo_cut3 {i k : Int} (hi : idB i = true) (hk : idB k = true) (he : i = k) (hB : Below w0.heap.size w0 w) (hR : Kd.R k27 27 w w0.heap.size (fun _ => True) v m) (hG : Good m) : Calls Try.prog 28 #[v, .agg #[.int .i64 7, .int .i64 i, .int .i64 k]] w fun e w' => ∃ v', e = .returned (.tuple #[v', gV z27, .int .i64 1]) ∧ Got w0 w w' v v' m := by
  obtain ⟨A, c, rfl, hc, hC⟩ := Kd.R_reads hR
  have hl := hG.len
  have hl63 := hC.2.1
  have HB := zA (Below.refl w.heap.size w)
  have HR := zA hR
  have HB0 := zA hB
  have HG := zA hG
  have hu27 := Try.underlying27
  have hu29 := Try.underlying29
  clear hR hB hG
  have HI := zA hi
  have HJ := zA hk
  have e1 : (i == k) = true := beq_iff_eq.mpr he
  clear hi hk he
  by_cases hi0 : 0 ≤ i
  · have hb0 : decide (0 ≤ i) = true := decide_eq_true hi0
    clear hi0
    go_enter Try.func28, Try.ntmps28
    go_wp2_with (first | ((with_reducible refine gate_dst (N := 3) rfl ?_); refine zb (N := 3) (cs := #[.int .i64 7, .int .i64 i, .int .i64 k]) (t := 29) ?_; intro G3 hg w3 hbox hb; have K3 := zA hbox; have GW3 := zN HB hg; replace HB := zS HB hb; clear hb hbox hg; obtain ⟨h0, h1, h2, _, _, _⟩ := zc3 K3) | ((with_reducible refine gate_dst (N := 5) rfl ?_); refine zb (N := 5) (cs := #[.int .i64 0, .int .i64 0, .string ⟨#[]⟩, .int .i64 0]) (t := 27) ?_; intro G5 hg w5 hbox hb; have K5 := zA hbox; have GW5 := zN HB hg; replace K3 := zB K3 hb; replace HB := zS HB hb; clear hb hbox hg; obtain ⟨h0, h1, h2, _, _, _⟩ := zc3 K3; obtain ⟨_, _, _, _, _, _, _, _⟩ := zc4 K5) | ((with_reducible refine gate_callee (f := 16) rfl ?_); refine zg (some 20) Try.func16 #[.slice A m.length c] ?_; (with_reducible refine (copy_calls (Kd.C_below hC HB.out) hc (by omega)).mono ?_); rintro e w6 ⟨vo, rfl, ho, hb⟩; refine ⟨_, rfl, ?_⟩; have HO := zA ho; have GO := zA (fresh_ne ho K5.out); replace K3 := zB K3 hb; replace K5 := zB K5 hb; replace HB := zS HB hb; clear hb ho; obtain ⟨A2, c2, rfl⟩ := Kd.R_slice HO.out; obtain ⟨h0, h1, h2, _, _, _⟩ := zc3 K3; obtain ⟨_, _, _, _, _, _, _, _⟩ := zc4 K5) | ((go_at_call 41); (with_reducible refine (beaconref11_number.calls i _ _ (rid_f i)).mono ?_); rintro e w8 ⟨rfl, hb⟩; rw [HI.out]; replace hb := drawn_below hb; replace K3 := zB K3 hb; replace K5 := zB K5 hb; replace HB := zS HB hb; clear hb; obtain ⟨h0, h1, h2, _, _, _⟩ := zc3 K3; obtain ⟨_, _, _, _, _, _, _, _⟩ := zc4 K5) | ((go_at_call 41); (with_reducible refine (beaconref11_number.calls k _ _ (rid_f k)).mono ?_); rintro e w8 ⟨rfl, hb⟩; rw [HJ.out]; replace hb := drawn_below hb; replace K3 := zB K3 hb; replace K5 := zB K5 hb; replace HB := zS HB hb; clear hb; obtain ⟨h0, h1, h2, _, _, _⟩ := zc3 K3; obtain ⟨_, _, _, _, _, _, _, _⟩ := zc4 K5))
    refine bodyPost_ret (results_list (rs := [.tmp 4, .cell 5 27, .tmp 6]) rfl (by simp) (.tmp (.cell G5 27 #[.int .i64 0, .int .i64 0, .string ⟨#[]⟩, .int .i64 0] (0, 0) _ rfl (zF K5) Try.underlying27 rfl (by kernel_rfl) (.tmp .nil)))) rfl ?_
    exact ⟨_, rfl, (Got.same HB0.out HR.out HB.out).st4 HB0.out.size GW5.out (own_ne_of HR.out GW5.out) (.int .i64 0) (.int .i64 0) (.string ⟨#[]⟩) (.int .i64 0)⟩
  · have hb0 : decide (0 ≤ i) = false := decide_eq_false hi0
    clear hi0
    go_enter Try.func28, Try.ntmps28
    go_wp2_with (first | ((with_reducible refine gate_dst (N := 3) rfl ?_); refine zb (N := 3) (cs := #[.int .i64 7, .int .i64 i, .int .i64 k]) (t := 29) ?_; intro G3 hg w3 hbox hb; have K3 := zA hbox; have GW3 := zN HB hg; replace HB := zS HB hb; clear hb hbox hg; obtain ⟨h0, h1, h2, _, _, _⟩ := zc3 K3) | ((with_reducible refine gate_dst (N := 5) rfl ?_); refine zb (N := 5) (cs := #[.int .i64 0, .int .i64 0, .string ⟨#[]⟩, .int .i64 0]) (t := 27) ?_; intro G5 hg w5 hbox hb; have K5 := zA hbox; have GW5 := zN HB hg; replace K3 := zB K3 hb; replace HB := zS HB hb; clear hb hbox hg; obtain ⟨h0, h1, h2, _, _, _⟩ := zc3 K3; obtain ⟨_, _, _, _, _, _, _, _⟩ := zc4 K5) | ((with_reducible refine gate_callee (f := 16) rfl ?_); refine zg (some 20) Try.func16 #[.slice A m.length c] ?_; (with_reducible refine (copy_calls (Kd.C_below hC HB.out) hc (by omega)).mono ?_); rintro e w6 ⟨vo, rfl, ho, hb⟩; refine ⟨_, rfl, ?_⟩; have HO := zA ho; have GO := zA (fresh_ne ho K5.out); replace K3 := zB K3 hb; replace K5 := zB K5 hb; replace HB := zS HB hb; clear hb ho; obtain ⟨A2, c2, rfl⟩ := Kd.R_slice HO.out; obtain ⟨h0, h1, h2, _, _, _⟩ := zc3 K3; obtain ⟨_, _, _, _, _, _, _, _⟩ := zc4 K5) | ((go_at_call 41); (with_reducible refine (beaconref11_number.calls i _ _ (rid_f i)).mono ?_); rintro e w8 ⟨rfl, hb⟩; rw [HI.out]; replace hb := drawn_below hb; replace K3 := zB K3 hb; replace K5 := zB K5 hb; replace HB := zS HB hb; clear hb; obtain ⟨h0, h1, h2, _, _, _⟩ := zc3 K3; obtain ⟨_, _, _, _, _, _, _, _⟩ := zc4 K5) | ((go_at_call 41); (with_reducible refine (beaconref11_number.calls k _ _ (rid_f k)).mono ?_); rintro e w8 ⟨rfl, hb⟩; rw [HJ.out]; replace hb := drawn_below hb; replace K3 := zB K3 hb; replace K5 := zB K5 hb; replace HB := zS HB hb; clear hb; obtain ⟨h0, h1, h2, _, _, _⟩ := zc3 K3; obtain ⟨_, _, _, _, _, _, _, _⟩ := zc4 K5))
    refine bodyPost_ret (results_list (rs := [.tmp 4, .cell 5 27, .tmp 6]) rfl (by simp) (.tmp (.cell G5 27 #[.int .i64 0, .int .i64 0, .string ⟨#[]⟩, .int .i64 0] (0, 0) _ rfl (zF K5) Try.underlying27 rfl (by kernel_rfl) (.tmp .nil)))) rfl ?_
    exact ⟨_, rfl, (Got.same HB0.out HR.out HB.out).st4 HB0.out.size GW5.out (own_ne_of HR.out GW5.out) (.int .i64 0) (.int .i64 0) (.string ⟨#[]⟩) (.int .i64 0)⟩
theorem rdo_cut {i k : Int} (hi : idB i = true) (hk : idB k = true) (he : i ≠ k) (hB : Below w0.heap.size w0 w) (hR : Kd.R k27 27 w w0.heap.size (fun _ => True) v m) (hG : Good m) : Calls Try.prog 28 #[v, .agg #[.int .i64 7, .int .i64 i, .int .i64 k]] w fun e w' => ∃ v', e = .returned (.tuple #[v', gV z27, .int .i64 0]) ∧ Got w0 w w' v v' (keepB i k m) := by
  obtain ⟨A, c, rfl, hc, hC⟩ := Kd.R_reads hR
  have hl := hG.len
  have hl63 := hC.2.1
  have HB := zA (Below.refl w.heap.size w)
  have HR := zA hR
  have HB0 := zA hB
  have HG := zA hG
  have hu27 := Try.underlying27
  have hu29 := Try.underlying29
  clear hR hB hG
  have HI := zA hi
  have HJ := zA hk
  have e1 : (i == k) = false := beq_eq_false_iff_ne.mpr he
  clear hi hk he
  by_cases hi0 : 0 ≤ i
  · have hb0 : decide (0 ≤ i) = true := decide_eq_true hi0
    clear hi0
    go_enter Try.func28, Try.ntmps28
    go_wp2_with (first | ((with_reducible refine gate_dst (N := 3) rfl ?_); refine zb (N := 3) (cs := #[.int .i64 7, .int .i64 i, .int .i64 k]) (t := 29) ?_; intro G3 hg w3 hbox hb; have K3 := zA hbox; have GW3 := zN HB hg; replace HB := zS HB hb; clear hb hbox hg; obtain ⟨h0, h1, h2, _, _, _⟩ := zc3 K3) | ((with_reducible refine gate_dst (N := 5) rfl ?_); refine zb (N := 5) (cs := #[.int .i64 0, .int .i64 0, .string ⟨#[]⟩, .int .i64 0]) (t := 27) ?_; intro G5 hg w5 hbox hb; have K5 := zA hbox; have GW5 := zN HB hg; replace K3 := zB K3 hb; replace HB := zS HB hb; clear hb hbox hg; obtain ⟨h0, h1, h2, _, _, _⟩ := zc3 K3; obtain ⟨_, _, _, _, _, _, _, _⟩ := zc4 K5) | ((with_reducible refine gate_callee (f := 16) rfl ?_); refine zg (some 20) Try.func16 #[.slice A m.length c] ?_; (with_reducible refine (copy_calls (Kd.C_below hC HB.out) hc (by omega)).mono ?_); rintro e w6 ⟨vo, rfl, ho, hb⟩; refine ⟨_, rfl, ?_⟩; have HO := zA ho; have GO := zA (fresh_ne ho K5.out); replace K3 := zB K3 hb; replace K5 := zB K5 hb; replace HB := zS HB hb; clear hb ho; obtain ⟨A2, c2, rfl⟩ := Kd.R_slice HO.out; obtain ⟨h0, h1, h2, _, _, _⟩ := zc3 K3; obtain ⟨_, _, _, _, _, _, _, _⟩ := zc4 K5) | ((go_at_call 41); (with_reducible refine (beaconref11_number.calls i _ _ (rid_f i)).mono ?_); rintro e w8 ⟨rfl, hb⟩; rw [HI.out]; replace hb := drawn_below hb; replace K3 := zB K3 hb; replace K5 := zB K5 hb; replace HB := zS HB hb; clear hb; obtain ⟨h0, h1, h2, _, _, _⟩ := zc3 K3; obtain ⟨_, _, _, _, _, _, _, _⟩ := zc4 K5) | ((go_at_call 41); (with_reducible refine (beaconref11_number.calls k _ _ (rid_f k)).mono ?_); rintro e w8 ⟨rfl, hb⟩; rw [HJ.out]; replace hb := drawn_below hb; replace K3 := zB K3 hb; replace K5 := zB K5 hb; replace HB := zS HB hb; clear hb; obtain ⟨h0, h1, h2, _, _, _⟩ := zc3 K3; obtain ⟨_, _, _, _, _, _, _, _⟩ := zc4 K5) | ((with_reducible refine gate_callee (f := 42) rfl ?_); refine zg (some 65) Try.func42 #[.slice A m.length c, .int .i64 i, .int .i64 k] ?_; (with_reducible refine (beaconref11_cut.calls (m.length + 1) A c m i k _ _ (Kd.C_below hC HB.out) hc (rcut_f hl i k)).mono ?_); rintro e w7 ⟨v', rfl, ho, hb⟩; refine ⟨_, rfl, ?_⟩; have HX := zA (Got.fresh (v := .slice A m.length c) HB0.out HB.out ho hb); have NE := zA (fresh_ne ho K5.out); obtain ⟨A7, c7, rfl⟩ := Kd.R_slice ho; replace K5 := zB K5 hb; clear ho hb; obtain ⟨_, _, _, _, _, _, _, _⟩ := zc4 K5))
    refine bodyPost_ret (results_list (rs := [.tmp 4, .cell 5 27, .tmp 6]) rfl (by simp) (.tmp (.cell G5 27 #[.int .i64 0, .int .i64 0, .string ⟨#[]⟩, .int .i64 0] (0, 0) _ rfl (zF K5) Try.underlying27 rfl (by kernel_rfl) (.tmp .nil)))) rfl ?_
    exact ⟨_, rfl, HX.out.st4 HB0.out.size GW5.out NE.out (.int .i64 0) (.int .i64 0) (.string ⟨#[]⟩) (.int .i64 0)⟩
  · have hb0 : decide (0 ≤ i) = false := decide_eq_false hi0
    clear hi0
    go_enter Try.func28, Try.ntmps28
    go_wp2_with (first | ((with_reducible refine gate_dst (N := 3) rfl ?_); refine zb (N := 3) (cs := #[.int .i64 7, .int .i64 i, .int .i64 k]) (t := 29) ?_; intro G3 hg w3 hbox hb; have K3 := zA hbox; have GW3 := zN HB hg; replace HB := zS HB hb; clear hb hbox hg; obtain ⟨h0, h1, h2, _, _, _⟩ := zc3 K3) | ((with_reducible refine gate_dst (N := 5) rfl ?_); refine zb (N := 5) (cs := #[.int .i64 0, .int .i64 0, .string ⟨#[]⟩, .int .i64 0]) (t := 27) ?_; intro G5 hg w5 hbox hb; have K5 := zA hbox; have GW5 := zN HB hg; replace K3 := zB K3 hb; replace HB := zS HB hb; clear hb hbox hg; obtain ⟨h0, h1, h2, _, _, _⟩ := zc3 K3; obtain ⟨_, _, _, _, _, _, _, _⟩ := zc4 K5) | ((with_reducible refine gate_callee (f := 16) rfl ?_); refine zg (some 20) Try.func16 #[.slice A m.length c] ?_; (with_reducible refine (copy_calls (Kd.C_below hC HB.out) hc (by omega)).mono ?_); rintro e w6 ⟨vo, rfl, ho, hb⟩; refine ⟨_, rfl, ?_⟩; have HO := zA ho; have GO := zA (fresh_ne ho K5.out); replace K3 := zB K3 hb; replace K5 := zB K5 hb; replace HB := zS HB hb; clear hb ho; obtain ⟨A2, c2, rfl⟩ := Kd.R_slice HO.out; obtain ⟨h0, h1, h2, _, _, _⟩ := zc3 K3; obtain ⟨_, _, _, _, _, _, _, _⟩ := zc4 K5) | ((go_at_call 41); (with_reducible refine (beaconref11_number.calls i _ _ (rid_f i)).mono ?_); rintro e w8 ⟨rfl, hb⟩; rw [HI.out]; replace hb := drawn_below hb; replace K3 := zB K3 hb; replace K5 := zB K5 hb; replace HB := zS HB hb; clear hb; obtain ⟨h0, h1, h2, _, _, _⟩ := zc3 K3; obtain ⟨_, _, _, _, _, _, _, _⟩ := zc4 K5) | ((go_at_call 41); (with_reducible refine (beaconref11_number.calls k _ _ (rid_f k)).mono ?_); rintro e w8 ⟨rfl, hb⟩; rw [HJ.out]; replace hb := drawn_below hb; replace K3 := zB K3 hb; replace K5 := zB K5 hb; replace HB := zS HB hb; clear hb; obtain ⟨h0, h1, h2, _, _, _⟩ := zc3 K3; obtain ⟨_, _, _, _, _, _, _, _⟩ := zc4 K5) | ((with_reducible refine gate_callee (f := 42) rfl ?_); refine zg (some 65) Try.func42 #[.slice A m.length c, .int .i64 i, .int .i64 k] ?_; (with_reducible refine (beaconref11_cut.calls (m.length + 1) A c m i k _ _ (Kd.C_below hC HB.out) hc (rcut_f hl i k)).mono ?_); rintro e w7 ⟨v', rfl, ho, hb⟩; refine ⟨_, rfl, ?_⟩; have HX := zA (Got.fresh (v := .slice A m.length c) HB0.out HB.out ho hb); have NE := zA (fresh_ne ho K5.out); obtain ⟨A7, c7, rfl⟩ := Kd.R_slice ho; replace K5 := zB K5 hb; clear ho hb; obtain ⟨_, _, _, _, _, _, _, _⟩ := zc4 K5))
    refine bodyPost_ret (results_list (rs := [.tmp 4, .cell 5 27, .tmp 6]) rfl (by simp) (.tmp (.cell G5 27 #[.int .i64 0, .int .i64 0, .string ⟨#[]⟩, .int .i64 0] (0, 0) _ rfl (zF K5) Try.underlying27 rfl (by kernel_rfl) (.tmp .nil)))) rfl ?_
    exact ⟨_, rfl, HX.out.st4 HB0.out.size GW5.out NE.out (.int .i64 0) (.int .i64 0) (.string ⟨#[]⟩) (.int .i64 0)⟩
theorem rdo_drop {k : Int} {n : Nat} {y : S27} (hy : m[n]? = some y) (hB : Below w0.heap.size w0 w) (hR : Kd.R k27 27 w w0.heap.size (fun _ => True) v m) (hG : Good m) : Calls Try.prog 28 #[v, .agg #[.int .i64 2, .int .i64 n, .int .i64 k]] w fun e w' => ∃ v', e = .returned (.tuple #[v', gV z27, .int .i64 0]) ∧ Got w0 w w' v v' (m.eraseIdx n) := by
  obtain ⟨b, c, rfl, _, _⟩ := row_y hR hy
  obtain ⟨_, _, hv_, hc, hC⟩ := Kd.R_reads hR
  cases hv_
  have hl := hG.len
  have hl63 := hC.2.1
  have HB := zA (Below.refl w.heap.size w)
  have HR := zA hR
  have HB0 := zA hB
  have HG := zA hG
  have hu27 := Try.underlying27
  have hu29 := Try.underlying29
  clear hR hB hG
  have hn := lt_y hy
  have q0 : (0 ≤ (n : Int)) = True := eq_true (by omega)
  have q1 : ((n : Int) < (m.length : Int)) = True := eq_true (by omega)
  have r0 : decide (0 ≤ (n : Int)) = true := decide_eq_true (by omega)
  have r1 : decide ((n : Int) < (m.length : Int)) = true := decide_eq_true (by omega)
  have HY := zA hy
  clear hy hn
  go_enter Try.func28, Try.ntmps28
  go_wp2_with (first | ((with_reducible refine gate_dst (N := 3) rfl ?_); refine zb (N := 3) (cs := #[.int .i64 2, .int .i64 n, .int .i64 k]) (t := 29) ?_; intro G3 hg w3 hbox hb; have K3 := zA hbox; have GW3 := zN HB hg; replace HB := zS HB hb; clear hb hbox hg; obtain ⟨h0, h1, h2, _, _, _⟩ := zc3 K3) | ((with_reducible refine gate_dst (N := 5) rfl ?_); refine zb (N := 5) (cs := #[.int .i64 0, .int .i64 0, .string ⟨#[]⟩, .int .i64 0]) (t := 27) ?_; intro G5 hg w5 hbox hb; have K5 := zA hbox; have GW5 := zN HB hg; replace K3 := zB K3 hb; replace HB := zS HB hb; clear hb hbox hg; obtain ⟨h0, h1, h2, _, _, _⟩ := zc3 K3; obtain ⟨_, _, _, _, _, _, _, _⟩ := zc4 K5) | ((with_reducible refine gate_callee (f := 16) rfl ?_); refine zg (some 20) Try.func16 #[.slice (some ⟨b, 0, none⟩) m.length c] ?_; (with_reducible refine (copy_calls (Kd.C_below hC HB.out) hc (by omega)).mono ?_); rintro e w6 ⟨vo, rfl, ho, hb⟩; refine ⟨_, rfl, ?_⟩; have HO := zA ho; have GO := zA (fresh_ne ho K5.out); replace K3 := zB K3 hb; replace K5 := zB K5 hb; replace HB := zS HB hb; clear hb ho; obtain ⟨A2, c2, rfl⟩ := Kd.R_slice HO.out; obtain ⟨h0, h1, h2, _, _, _⟩ := zc3 K3; obtain ⟨_, _, _, _, _, _, _, _⟩ := zc4 K5; obtain ⟨b2, cap2, hu2, ⟨x0, x1, x2, x3⟩, _⟩ := row_y (Kd.R_below HR.out HB.out) HY.out; cases hu2) | ((with_reducible refine gate_callee (f := 39) rfl ?_); refine zg (some 83) Try.func39 #[.slice (some ⟨b, 0, none⟩) m.length c, .int .i64 n] ?_; (with_reducible refine (beaconref11_without.calls (m.length + 1) _ c m n _ _ (Kd.C_below hC HB.out) hc (wo_f hl (lt_y HY.out))).mono ?_); rintro e w7 ⟨v', rfl, ho, hb⟩; refine ⟨_, rfl, ?_⟩; have HX := zA (Got.fresh (v := .slice (some ⟨b, 0, none⟩) m.length c) HB0.out HB.out ho hb); have NE := zA (fresh_ne ho K5.out); obtain ⟨A7, c7, rfl⟩ := Kd.R_slice ho; replace K5 := zB K5 hb; clear ho hb; obtain ⟨_, _, _, _, _, _, _, _⟩ := zc4 K5))
  refine bodyPost_ret (results_list (rs := [.tmp 4, .cell 5 27, .tmp 6]) rfl (by simp) (.tmp (.cell G5 27 #[.int .i64 0, .int .i64 0, .string ⟨#[]⟩, .int .i64 0] (0, 0) _ rfl (zF K5) Try.underlying27 rfl (by kernel_rfl) (.tmp .nil)))) rfl ?_
  exact ⟨_, rfl, HX.out.st4 HB0.out.size GW5.out NE.out (.int .i64 0) (.int .i64 0) (.string ⟨#[]⟩) (.int .i64 0)⟩
theorem rdo_full {k : Int} {n : Nat} {y : S27} (hy : m[n]? = some y) (hf : 65536 ≤ m.length) (hB : Below w0.heap.size w0 w) (hR : Kd.R k27 27 w w0.heap.size (fun _ => True) v m) (hG : Good m) : Calls Try.prog 28 #[v, .agg #[.int .i64 3, .int .i64 n, .int .i64 k]] w fun e w' => ∃ v', e = .returned (.tuple #[v', gV z27, .int .i64 2]) ∧ Got w0 w w' v v' m := by
  obtain ⟨b, c, rfl, _, _⟩ := row_y hR hy
  obtain ⟨_, _, hv_, hc, hC⟩ := Kd.R_reads hR
  cases hv_
  have hl := hG.len
  have hl63 := hC.2.1
  have HB := zA (Below.refl w.heap.size w)
  have HR := zA hR
  have HB0 := zA hB
  have HG := zA hG
  have hu27 := Try.underlying27
  have hu29 := Try.underlying29
  clear hR hB hG
  have hn := lt_y hy
  have q0 : (0 ≤ (n : Int)) = True := eq_true (by omega)
  have q1 : ((n : Int) < (m.length : Int)) = True := eq_true (by omega)
  have r0 : decide (0 ≤ (n : Int)) = true := decide_eq_true (by omega)
  have r1 : decide ((n : Int) < (m.length : Int)) = true := decide_eq_true (by omega)
  have HY := zA hy
  clear hy hn
  have t1 : decide (65536 ≤ (m.length : Int)) = true := decide_eq_true (by omega)
  have t2 : decide (65536 ≤ m.length) = true := decide_eq_true hf
  clear hf
  go_enter Try.func28, Try.ntmps28
  go_wp2_with (first | ((with_reducible refine gate_dst (N := 3) rfl ?_); refine zb (N := 3) (cs := #[.int .i64 3, .int .i64 n, .int .i64 k]) (t := 29) ?_; intro G3 hg w3 hbox hb; have K3 := zA hbox; have GW3 := zN HB hg; replace HB := zS HB hb; clear hb hbox hg; obtain ⟨h0, h1, h2, _, _, _⟩ := zc3 K3) | ((with_reducible refine gate_dst (N := 5) rfl ?_); refine zb (N := 5) (cs := #[.int .i64 0, .int .i64 0, .string ⟨#[]⟩, .int .i64 0]) (t := 27) ?_; intro G5 hg w5 hbox hb; have K5 := zA hbox; have GW5 := zN HB hg; replace K3 := zB K3 hb; replace HB := zS HB hb; clear hb hbox hg; obtain ⟨h0, h1, h2, _, _, _⟩ := zc3 K3; obtain ⟨_, _, _, _, _, _, _, _⟩ := zc4 K5) | ((with_reducible refine gate_callee (f := 16) rfl ?_); refine zg (some 20) Try.func16 #[.slice (some ⟨b, 0, none⟩) m.length c] ?_; (with_reducible refine (copy_calls (Kd.C_below hC HB.out) hc (by omega)).mono ?_); rintro e w6 ⟨vo, rfl, ho, hb⟩; refine ⟨_, rfl, ?_⟩; have HO := zA ho; have GO := zA (fresh_ne ho K5.out); replace K3 := zB K3 hb; replace K5 := zB K5 hb; replace HB := zS HB hb; clear hb ho; obtain ⟨A2, c2, rfl⟩ := Kd.R_slice HO.out; obtain ⟨h0, h1, h2, _, _, _⟩ := zc3 K3; obtain ⟨_, _, _, _, _, _, _, _⟩ := zc4 K5; obtain ⟨b2, cap2, hu2, ⟨x0, x1, x2, x3⟩, _⟩ := row_y (Kd.R_below HR.out HB.out) HY.out; cases hu2))
  refine bodyPost_ret (results_list (rs := [.tmp 4, .cell 5 27, .tmp 6]) rfl (by simp) (.tmp (.cell G5 27 #[.int .i64 0, .int .i64 0, .string ⟨#[]⟩, .int .i64 0] (0, 0) _ rfl (zF K5) Try.underlying27 rfl (by kernel_rfl) (.tmp .nil)))) rfl ?_
  exact ⟨_, rfl, (Got.same HB0.out HR.out HB.out).st4 HB0.out.size GW5.out (own_ne_of HR.out GW5.out) (.int .i64 0) (.int .i64 0) (.string ⟨#[]⟩) (.int .i64 0)⟩
end
end Go.Proofs.Ytpcipmhblknokaa.Ch
/- What Do of the document does, by hand (part three): Double, Delay, Swap. -/
namespace Go.Proofs.Ytpcipmhblknokaa.Ch
open Go.RowKit Go.Proofs.Ytpcipmhblknokaa.XC Go.Proofs.YtpcipmhblknokaaW.PrintWords Go.Proofs.YtpcipmhblknokaaW.PrintLast Go.Proofs.YtpcipmhblknokaaW.PrintMore
attribute [local go_sem] max2_int min2_int max_two min_two max_three min_three max_four min_four   -- for this text's walks alone
set_option linter.unusedVariables false
set_option linter.unusedSimpArgs false
open List renaming setIfInBounds_toArray → xA, set_cons_zero → xB, set_cons_succ → xC
open Go.Proofs.YtpcipmhblknokaaW.PrintWords renaming blk_drewN → bN, blk_drew → bD, blk_alloc → bA, below_set → bS, blk_frozen → bF, blk_cell → bC, cell_far → cF, blk_far → bZ, blk_below → bB, pw_below_drewN → bwN, below_drew1 → bw1, below_alloc → bwA
open Go.Proofs.YtpcipmhblknokaaW.PrintZ
open Bool renaming true → T,false → F


set_option maxRecDepth 100000
set_option maxHeartbeats 8000000
section
variable {w0 w : World} {v : Value} {m : List S27}
theorem Got.new {w' : World} {v' : Value} {m' : List S27} (hB : Below w0.heap.size w0 w) (hb : Below w.heap.size w w') (hR : Kd.R k27 27 w' w.heap.size (fun _ => True) v' m') : Got w0 w w' v v' m' :=
  ⟨Kd.R_lower hR hB.size, Kept.of_below hb _, fun k hk => .inr (own_base (R27.1 hR).2 k hk), below_up hB hb⟩
theorem R_set3y {w : World} {base n b : Nat} {P : Nat → Prop} {u : Value} {m : List S27} {y : S27} (h : Kd.R k27 27 w base P u m) (hy : m[n]? = some y) (hb : u.ownBlock = some b) (v : Int) : Kd.R k27 27 (w.setCell ⟨b, n * 4 + 3, none⟩ (.int .i64 v)) base P u (m.set n (waitS y v)) := by
  obtain ⟨hn, rfl⟩ := List.getElem?_eq_some_iff.1 hy
  exact R_set3 h hn hb v
theorem news_row {w : World} {base : Nat} {P : Nat → Prop} {u : Value} {y : S27} (h : Kd.R k27 27 w base P u [y]) : ∃ b cap, u = .slice (some ⟨b, 0, none⟩) 1 cap ∧ ∀ j x, (c27 y)[j]? = some x → w.cell? ((⟨b, 0, none⟩ : Addr).add j) = some x := by
  obtain ⟨b, cap, rfl, ⟨c0, c1, c2, c3⟩, _⟩ := row_y (n := 0) (y := y) h rfl
  refine ⟨b, cap, rfl, fun j x hx => ?_⟩
  match j, hx with
  | 0, hx => cases hx; exact c0
  | 1, hx => cases hx; exact c1
  | 2, hx => cases hx; exact c2
  | 3, hx => cases hx; exact c3
theorem dbl_end {w6 W w7 : World} {A : Value} {v1 : Value} {x : S27} (hB : Below w0.heap.size w0 w) (HB : Below w.heap.size w W) (hs : w.heap.size ≤ W.heap.size) (HO : Kd.R k27 27 w6 w.heap.size (fun _ => True) A m) (ho : w7.ownsRow w.heap.size 27 4 v1 (m.length + 1) (cells m ++ c27 x)) (hg : W.grownBy w7 A.ownBlock) : Kd.R k27 27 w7 w.heap.size (fun _ => True) v1 (m ++ [x]) ∧ Below w.heap.size w w7 := by
  refine ⟨R27.2 ⟨fun _ _ => trivial, ?_⟩, HB.grown hg hs (fun k hk => own_base (R27.1 HO).2 k hk)⟩
  rw [List.length_append, cells_app, show cells [x] = c27 x from by simp [cells]]
  exact ho
def rdo.T27 : Bool × List (List Nat × List Nat) := (true, [([], []), ([0], [0]), ([1], [1]), ([2], [2]), ([3], [3]), ([4, 3], [3, 4]), ([3], [3]), ([3], [3]), ([7, 3], [3, 7]), ([6, 8, 3], [3, 6, 8]), ([9, 3], [3, 9]), ([10, 3], [3, 10]), ([11, 3], [3, 11]), ([5, 12, 3], [3, 5, 12]), ([3, 13], [3, 13])])
def rdo.B27 : List Nat := [0, 1, 3, 7, 15, 31, 15, 15, 143, 463, 975, 1999, 4047, 8191, 16383]
theorem rdo.tab27 : rtab .any (opsOf Try.f28 27) = rdo.T27 := by kernel_rfl
theorem rdo.bits27 : waitsOk rdo.T27.2 rdo.B27 = true := by kernel_rfl
def rdo.T29 : Bool × List (List Nat × List Nat) := (true, [([], []), ([], []), ([1], [1]), ([], []), ([], []), ([4], [4]), ([3, 5], [3, 5]), ([6], [6]), ([7], [7]), ([], []), ([9], [9]), ([8, 10], [8, 10]), ([0, 2, 0, 1, 2, 3, 4, 5, 6, 7, 8, 9, 10, 11], [0, 2]), ([12, 0, 1, 2, 3, 4, 5, 6, 7, 8, 9, 10, 11], [12]), ([13, 11, 0, 1, 2, 3, 4, 5, 6, 7, 8, 9, 10, 11], [11, 13])])
def rdo.B29 : List Nat := [0, 0, 2, 0, 0, 16, 56, 120, 248, 0, 512, 2040, 4095, 8191, 16383]
theorem rdo.tab29 : rtab .any (opsOf Try.f28 29) = rdo.T29 := by kernel_rfl
theorem rdo.bits29 : waitsOk rdo.T29.2 rdo.B29 = true := by kernel_rfl
def rdo.T33 : Bool × List (List Nat × List Nat) := (true, [([], []), ([], []), ([1], [1]), ([], []), ([], []), ([4], [4]), ([], []), ([], []), ([7], [7]), ([6, 8], [6, 8]), ([9], [9]), ([], []), ([], []), ([12], [12]), ([11, 13], [11, 13]), ([14], [14]), ([0, 2, 0, 1, 2, 6, 7, 8, 9, 10, 15], [0, 2]), ([16, 10, 0, 1, 2, 6, 7, 8, 9, 10, 15], [10, 16]), ([3, 5, 0, 1, 2, 3, 4, 5, 6, 7, 8, 9, 10, 11, 12, 13, 14, 15, 16, 17], [3, 5]), ([18, 15, 17, 0, 1, 2, 3, 4, 5, 6, 7, 8, 9, 10, 11, 12, 13, 14, 15, 16, 17], [15, 18])])
def rdo.B33 : List Nat := [0, 0, 2, 0, 0, 16, 0, 0, 128, 448, 960, 0, 0, 4096, 14336, 30720, 65479, 131015, 262143, 524287]
theorem rdo.tab33 : rtab .any (opsOf Try.f28 33) = rdo.T33 := by kernel_rfl
theorem rdo.bits33 : waitsOk rdo.T33.2 rdo.B33 = true := by kernel_rfl
theorem rdo_double {k : Int} {n : Nat} {y : S27} (hy : m[n]? = some y) (hf : ¬ 65536 ≤ m.length) (hB : Below w0.heap.size w0 w) (hR : Kd.R k27 27 w w0.heap.size (fun _ => True) v m) (hG : Good m) : Calls Try.prog 28 #[v, .agg #[.int .i64 3, .int .i64 n, .int .i64 k]] w fun e w' => ∃ v', e = .returned (.tuple #[v', gV z27, .int .i64 0]) ∧ Got w0 w w' v v' (m ++ [y]) := by
  obtain ⟨b, c, rfl, _, _⟩ := row_y hR hy
  obtain ⟨_, _, hv_, hc, hC⟩ := Kd.R_reads hR
  cases hv_
  have hl := hG.len
  have hl63 := hC.2.1
  have HB := zA (Below.refl w.heap.size w)
  have HR := zA hR
  have HB0 := zA hB
  have HG := zA hG
  have hu27 := Try.underlying27
  have hu29 := Try.underlying29
  clear hR hB hG
  have hn := lt_y hy
  have q0 : (0 ≤ (n : Int)) = True := eq_true (by omega)
  have q1 : ((n : Int) < (m.length : Int)) = True := eq_true (by omega)
  have r0 : decide (0 ≤ (n : Int)) = true := decide_eq_true (by omega)
  have r1 : decide ((n : Int) < (m.length : Int)) = true := decide_eq_true (by omega)
  have HY := zA hy
  clear hy hn
  have t1 : decide (65536 ≤ (m.length : Int)) = false := decide_eq_false (by omega)
  have t2 : decide (65536 ≤ m.length) = false := decide_eq_false hf
  go_enter Try.func28, Try.ntmps28
  go_wp2_with (first | ((with_reducible refine gate_dst (N := 3) rfl ?_); refine zb (N := 3) (cs := #[.int .i64 3, .int .i64 n, .int .i64 k]) (t := 29) ?_; intro G3 hg w3 hbox hb; have K3 := zA hbox; have GW3 := zN HB hg; replace HB := zS HB hb; clear hb hbox hg; obtain ⟨h0, h1, h2, _, _, _⟩ := zc3 K3) | ((with_reducible refine gate_dst (N := 5) rfl ?_); refine zb (N := 5) (cs := #[.int .i64 0, .int .i64 0, .string ⟨#[]⟩, .int .i64 0]) (t := 27) ?_; intro G5 hg w5 hbox hb; have K5 := zA hbox; have GW5 := zN HB hg; replace K3 := zB K3 hb; replace HB := zS HB hb; clear hb hbox hg; obtain ⟨h0, h1, h2, _, _, _⟩ := zc3 K3; obtain ⟨_, _, _, _, _, _, _, _⟩ := zc4 K5) | ((with_reducible refine gate_callee (f := 16) rfl ?_); refine zg (some 20) Try.func16 #[.slice (some ⟨b, 0, none⟩) m.length c] ?_; (with_reducible refine (copy_calls (Kd.C_below hC HB.out) hc (by omega)).mono ?_); rintro e w6 ⟨vo, rfl, ho, hb⟩; refine ⟨_, rfl, ?_⟩; have HO := zA (Kd.R_lower ho HB.out.size); have GO := zA (fresh_ne ho K5.out); replace K3 := zB K3 hb; replace K5 := zB K5 hb; replace HB := zS HB hb; clear hb ho; obtain ⟨bo, co, hvo, _, _⟩ := row_y HO.out HY.out; subst hvo; obtain ⟨h0, h1, h2, _, _, _⟩ := zc3 K3; obtain ⟨_, _, _, _, _, _, _, _⟩ := zc4 K5; obtain ⟨b2, cap2, hu2, ⟨x0, x1, x2, x3⟩, _⟩ := row_y (Kd.R_below HR.out HB.out) HY.out; cases hu2) | ((with_reducible refine gate_dst (N := 98) rfl ?_); refine Kd.R_lit k27 _ 27 ?hg (N := 98) ?hd (xs := [y]) (inner := [.int .i64 y.f0, .int .i64 y.f1, .string y.f2, .int .i64 y.f3]) (ok := fun _ => True) (okp := fun _ => True) ?hr ?hp (fun _ hk => hk) trivial (Below.refl _ _) (Nat.le_refl _) (by simp) ?_; (case hd => rfl); (case hg => rfl); (case hr => first | (go_simp; done) | (go_simp; rfl)); (case hp => exact (Reps.c4 (show Kd.M k27 _ _ _ y [.int .i64 y.f0, .int .i64 y.f1, .string y.f2, .int .i64 y.f3] from k27_mkM _ _ _ y) (Reps.none _ _))); intro v98 w9 ho hb hg_ hnew_; clear hg_ hnew_; replace HO := zA (Kd.R_below HO.out hb); replace K5 := zB K5 hb; replace HB := zS HB hb; obtain ⟨An, cn, rfl, hcn, hCn⟩ := Kd.R_reads ho; have HCN := zA hCn; clear ho hb hCn) | ((with_reducible refine gate_builtin (b := .append) (xs := #[.tmp 92, .tmp 98]) rfl ?_); at_builtin; refine Kd.R_append_rows k27 (w0 := w) w.heap.size rfl (.tmp 92) (.tmp 98) 34 27 (.agg #[(.int .i64 0), (.int .i64 0), (.string ⟨#[]⟩), (.int .i64 0)]) 40 rfl Try.underlying34 info27 rfl (by decide) (by decide) (.slice (some ⟨bo, 0, none⟩) m.length co) m [y] _ _ _ (fun _ => True) (fun _ => False) rfl rfl ?aO ?aR (fun _ _ h => h) (fun _ h => h.elim) ?aF ?aB ?aS ?aL ?_; (case aR => exact HCN.out); (case aB => exact (zH HB)); (case aF => exact (fun _ _ => trivial)); (case aO => exact (zR HO)); (case aS => exact (zW HB)); (case aL => simp only [List.length_cons, List.length_nil]; omega); intro v99 w10 ho hb hg hat; have GN : Aside0 (some G5 ≠ v99.ownBlock) := ⟨fun e => by rcases hat with h | ⟨b1, h, h2⟩; exact GO.out (e.trans h); have h3 := blk_lt K5.out; rw [h] at e; injection e with e; omega⟩; replace K5 := zA (blk_grown K5.out hg GO.out); replace HB := zA hb; have HV := zA ho; obtain ⟨A9, c9, rfl⟩ := Kd.R_slice ho; rw [List.length_append] at HV GN; clear ho hb hg hat; obtain ⟨_, _, _, _, _, _, _, _⟩ := zc4 K5))
  refine bodyPost_ret (results_list (rs := [.tmp 4, .cell 5 27, .tmp 6]) rfl (by simp) (.tmp (.cell G5 27 #[.int .i64 0, .int .i64 0, .string ⟨#[]⟩, .int .i64 0] (0, 0) _ rfl (zF K5) Try.underlying27 rfl (by kernel_rfl) (.tmp .nil)))) rfl ?_
  exact ⟨_, rfl, (Got.new HB0.out HB.out HV.out).st4 HB0.out.size GW5.out GN.out (.int .i64 0) (.int .i64 0) (.string ⟨#[]⟩) (.int .i64 0)⟩
theorem rdo_neg {k : Int} {n : Nat} {y : S27} (hy : m[n]? = some y) (hk : k < 0) (hB : Below w0.heap.size w0 w) (hR : Kd.R k27 27 w w0.heap.size (fun _ => True) v m) (hG : Good m) : Calls Try.prog 28 #[v, .agg #[.int .i64 4, .int .i64 n, .int .i64 k]] w fun e w' => ∃ v', e = .returned (.tuple #[v', gV z27, .int .i64 1]) ∧ Got w0 w w' v v' m := by
  obtain ⟨hw0, hw1⟩ := may_wait (hG.all y (List.mem_of_getElem? hy))
  obtain ⟨b, c, rfl, _, _⟩ := row_y hR hy
  obtain ⟨_, _, hv_, hc, hC⟩ := Kd.R_reads hR
  cases hv_
  have hl := hG.len
  have hl63 := hC.2.1
  have HB := zA (Below.refl w.heap.size w)
  have HR := zA hR
  have HB0 := zA hB
  have HG := zA hG
  have hu27 := Try.underlying27
  have hu29 := Try.underlying29
  clear hR hB hG
  have hn := lt_y hy
  have q0 : (0 ≤ (n : Int)) = True := eq_true (by omega)
  have q1 : ((n : Int) < (m.length : Int)) = True := eq_true (by omega)
  have r0 : decide (0 ≤ (n : Int)) = true := decide_eq_true (by omega)
  have r1 : decide ((n : Int) < (m.length : Int)) = true := decide_eq_true (by omega)
  have HY := zA hy
  clear hy hn
  have t1 : decide (k < 0) = true := decide_eq_true hk
  clear hk
  clear hw0 hw1
  go_enter Try.func28, Try.ntmps28
  go_wp2_with (first | ((with_reducible refine gate_dst (N := 3) rfl ?_); refine zb (N := 3) (cs := #[.int .i64 4, .int .i64 n, .int .i64 k]) (t := 29) ?_; intro G3 hg w3 hbox hb; have K3 := zA hbox; have GW3 := zN HB hg; replace HB := zS HB hb; clear hb hbox hg; obtain ⟨h0, h1, h2, _, _, _⟩ := zc3 K3) | ((with_reducible refine gate_dst (N := 5) rfl ?_); refine zb (N := 5) (cs := #[.int .i64 0, .int .i64 0, .string ⟨#[]⟩, .int .i64 0]) (t := 27) ?_; intro G5 hg w5 hbox hb; have K5 := zA hbox; have GW5 := zN HB hg; replace K3 := zB K3 hb; replace HB := zS HB hb; clear hb hbox hg; obtain ⟨h0, h1, h2, _, _, _⟩ := zc3 K3; obtain ⟨_, _, _, _, _, _, _, _⟩ := zc4 K5) | ((with_reducible refine gate_callee (f := 16) rfl ?_); refine zg (some 20) Try.func16 #[.slice (some ⟨b, 0, none⟩) m.length c] ?_; (with_reducible refine (copy_calls (Kd.C_below hC HB.out) hc (by omega)).mono ?_); rintro e w6 ⟨vo, rfl, ho, hb⟩; refine ⟨_, rfl, ?_⟩; have HO := zA (Kd.R_lower ho HB.out.size); have GO := zA (fresh_ne ho K5.out); replace K3 := zB K3 hb; replace K5 := zB K5 hb; replace HB := zS HB hb; clear hb ho; obtain ⟨bo, co, hvo, _, _⟩ := row_y HO.out HY.out; subst hvo; obtain ⟨h0, h1, h2, _, _, _⟩ := zc3 K3; obtain ⟨_, _, _, _, _, _, _, _⟩ := zc4 K5; obtain ⟨b2, cap2, hu2, ⟨x0, x1, x2, x3⟩, _⟩ := row_y (Kd.R_below HR.out HB.out) HY.out; cases hu2))
  refine start_ (n := 15) (S := fun w' => w'.cell? ⟨G3, 1, none⟩ = some (.int .i64 n) ∧ w'.cell? ⟨G3, 2, none⟩ = some (.int .i64 k) ∧ w'.cell? ⟨b, n * 4 + 3, none⟩ = some (.int .i64 y.f3)) (ds := []) #[F,F,F,F,F,F,F,F,F,F,F,F,F,F,F] (by kernel_rfl) rfl rfl ⟨h1, h2, x3⟩ (fun hHeld => ?_)
  refine with_tabW rdo.tab27 rdo.bits27 (fun HT_ HW_ => ?_)
  replace HO := zA (Kd.R_drew HO.out)
  replace K3 := zA (bD K3.1)
  replace K5 := zA (bD K5.1)
  replace HB := zA (bw1 HB.1)
  clear h0 h1 h2 x0 x1 x2 x3
  generalize w6.drew = w8 at HO K3 K5 HB hHeld ⊢
  refine pz 0 103 #[T,F,F,F,F,F,F,F,F,F,F,F,F,F,F] HT_.1 ?_
  refine tz 1 104 #[T,T,F,F,F,F,F,F,F,F,F,F,F,F,F] HT_.1 HW_.1 hHeld ?_
  refine pz 2 105 #[T,T,T,F,F,F,F,F,F,F,F,F,F,F,F] HT_.1 ?_
  refine pz 3 106 #[T,T,T,T,F,F,F,F,F,F,F,F,F,F,F] HT_.1 ?_
  refine pu 4 107 #[T,T,T,T,T,F,F,F,F,F,F,F,F,F,F] HT_.1 ?_
  refine pu 5 108 #[T,T,T,T,T,T,F,F,F,F,F,F,F,F,F] HT_.1 ?_
  refine pu 6 109 #[T,T,T,T,T,T,T,F,F,F,F,F,F,F,F] HT_.1 ?_
  refine pu 7 110 #[T,T,T,T,T,T,T,T,F,F,F,F,F,F,F] HT_.1 ?_
  refine pu 8 111 #[T,T,T,T,T,T,T,T,T,F,F,F,F,F,F] HT_.1 ?_
  refine pu 9 112 #[T,T,T,T,T,T,T,T,T,T,F,F,F,F,F] HT_.1 ?_
  refine pu 10 113 #[T,T,T,T,T,T,T,T,T,T,T,F,F,F,F] HT_.1 ?_
  refine pu 11 114 #[T,T,T,T,T,T,T,T,T,T,T,T,F,F,F] HT_.1 ?_
  refine pu 12 115 #[T,T,T,T,T,T,T,T,T,T,T,T,T,F,F] HT_.1 ?_
  refine pu 13 116 #[T,T,T,T,T,T,T,T,T,T,T,T,T,T,F] HT_.1 ?_
  refine pz 14 117 #[T,T,T,T,T,T,T,T,T,T,T,T,T,T,T] HT_.1 ?_
  refine done_ (done_of HT_.out (by kernel_rfl)) ?_
  obtain ⟨h1, h2, x3⟩ := hHeld
  obtain ⟨_, _, _, _, _, _, _, _⟩ := zc4 K5
  go_wp2
  refine bodyPost_ret (results_list (rs := [.tmp 4, .cell 5 27, .tmp 6]) rfl (by simp) (.tmp (.cell G5 27 #[.int .i64 0, .int .i64 0, .string ⟨#[]⟩, .int .i64 0] (0, 0) _ rfl (zF K5) Try.underlying27 rfl (by kernel_rfl) (.tmp .nil)))) rfl ?_
  exact ⟨_, rfl, (Got.same HB0.out HR.out HB.out).st4 HB0.out.size GW5.out (own_ne_of HR.out GW5.out) (.int .i64 0) (.int .i64 0) (.string ⟨#[]⟩) (.int .i64 0)⟩
theorem rdo_far {k : Int} {n : Nat} {y : S27} (hy : m[n]? = some y) (hk : ¬ k < 0) (hk2 : 65536 - y.f3 < k) (hB : Below w0.heap.size w0 w) (hR : Kd.R k27 27 w w0.heap.size (fun _ => True) v m) (hG : Good m) : Calls Try.prog 28 #[v, .agg #[.int .i64 4, .int .i64 n, .int .i64 k]] w fun e w' => ∃ v', e = .returned (.tuple #[v', gV z27, .int .i64 1]) ∧ Got w0 w w' v v' m := by
  obtain ⟨hw0, hw1⟩ := may_wait (hG.all y (List.mem_of_getElem? hy))
  obtain ⟨b, c, rfl, _, _⟩ := row_y hR hy
  obtain ⟨_, _, hv_, hc, hC⟩ := Kd.R_reads hR
  cases hv_
  have hl := hG.len
  have hl63 := hC.2.1
  have HB := zA (Below.refl w.heap.size w)
  have HR := zA hR
  have HB0 := zA hB
  have HG := zA hG
  have hu27 := Try.underlying27
  have hu29 := Try.underlying29
  clear hR hB hG
  have hn := lt_y hy
  have q0 : (0 ≤ (n : Int)) = True := eq_true (by omega)
  have q1 : ((n : Int) < (m.length : Int)) = True := eq_true (by omega)
  have r0 : decide (0 ≤ (n : Int)) = true := decide_eq_true (by omega)
  have r1 : decide ((n : Int) < (m.length : Int)) = true := decide_eq_true (by omega)
  have HY := zA hy
  clear hy hn
  have t1 : decide (k < 0) = false := decide_eq_false hk
  have t2 : decide (wrap64 (65536 - y.f3) < k) = true := decide_eq_true (by unfold wrap64; omega)
  clear hk hk2
  clear hw0 hw1
  go_enter Try.func28, Try.ntmps28
  go_wp2_with (first | ((with_reducible refine gate_dst (N := 3) rfl ?_); refine zb (N := 3) (cs := #[.int .i64 4, .int .i64 n, .int .i64 k]) (t := 29) ?_; intro G3 hg w3 hbox hb; have K3 := zA hbox; have GW3 := zN HB hg; replace HB := zS HB hb; clear hb hbox hg; obtain ⟨h0, h1, h2, _, _, _⟩ := zc3 K3) | ((with_reducible refine gate_dst (N := 5) rfl ?_); refine zb (N := 5) (cs := #[.int .i64 0, .int .i64 0, .string ⟨#[]⟩, .int .i64 0]) (t := 27) ?_; intro G5 hg w5 hbox hb; have K5 := zA hbox; have GW5 := zN HB hg; replace K3 := zB K3 hb; replace HB := zS HB hb; clear hb hbox hg; obtain ⟨h0, h1, h2, _, _, _⟩ := zc3 K3; obtain ⟨_, _, _, _, _, _, _, _⟩ := zc4 K5) | ((with_reducible refine gate_callee (f := 16) rfl ?_); refine zg (some 20) Try.func16 #[.slice (some ⟨b, 0, none⟩) m.length c] ?_; (with_reducible refine (copy_calls (Kd.C_below hC HB.out) hc (by omega)).mono ?_); rintro e w6 ⟨vo, rfl, ho, hb⟩; refine ⟨_, rfl, ?_⟩; have HO := zA (Kd.R_lower ho HB.out.size); have GO := zA (fresh_ne ho K5.out); replace K3 := zB K3 hb; replace K5 := zB K5 hb; replace HB := zS HB hb; clear hb ho; obtain ⟨bo, co, hvo, _, _⟩ := row_y HO.out HY.out; subst hvo; obtain ⟨h0, h1, h2, _, _, _⟩ := zc3 K3; obtain ⟨_, _, _, _, _, _, _, _⟩ := zc4 K5; obtain ⟨b2, cap2, hu2, ⟨x0, x1, x2, x3⟩, _⟩ := row_y (Kd.R_below HR.out HB.out) HY.out; cases hu2))
  refine start_ (n := 15) (S := fun w' => w'.cell? ⟨G3, 1, none⟩ = some (.int .i64 n) ∧ w'.cell? ⟨G3, 2, none⟩ = some (.int .i64 k) ∧ w'.cell? ⟨b, n * 4 + 3, none⟩ = some (.int .i64 y.f3)) (ds := []) #[F,F,F,F,F,F,F,F,F,F,F,F,F,F,F] (by kernel_rfl) rfl rfl ⟨h1, h2, x3⟩ (fun hHeld => ?_)
  refine with_tabW rdo.tab27 rdo.bits27 (fun HT_ HW_ => ?_)
  replace HO := zA (Kd.R_drew HO.out)
  replace K3 := zA (bD K3.1)
  replace K5 := zA (bD K5.1)
  replace HB := zA (bw1 HB.1)
  clear h0 h1 h2 x0 x1 x2 x3
  generalize w6.drew = w8 at HO K3 K5 HB hHeld ⊢
  refine pz 0 103 #[T,F,F,F,F,F,F,F,F,F,F,F,F,F,F] HT_.1 ?_
  refine tz 1 104 #[T,T,F,F,F,F,F,F,F,F,F,F,F,F,F] HT_.1 HW_.1 hHeld ?_
  refine pz 2 105 #[T,T,T,F,F,F,F,F,F,F,F,F,F,F,F] HT_.1 ?_
  refine pz 3 106 #[T,T,T,T,F,F,F,F,F,F,F,F,F,F,F] HT_.1 ?_
  refine pz 4 107 #[T,T,T,T,T,F,F,F,F,F,F,F,F,F,F] HT_.1 ?_
  refine tz 5 108 #[T,T,T,T,T,T,F,F,F,F,F,F,F,F,F] HT_.1 HW_.1 hHeld ?_
  refine pz 6 109 #[T,T,T,T,T,T,T,F,F,F,F,F,F,F,F] HT_.1 ?_
  refine pz 7 110 #[T,T,T,T,T,T,T,T,F,F,F,F,F,F,F] HT_.1 ?_
  refine tz 8 111 #[T,T,T,T,T,T,T,T,T,F,F,F,F,F,F] HT_.1 HW_.1 hHeld ?_
  refine pz 9 112 #[T,T,T,T,T,T,T,T,T,T,F,F,F,F,F] HT_.1 ?_
  refine pz 10 113 #[T,T,T,T,T,T,T,T,T,T,T,F,F,F,F] HT_.1 ?_
  refine tz 11 114 #[T,T,T,T,T,T,T,T,T,T,T,T,F,F,F] HT_.1 HW_.1 hHeld ?_
  refine pz 12 115 #[T,T,T,T,T,T,T,T,T,T,T,T,T,F,F] HT_.1 ?_
  refine pz 13 116 #[T,T,T,T,T,T,T,T,T,T,T,T,T,T,F] HT_.1 ?_
  refine pz 14 117 #[T,T,T,T,T,T,T,T,T,T,T,T,T,T,T] HT_.1 ?_
  refine done_ (done_of HT_.out (by kernel_rfl)) ?_
  obtain ⟨h1, h2, x3⟩ := hHeld
  obtain ⟨_, _, _, _, _, _, _, _⟩ := zc4 K5
  go_wp2
  refine bodyPost_ret (results_list (rs := [.tmp 4, .cell 5 27, .tmp 6]) rfl (by simp) (.tmp (.cell G5 27 #[.int .i64 0, .int .i64 0, .string ⟨#[]⟩, .int .i64 0] (0, 0) _ rfl (zF K5) Try.underlying27 rfl (by kernel_rfl) (.tmp .nil)))) rfl ?_
  exact ⟨_, rfl, (Got.same HB0.out HR.out HB.out).st4 HB0.out.size GW5.out (own_ne_of HR.out GW5.out) (.int .i64 0) (.int .i64 0) (.string ⟨#[]⟩) (.int .i64 0)⟩
theorem rdo_delay {k : Int} {n : Nat} {y : S27} (hy : m[n]? = some y) (hk : ¬ k < 0) (hk2 : ¬ 65536 - y.f3 < k) (hB : Below w0.heap.size w0 w) (hR : Kd.R k27 27 w w0.heap.size (fun _ => True) v m) (hG : Good m) : Calls Try.prog 28 #[v, .agg #[.int .i64 4, .int .i64 n, .int .i64 k]] w fun e w' => ∃ v', e = .returned (.tuple #[v', gV z27, .int .i64 0]) ∧ Got w0 w w' v v' (m.set n (waitS y (y.f3 + k))) := by
  obtain ⟨hw0, hw1⟩ := may_wait (hG.all y (List.mem_of_getElem? hy))
  obtain ⟨b, c, rfl, _, _⟩ := row_y hR hy
  obtain ⟨_, _, hv_, hc, hC⟩ := Kd.R_reads hR
  cases hv_
  have hl := hG.len
  have hl63 := hC.2.1
  have HB := zA (Below.refl w.heap.size w)
  have HR := zA hR
  have HB0 := zA hB
  have HG := zA hG
  have hu27 := Try.underlying27
  have hu29 := Try.underlying29
  clear hR hB hG
  have hn := lt_y hy
  have q0 : (0 ≤ (n : Int)) = True := eq_true (by omega)
  have q1 : ((n : Int) < (m.length : Int)) = True := eq_true (by omega)
  have r0 : decide (0 ≤ (n : Int)) = true := decide_eq_true (by omega)
  have r1 : decide ((n : Int) < (m.length : Int)) = true := decide_eq_true (by omega)
  have HY := zA hy
  clear hy hn
  have t1 : decide (k < 0) = false := decide_eq_false hk
  have t2 : decide (wrap64 (65536 - y.f3) < k) = false := decide_eq_false (by unfold wrap64; omega)
  have HWK : Aside0 (waitS y (wrap64 (y.f3 + k)) = waitS y (y.f3 + k)) := ⟨by rw [show wrap64 (y.f3 + k) = y.f3 + k by unfold wrap64; omega]⟩
  clear hk hk2
  clear hw0 hw1
  go_enter Try.func28, Try.ntmps28
  go_wp2_with (first | ((with_reducible refine gate_dst (N := 3) rfl ?_); refine zb (N := 3) (cs := #[.int .i64 4, .int .i64 n, .int .i64 k]) (t := 29) ?_; intro G3 hg w3 hbox hb; have K3 := zA hbox; have GW3 := zN HB hg; replace HB := zS HB hb; clear hb hbox hg; obtain ⟨h0, h1, h2, _, _, _⟩ := zc3 K3) | ((with_reducible refine gate_dst (N := 5) rfl ?_); refine zb (N := 5) (cs := #[.int .i64 0, .int .i64 0, .string ⟨#[]⟩, .int .i64 0]) (t := 27) ?_; intro G5 hg w5 hbox hb; have K5 := zA hbox; have GW5 := zN HB hg; replace K3 := zB K3 hb; replace HB := zS HB hb; clear hb hbox hg; obtain ⟨h0, h1, h2, _, _, _⟩ := zc3 K3; obtain ⟨_, _, _, _, _, _, _, _⟩ := zc4 K5) | ((with_reducible refine gate_callee (f := 16) rfl ?_); refine zg (some 20) Try.func16 #[.slice (some ⟨b, 0, none⟩) m.length c] ?_; (with_reducible refine (copy_calls (Kd.C_below hC HB.out) hc (by omega)).mono ?_); rintro e w6 ⟨vo, rfl, ho, hb⟩; refine ⟨_, rfl, ?_⟩; have HO := zA (Kd.R_lower ho HB.out.size); have GO := zA (fresh_ne ho K5.out); replace K3 := zB K3 hb; replace K5 := zB K5 hb; replace HB := zS HB hb; clear hb ho; obtain ⟨bo, co, hvo, _, _⟩ := row_y HO.out HY.out; subst hvo; obtain ⟨h0, h1, h2, _, _, _⟩ := zc3 K3; obtain ⟨_, _, _, _, _, _, _, _⟩ := zc4 K5; obtain ⟨b2, cap2, hu2, ⟨x0, x1, x2, x3⟩, _⟩ := row_y (Kd.R_below HR.out HB.out) HY.out; cases hu2))
  refine start_ (n := 15) (S := fun w' => w'.cell? ⟨G3, 1, none⟩ = some (.int .i64 n) ∧ w'.cell? ⟨G3, 2, none⟩ = some (.int .i64 k) ∧ w'.cell? ⟨b, n * 4 + 3, none⟩ = some (.int .i64 y.f3)) (ds := []) #[F,F,F,F,F,F,F,F,F,F,F,F,F,F,F] (by kernel_rfl) rfl rfl ⟨h1, h2, x3⟩ (fun hHeld => ?_)
  refine with_tabW rdo.tab27 rdo.bits27 (fun HT_ HW_ => ?_)
  replace HO := zA (Kd.R_drew HO.out)
  replace K3 := zA (bD K3.1)
  replace K5 := zA (bD K5.1)
  replace HB := zA (bw1 HB.1)
  clear h0 h1 h2 x0 x1 x2 x3
  generalize w6.drew = w8 at HO K3 K5 HB hHeld ⊢
  refine pz 0 103 #[T,F,F,F,F,F,F,F,F,F,F,F,F,F,F] HT_.1 ?_
  refine tz 1 104 #[T,T,F,F,F,F,F,F,F,F,F,F,F,F,F] HT_.1 HW_.1 hHeld ?_
  refine pz 2 105 #[T,T,T,F,F,F,F,F,F,F,F,F,F,F,F] HT_.1 ?_
  refine pz 3 106 #[T,T,T,T,F,F,F,F,F,F,F,F,F,F,F] HT_.1 ?_
  refine pz 4 107 #[T,T,T,T,T,F,F,F,F,F,F,F,F,F,F] HT_.1 ?_
  refine tz 5 108 #[T,T,T,T,T,T,F,F,F,F,F,F,F,F,F] HT_.1 HW_.1 hHeld ?_
  refine pz 6 109 #[T,T,T,T,T,T,T,F,F,F,F,F,F,F,F] HT_.1 ?_
  refine pz 7 110 #[T,T,T,T,T,T,T,T,F,F,F,F,F,F,F] HT_.1 ?_
  refine tz 8 111 #[T,T,T,T,T,T,T,T,T,F,F,F,F,F,F] HT_.1 HW_.1 hHeld ?_
  refine pz 9 112 #[T,T,T,T,T,T,T,T,T,T,F,F,F,F,F] HT_.1 ?_
  refine pz 10 113 #[T,T,T,T,T,T,T,T,T,T,T,F,F,F,F] HT_.1 ?_
  refine tz 11 114 #[T,T,T,T,T,T,T,T,T,T,T,T,F,F,F] HT_.1 HW_.1 hHeld ?_
  refine pz 12 115 #[T,T,T,T,T,T,T,T,T,T,T,T,T,F,F] HT_.1 ?_
  refine pz 13 116 #[T,T,T,T,T,T,T,T,T,T,T,T,T,T,F] HT_.1 ?_
  refine pz 14 117 #[T,T,T,T,T,T,T,T,T,T,T,T,T,T,T] HT_.1 ?_
  refine done_ (done_of HT_.out (by kernel_rfl)) ?_
  obtain ⟨h1, h2, x3⟩ := hHeld
  obtain ⟨_, _, _, _, _, _, _, _⟩ := zc4 K5
  go_wp2
  obtain ⟨b2, cap2, hu2, ⟨z0, z1, z2, z3⟩, _⟩ := row_y HO.out HY.out
  cases hu2
  refine start_ (n := 15) (S := fun w' => w'.cell? ⟨G3, 1, none⟩ = some (.int .i64 n) ∧ w'.cell? ⟨G3, 2, none⟩ = some (.int .i64 k) ∧ w'.cell? ⟨bo, n * 4 + 3, none⟩ = some (.int .i64 y.f3)) (ds := [14]) #[F,F,F,F,F,F,F,F,F,F,F,F,F,F,F] (by kernel_rfl) rfl rfl ⟨h1, h2, z3⟩ (fun hHeld => ?_)
  refine with_tabW rdo.tab29 rdo.bits29 (fun HT_ HW_ => ?_)
  replace HO := zA (Kd.R_drew HO.out)
  replace K3 := zA (bD K3.1)
  replace K5 := zA (bD K5.1)
  replace HB := zA (bw1 HB.1)
  clear h1 h2 z0 z1 z2 z3
  generalize w8.drew = w9 at HO K3 K5 HB hHeld ⊢
  refine pz 0 120 #[T,F,F,F,F,F,F,F,F,F,F,F,F,F,F] HT_.1 ?_
  refine pz 1 121 #[T,T,F,F,F,F,F,F,F,F,F,F,F,F,F] HT_.1 ?_
  refine tz 2 122 #[T,T,T,F,F,F,F,F,F,F,F,F,F,F,F] HT_.1 HW_.1 hHeld ?_
  refine pz 3 123 #[T,T,T,T,F,F,F,F,F,F,F,F,F,F,F] HT_.1 ?_
  refine pz 4 124 #[T,T,T,T,T,F,F,F,F,F,F,F,F,F,F] HT_.1 ?_
  refine tz 5 125 #[T,T,T,T,T,T,F,F,F,F,F,F,F,F,F] HT_.1 HW_.1 hHeld ?_
  refine pz 6 126 #[T,T,T,T,T,T,T,F,F,F,F,F,F,F,F] HT_.1 ?_
  refine pz 7 127 #[T,T,T,T,T,T,T,T,F,F,F,F,F,F,F] HT_.1 ?_
  refine tz 8 128 #[T,T,T,T,T,T,T,T,T,F,F,F,F,F,F] HT_.1 HW_.1 hHeld ?_
  refine pz 9 129 #[T,T,T,T,T,T,T,T,T,T,F,F,F,F,F] HT_.1 ?_
  refine tz 10 130 #[T,T,T,T,T,T,T,T,T,T,T,F,F,F,F] HT_.1 HW_.1 hHeld ?_
  refine pz 11 131 #[T,T,T,T,T,T,T,T,T,T,T,T,F,F,F] HT_.1 ?_
  refine pz 12 132 #[T,T,T,T,T,T,T,T,T,T,T,T,T,F,F] HT_.1 ?_
  refine pz 13 133 #[T,T,T,T,T,T,T,T,T,T,T,T,T,T,F] HT_.1 ?_
  refine last_ (i := 14) (N := none) #[T,T,T,T,T,T,T,T,T,T,T,T,T,T,T] rfl rfl (one_of HT_.out (by kernel_rfl)) (by decide) (fun K hK => ?_)
  obtain ⟨b2, cap2, hu2, ⟨z0, z1, z2, z3⟩, hfz⟩ := row_y HO.out HY.out
  cases hu2
  have f3 := hfz (n * 4 + 3)
  clear hfz
  refine sz ?_
  refine hK.out _ _ ?_
  clear hK K z0 z1 z2 z3 f3
  have hlo : w.heap.size ≤ bo := own_base (R27.1 HO.out).2 bo rfl
  have g5 : G5 ≠ bo := fun e => GO.out (congrArg some e)
  have HO2 := R_set3y HO.out HY.out rfl (wrap64 (y.f3 + k))
  rw [HWK.out] at HO2
  replace HO := zA HO2
  replace HB := zA (bS (g := bo) (j := n * 4 + 3) (v := .int .i64 (wrap64 (y.f3 + k))) HB.out hlo)
  replace K5 := zA (blk_far (p := ⟨bo, n * 4 + 3, none⟩) K5.out g5 (.int .i64 (wrap64 (y.f3 + k))))
  clear hlo g5 HO2 K3
  generalize w9.setCell ⟨bo, n * 4 + 3, none⟩ (.int .i64 (wrap64 (y.f3 + k))) = w11 at HO HB K5 ⊢
  refine done_ (done_of HT_.out (by kernel_rfl)) ?_
  obtain ⟨_, _, _, _, _, _, _, _⟩ := zc4 K5
  go_wp2
  refine bodyPost_ret (results_list (rs := [.tmp 4, .cell 5 27, .tmp 6]) rfl (by simp) (.tmp (.cell G5 27 #[.int .i64 0, .int .i64 0, .string ⟨#[]⟩, .int .i64 0] (0, 0) _ rfl (zF K5) Try.underlying27 rfl (by kernel_rfl) (.tmp .nil)))) rfl ?_
  exact ⟨_, rfl, (Got.new HB0.out HB.out HO.out).st4 HB0.out.size GW5.out GO.out (.int .i64 0) (.int .i64 0) (.string ⟨#[]⟩) (.int .i64 0)⟩
end
end Go.Proofs.Ytpcipmhblknokaa.Ch
