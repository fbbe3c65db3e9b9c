/- What turn does, by hand (part one). -/
import Derived.Test.YtpcipmhblknokaaCK
namespace Go.Proofs.Ytpcipmhblknokaa.Ch
open Go.RowKit Go.Proofs.Ytpcipmhblknokaa.XC Go.Proofs.YtpcipmhblknokaaW.PrintWords Go.Proofs.YtpcipmhblknokaaW.PrintLast Go.Proofs.YtpcipmhblknokaaW.PrintMore
attribute [local go_sem] max2_int min2_int max_two min_two max_three min_three max_four min_four   -- for this text's walks alone
set_option linter.unusedVariables false
set_option linter.unusedSimpArgs false
open List renaming setIfInBounds_toArray → xA, set_cons_zero → xB, set_cons_succ → xC
open Go.Proofs.YtpcipmhblknokaaW.PrintWords renaming blk_drewN → bN, blk_drew → bD, blk_alloc → bA, below_set → bS, blk_frozen → bF, blk_cell → bC, cell_far → cF, blk_far → bZ, blk_below → bB, pw_below_drewN → bwN, below_drew1 → bw1, below_alloc → bwA
open Go.Proofs.YtpcipmhblknokaaW.PrintZ
open Bool renaming true → T,false → F

set_option maxRecDepth 100000
set_option maxHeartbeats 4000000
/-- What becomes of a flight and its row: nothing else is touched, and the row lies where it lay or is new. -/
def After (w w' : World) (g : Nat) (u u' : Value) : Prop := Fr w w' g u.ownBlock ∧ (u'.ownBlock = u.ownBlock ∨ ∃ k, u'.ownBlock = some k ∧ w.heap.size ≤ k)
def inB (m : List S27) (i : Int) : Bool := decide (0 ≤ i) && decide (i < (m.length : Int))
section
variable {w : World} {base g : Nat} {P : Nat → Prop} {u : Value} {m : List S27}
theorem After.of_below {w' : World} (hb : Below w.heap.size w w') (g : Nat) (u : Value) : After w w' g u u := ⟨Fr.of_below hb _, .inl rfl⟩
theorem put_calls (x : S27) (hF : Fl w base P g u m) (hb0 : base ≤ w.heap.size) (hP : ∀ k, w.heap.size ≤ k → P k) : Calls Try.prog 9 #[.pointer (some ⟨g, 0, none⟩), .agg #[.int .i64 x.f0, .int .i64 x.f1, .string x.f2, .int .i64 x.f3]] w fun e w' => ∃ u', e = .returned (.int .i64 (putE m x)) ∧ Fl w' base P g u' (putM m x) ∧ After w w' g u u' := by
  unfold putE putM
  by_cases hm : mayB x = true
  · rw [if_pos hm, if_pos hm]
    by_cases hl : 65536 ≤ m.length
    · rw [if_pos hl, if_pos hl]
      exact (put_full x hm hl hF).mono fun e w' ⟨he, hb⟩ => ⟨u, he, hF.below hb, After.of_below hb g u⟩
    · rw [if_neg hl, if_neg hl]
      exact (put_yes x hm hl hF hb0 hP).mono fun e w' ⟨u', he, h1, h2, h3⟩ => ⟨u', he, h1, h2, h3⟩
  · rw [if_neg hm, if_neg hm]
    exact (put_no x (Bool.eq_false_iff.mpr hm) hF).mono fun e w' ⟨he, hb⟩ => ⟨u, he, hF.below hb, After.of_below hb g u⟩
theorem cut_end {w8 w9 : World} {v : Value} {m' : List S27} (hF : Fl w base P g u m) (HB : Below w.heap.size w w8) (K1 : w9.heap[g]? = some (.cells #[.bool true, u] 55 (0, 0))) (HV : Kd.R k27 27 w9 base P v m') (HG : w8.grownBy w9 u.ownBlock) (hvb : v.ownBlock = u.ownBlock) :
    Fl (w9.setCell ⟨g, 1, none⟩ v) base P g v m' ∧ After w (w9.setCell ⟨g, 1, none⟩ v) g u v := by
  have hvg : some g ≠ v.ownBlock := by rw [hvb]; exact own_ne (R27.1 hF.row).2 hF.blk (by decide)
  refine ⟨⟨(blk_set K1 1 v).trans rfl, ?_⟩, (Fr.of_grown HB HG).setCell (.inl rfl) v, .inl hvb⟩
  exact R27.2 ⟨(R27.1 HV).1, ownsRow_setCell_other (R27.1 HV).2 (fun e => hvg e.symm) v⟩
theorem turn2_none {i k : Int} (hi : inB m i = false) (hF : Fl w base P g u m) : Calls Try.prog 25 #[.pointer (some ⟨g, 0, none⟩), .agg #[.int .i64 2, .int .i64 i, .int .i64 k]] w fun e w' => e = .returned (.int .i64 4) ∧ Below w.heap.size w w' := by
  obtain ⟨A, c, rfl, hc, hC⟩ := Kd.R_reads hF.row
  have hl63 := hC.2.1
  have HB := zA (Below.refl w.heap.size w)
  have FL := zA hF
  have HT := zA hi
  unfold inB at HT
  clear hi
  go_enter Try.func25, Try.ntmps25
  go_wp2_with (first | ((with_reducible refine gate_dst (N := 3) rfl ?_); refine zb (N := 3) (cs := #[.int .i64 2, .int .i64 i, .int .i64 k]) (t := 29) ?_; intro G3 hg w3 hbox hb; have NF := zA (Fl.fresh FL.out hg); have K3 := zA hbox; have GW3 := zN HB hg; replace FL := zA (FL.out.below hb); replace HB := zS HB hb; clear hb hbox hg; obtain ⟨h0, h1, h2, _, _, _⟩ := zc3 K3; obtain ⟨s0, s1, _, _⟩ := zc2 (zA FL.out.blk)) | (go_at_call 34; (with_reducible refine (there_calls FL.out.blk hl63 i).mono ?_); rw [HT.out]; rintro e w5 ⟨rfl, hww⟩; replace hww := hww.symm; subst hww))
  go_ret
  exact ⟨rfl, zH HB⟩
theorem turn3_none {i k : Int} (hi : inB m i = false) (hF : Fl w base P g u m) : Calls Try.prog 25 #[.pointer (some ⟨g, 0, none⟩), .agg #[.int .i64 3, .int .i64 i, .int .i64 k]] w fun e w' => e = .returned (.int .i64 4) ∧ Below w.heap.size w w' := by
  obtain ⟨A, c, rfl, hc, hC⟩ := Kd.R_reads hF.row
  have hl63 := hC.2.1
  have HB := zA (Below.refl w.heap.size w)
  have FL := zA hF
  have HT := zA hi
  unfold inB at HT
  clear hi
  go_enter Try.func25, Try.ntmps25
  go_wp2_with (first | ((with_reducible refine gate_dst (N := 3) rfl ?_); refine zb (N := 3) (cs := #[.int .i64 3, .int .i64 i, .int .i64 k]) (t := 29) ?_; intro G3 hg w3 hbox hb; have NF := zA (Fl.fresh FL.out hg); have K3 := zA hbox; have GW3 := zN HB hg; replace FL := zA (FL.out.below hb); replace HB := zS HB hb; clear hb hbox hg; obtain ⟨h0, h1, h2, _, _, _⟩ := zc3 K3; obtain ⟨s0, s1, _, _⟩ := zc2 (zA FL.out.blk)) | (go_at_call 34; (with_reducible refine (there_calls FL.out.blk hl63 i).mono ?_); rw [HT.out]; rintro e w5 ⟨rfl, hww⟩; replace hww := hww.symm; subst hww))
  go_ret
  exact ⟨rfl, zH HB⟩
theorem turn4_none {i k : Int} (hi : inB m i = false) (hF : Fl w base P g u m) : Calls Try.prog 25 #[.pointer (some ⟨g, 0, none⟩), .agg #[.int .i64 4, .int .i64 i, .int .i64 k]] w fun e w' => e = .returned (.int .i64 4) ∧ Below w.heap.size w w' := by
  obtain ⟨A, c, rfl, hc, hC⟩ := Kd.R_reads hF.row
  have hl63 := hC.2.1
  have HB := zA (Below.refl w.heap.size w)
  have FL := zA hF
  have HT := zA hi
  unfold inB at HT
  clear hi
  go_enter Try.func25, Try.ntmps25
  go_wp2_with (first | ((with_reducible refine gate_dst (N := 3) rfl ?_); refine zb (N := 3) (cs := #[.int .i64 4, .int .i64 i, .int .i64 k]) (t := 29) ?_; intro G3 hg w3 hbox hb; have NF := zA (Fl.fresh FL.out hg); have K3 := zA hbox; have GW3 := zN HB hg; replace FL := zA (FL.out.below hb); replace HB := zS HB hb; clear hb hbox hg; obtain ⟨h0, h1, h2, _, _, _⟩ := zc3 K3; obtain ⟨s0, s1, _, _⟩ := zc2 (zA FL.out.blk)) | (go_at_call 34; (with_reducible refine (there_calls FL.out.blk hl63 i).mono ?_); rw [HT.out]; rintro e w5 ⟨rfl, hww⟩; replace hww := hww.symm; subst hww))
  go_ret
  exact ⟨rfl, zH HB⟩
theorem turn5_none {i k : Int} (hi : inB m i = false) (hF : Fl w base P g u m) : Calls Try.prog 25 #[.pointer (some ⟨g, 0, none⟩), .agg #[.int .i64 5, .int .i64 i, .int .i64 k]] w fun e w' => e = .returned (.int .i64 4) ∧ Below w.heap.size w w' := by
  obtain ⟨A, c, rfl, hc, hC⟩ := Kd.R_reads hF.row
  have hl63 := hC.2.1
  have HB := zA (Below.refl w.heap.size w)
  have FL := zA hF
  have HT := zA hi
  unfold inB at HT
  clear hi
  go_enter Try.func25, Try.ntmps25
  go_wp2_with (first | ((with_reducible refine gate_dst (N := 3) rfl ?_); refine zb (N := 3) (cs := #[.int .i64 5, .int .i64 i, .int .i64 k]) (t := 29) ?_; intro G3 hg w3 hbox hb; have NF := zA (Fl.fresh FL.out hg); have K3 := zA hbox; have GW3 := zN HB hg; replace FL := zA (FL.out.below hb); replace HB := zS HB hb; clear hb hbox hg; obtain ⟨h0, h1, h2, _, _, _⟩ := zc3 K3; obtain ⟨s0, s1, _, _⟩ := zc2 (zA FL.out.blk)) | (go_at_call 34; (with_reducible refine (there_calls FL.out.blk hl63 i).mono ?_); rw [HT.out]; rintro e w5 ⟨rfl, hww⟩; replace hww := hww.symm; subst hww))
  go_ret
  exact ⟨rfl, zH HB⟩
theorem turn5_none2 {i k : Int} (hi : inB m i = true) (hk : inB m k = false) (hF : Fl w base P g u m) : Calls Try.prog 25 #[.pointer (some ⟨g, 0, none⟩), .agg #[.int .i64 5, .int .i64 i, .int .i64 k]] w fun e w' => e = .returned (.int .i64 4) ∧ Below w.heap.size w w' := by
  obtain ⟨A, c, rfl, hc, hC⟩ := Kd.R_reads hF.row
  have hl63 := hC.2.1
  have HB := zA (Below.refl w.heap.size w)
  have FL := zA hF
  have HT := zA hi
  have HU := zA hk
  unfold inB at HT HU
  clear hi hk
  go_enter Try.func25, Try.ntmps25
  go_wp2_with (first | ((with_reducible refine gate_dst (N := 3) rfl ?_); refine zb (N := 3) (cs := #[.int .i64 5, .int .i64 i, .int .i64 k]) (t := 29) ?_; intro G3 hg w3 hbox hb; have NF := zA (Fl.fresh FL.out hg); have K3 := zA hbox; have GW3 := zN HB hg; replace FL := zA (FL.out.below hb); replace HB := zS HB hb; clear hb hbox hg; obtain ⟨h0, h1, h2, _, _, _⟩ := zc3 K3; obtain ⟨s0, s1, _, _⟩ := zc2 (zA FL.out.blk)) | (go_at_call 34; (with_reducible refine (there_calls FL.out.blk hl63 i).mono ?_); rw [HT.out]; rintro e w5 ⟨rfl, hww⟩; replace hww := hww.symm; subst hww) | (go_at_call 34; (with_reducible refine (there_calls FL.out.blk hl63 k).mono ?_); rw [HU.out]; rintro e w5 ⟨rfl, hww⟩; replace hww := hww.symm; subst hww))
  go_ret
  exact ⟨rfl, zH HB⟩
theorem turn_other {q i k : Int} (hq : q ≠ 2 ∧ q ≠ 3 ∧ q ≠ 4 ∧ q ≠ 5 ∧ q ≠ 6 ∧ q ≠ 7) (hF : Fl w base P g u m) : Calls Try.prog 25 #[.pointer (some ⟨g, 0, none⟩), .agg #[.int .i64 q, .int .i64 i, .int .i64 k]] w fun e w' => e = .returned (.int .i64 1) ∧ Below w.heap.size w w' := by
  obtain ⟨n2, n3, n4, n5, n6, n7⟩ := hq
  replace n2 : (q == 2) = false := beq_eq_false_iff_ne.mpr n2
  replace n3 : (q == 3) = false := beq_eq_false_iff_ne.mpr n3
  replace n4 : (q == 4) = false := beq_eq_false_iff_ne.mpr n4
  replace n5 : (q == 5) = false := beq_eq_false_iff_ne.mpr n5
  replace n6 : (q == 6) = false := beq_eq_false_iff_ne.mpr n6
  replace n7 : (q == 7) = false := beq_eq_false_iff_ne.mpr n7
  obtain ⟨A, c, rfl, hc, hC⟩ := Kd.R_reads hF.row
  have hl63 := hC.2.1
  have HB := zA (Below.refl w.heap.size w)
  have FL := zA hF
  go_enter Try.func25, Try.ntmps25
  go_wp2_with (first | ((with_reducible refine gate_dst (N := 3) rfl ?_); refine zb (N := 3) (cs := #[.int .i64 q, .int .i64 i, .int .i64 k]) (t := 29) ?_; intro G3 hg w3 hbox hb; have NF := zA (Fl.fresh FL.out hg); have K3 := zA hbox; have GW3 := zN HB hg; replace FL := zA (FL.out.below hb); replace HB := zS HB hb; clear hb hbox hg; obtain ⟨h0, h1, h2, _, _, _⟩ := zc3 K3; obtain ⟨s0, s1, _, _⟩ := zc2 (zA FL.out.blk)) | fail)
  go_ret
  exact ⟨rfl, zH HB⟩
def turn.T7 : Bool × List (List Nat × List Nat) := (true, [([], []), ([], []), ([1], [1]), ([2], [2]), ([3], [3]), ([], []), ([5], [5]), ([], []), ([7], [7]), ([8], [8]), ([4, 6, 9], [4, 6, 9]), ([0, 0, 1, 2, 3, 4, 5, 6, 7, 8, 9, 10], [0]), ([11, 0, 1, 2, 3, 4, 5, 6, 7, 8, 9, 10], [11]), ([12, 10, 10, 0, 1, 2, 3, 4, 5, 6, 7, 8, 9, 10], [10, 12])])
def turn.B7 : List Nat := [0, 0, 2, 6, 14, 0, 32, 0, 128, 384, 1022, 2047, 4095, 8191]
theorem turn.tab7 : rtab .any (opsOf Try.f25 7) = turn.T7 := by kernel_rfl
theorem turn.bits7 : waitsOk turn.T7.2 turn.B7 = true := by kernel_rfl
theorem turn_drop {i k : Int} {n : Nat} (hn : n < m.length) (hin : i = n) (hF : Fl w base P g u m) : Calls Try.prog 25 #[.pointer (some ⟨g, 0, none⟩), .agg #[.int .i64 2, .int .i64 i, .int .i64 k]] w fun e w' => ∃ u', e = .returned (.int .i64 0) ∧ Fl w' base P g u' (m.eraseIdx n) ∧ After w w' g u u' := by
  obtain ⟨A, c, rfl, hc, hC⟩ := Kd.R_reads hF.row
  have hl63 := hC.2.1
  have HB := zA (Below.refl w.heap.size w)
  have FL := zA hF
  have HT : Aside0 (inB m i = true) := ⟨by unfold inB; simp; omega⟩
  unfold inB at HT
  have HN := zA hin
  have HNN := zA hn
  clear hn hin
  go_enter Try.func25, Try.ntmps25
  go_wp2_with (first | ((with_reducible refine gate_dst (N := 3) rfl ?_); refine zb (N := 3) (cs := #[.int .i64 2, .int .i64 i, .int .i64 k]) (t := 29) ?_; intro G3 hg w3 hbox hb; have NF := zA (Fl.fresh FL.out hg); have K3 := zA hbox; have GW3 := zN HB hg; replace FL := zA (FL.out.below hb); replace HB := zS HB hb; clear hb hbox hg; obtain ⟨h0, h1, h2, _, _, _⟩ := zc3 K3; obtain ⟨s0, s1, _, _⟩ := zc2 (zA FL.out.blk)) | (go_at_call 34; (with_reducible refine (there_calls FL.out.blk hl63 i).mono ?_); rw [HT.out]; rintro e w5 ⟨rfl, hww⟩; replace hww := hww.symm; subst hww))
  refine start_ (n := 14) (S := fun w' => w'.cell? ⟨g, 1, none⟩ = some (.slice A m.length c) ∧ w'.cell? ⟨G3, 1, none⟩ = some (.int .i64 i)) (ds := [13]) #[F,F,F,F,F,F,F,F,F,F,F,F,F,F] (by kernel_rfl) rfl rfl ⟨s1, h1⟩ (fun hHeld => ?_)
  refine with_tabW turn.tab7 turn.bits7 (fun HT_ HW_ => ?_)
  replace FL := zA FL.out.drew
  replace K3 := zA (bD K3.1)
  replace HB := zA (bw1 HB.1)
  clear h0 h1 h2 s0 s1
  generalize w3.drew = w4 at FL K3 HB hHeld ⊢
  refine pz 0 49 #[T,F,F,F,F,F,F,F,F,F,F,F,F,F] HT_.1 ?_
  refine pz 1 50 #[T,T,F,F,F,F,F,F,F,F,F,F,F,F] HT_.1 ?_
  refine pz 2 51 #[T,T,T,F,F,F,F,F,F,F,F,F,F,F] HT_.1 ?_
  refine pz 3 52 #[T,T,T,T,F,F,F,F,F,F,F,F,F,F] HT_.1 ?_
  refine tz 4 53 #[T,T,T,T,T,F,F,F,F,F,F,F,F,F] HT_.1 HW_.1 hHeld ?_
  refine pz 5 54 #[T,T,T,T,T,T,F,F,F,F,F,F,F,F] HT_.1 ?_
  refine tz 6 55 #[T,T,T,T,T,T,T,F,F,F,F,F,F,F] HT_.1 HW_.1 hHeld ?_
  refine pz 7 56 #[T,T,T,T,T,T,T,T,F,F,F,F,F,F] HT_.1 ?_
  refine tz 8 57 #[T,T,T,T,T,T,T,T,T,F,F,F,F,F] HT_.1 HW_.1 hHeld ?_
  refine pz 9 58 #[T,T,T,T,T,T,T,T,T,T,F,F,F,F] HT_.1 ?_
  refine one_ (i := 10) (N := some 59) #[T,T,T,T,T,T,T,T,T,T,T,F,F,F] rfl rfl (one_of HT_.out (by kernel_rfl)) (by decide) (fun K hK => ?_)
  refine zo_ Try.func35 #[.slice A m.length c, .int .i64 i, .int .i64 (wrap64 (i + 1))] ?_
  refine (del_calls_i FL.out.row HNN.out hl63 HN.out).mono ?_
  rintro e w9 ⟨v, rfl, hv, hvb, hgr⟩
  have hne1 := own_ne (R27.1 FL.out.row).2 FL.out.blk (by decide)
  have K1 := zA (blk_grown FL.out.blk hgr hne1)
  replace K3 := zA (blk_grown K3.out hgr NF.out.2)
  refine ⟨_, rfl, ?_⟩
  refine hK.out _ _ ⟨(bC K1.out 1).trans rfl, (bC K3.out 1).trans rfl⟩ (fun hHeld => ?_)
  clear hK K
  refine nz 59 ?_
  refine pz 11 60 #[T,T,T,T,T,T,T,T,T,T,T,T,F,F] HT_.1 ?_
  refine pz 12 61 #[T,T,T,T,T,T,T,T,T,T,T,T,T,F] HT_.1 ?_
  refine last_ (i := 13) (N := none) #[T,T,T,T,T,T,T,T,T,T,T,T,T,T] rfl rfl (one_of HT_.out (by kernel_rfl)) (by decide) (fun K hK => ?_)
  obtain ⟨_, s1, _, _⟩ := zc2 K1
  obtain ⟨A2, c2, rfl⟩ := Kd.R_slice hv
  refine sz ?_
  refine hK.out _ _ ?_
  clear hK K
  refine done_ (done_of HT_.out (by kernel_rfl)) ?_
  go_wp2
  go_ret
  obtain ⟨e1, e2⟩ := cut_end hF HB.out K1.out hv hgr hvb
  exact ⟨_, rfl, e1, e2⟩
end
end Go.Proofs.Ytpcipmhblknokaa.Ch
