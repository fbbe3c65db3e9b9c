/- What turn does, by hand (part four): Cut. -/
import Derived.Test.YtpcipmhblknokaaCR
namespace Go.Proofs.Ytpcipmhblknokaa.Ch
open Go.RowKit Go.Proofs.Ytpcipmhblknokaa.XC Go.Proofs.YtpcipmhblknokaaW.PrintWords Go.Proofs.YtpcipmhblknokaaW.PrintLast Go.Proofs.YtpcipmhblknokaaW.PrintMore
attribute [local go_sem] max2_int min2_int max_two min_two max_three min_three max_four min_four   -- for this text's walks alone
set_option linter.unusedVariables false
set_option linter.unusedSimpArgs false
open List renaming setIfInBounds_toArray → xA, set_cons_zero → xB, set_cons_succ → xC
open Go.Proofs.YtpcipmhblknokaaW.PrintWords renaming blk_drewN → bN, blk_drew → bD, blk_alloc → bA, below_set → bS, blk_frozen → bF, blk_cell → bC, cell_far → cF, blk_far → bZ, blk_below → bB, pw_below_drewN → bwN, below_drew1 → bw1, below_alloc → bwA
open Go.Proofs.YtpcipmhblknokaaW.PrintZ
open Bool renaming true → T,false → F

set_option maxRecDepth 100000
set_option maxHeartbeats 8000000
section
variable {w : World} {base g ga gb : Nat} {P : Nat → Prop} {u : Value} {m : List S27} {a b : Int}
theorem delf_calls (hR : Kd.R k27 27 w base P u m) (ha : w.heap[ga]? = some (.cells #[.int .i64 a] 3 (0, 0))) (hb : w.heap[gb]? = some (.cells #[.int .i64 b] 3 (0, 0))) (hna : some ga ≠ u.ownBlock) (hnb : some gb ≠ u.ownBlock) :
    Calls Try.prog 37 #[u, FV ga gb] w fun e w' => ∃ v, e = .returned v ∧ Kd.R k27 27 w' base P v (keepB a b m) ∧ v.ownBlock = u.ownBlock ∧ w.grownBy w' u.ownBlock := by
  cases hf : m.findIdx? (betB a b) with
  | none =>
    rw [List.findIdx?_eq_none_iff] at hf
    have hall : ∀ x ∈ m, betB a b x = false := fun x hx => by simpa using hf x hx
    refine (delf_none hR ha hb hall).mono fun e w' ⟨he, hbl⟩ => ⟨u, he, by rw [keepB_all hall]; exact Kd.R_below hR hbl, rfl, grown_below ⟨rfl, rfl, rfl, Nat.le_refl _, fun _ _ _ => rfl⟩ hbl⟩
  | some n =>
    rw [List.findIdx?_eq_some_iff_getElem] at hf
    obtain ⟨hn, h1, h2⟩ := hf
    refine delf_some hR ha hb hna hnb (List.getElem?_eq_getElem hn) h1 fun x hx => ?_
    obtain ⟨i, hi, rfl⟩ := List.getElem_of_mem hx
    rw [List.length_take] at hi
    rw [List.getElem_take]
    simpa using h2 i (by omega)
theorem check_calls {w : World} (x : Int) : Calls Try.prog 36 #[.int .i64 x] w fun e w' => e = .returned (.int .i64 (if idB x = true then 0 else 20)) ∧ Below w.heap.size w w' := by
  refine (ident_CheckId.calls x _ w (id_f x)).mono fun e w' ⟨he, hd⟩ => ⟨he, hd.below⟩
theorem turn_cut_bad1 {i k : Int} (hi : idB i = false) (hF : Fl w base P g u m) : Calls Try.prog 25 #[.pointer (some ⟨g, 0, none⟩), .agg #[.int .i64 7, .int .i64 i, .int .i64 k]] w fun e w' => e = .returned (.int .i64 1) ∧ Below w.heap.size w w' := by
  obtain ⟨A, c, rfl, hc, hC⟩ := Kd.R_reads hF.row
  have hl63 := hC.2.1
  have HB := zA (Below.refl w.heap.size w)
  have FL := zA hF
  have HI : Aside0 ((if idB i = true then (0 : Int) else 20) = 20) := ⟨by rw [hi]; rfl⟩
  clear hi
  go_enter Try.func25, Try.ntmps25
  go_wp2_with (first | ((with_reducible refine gate_dst (N := 3) rfl ?_); refine zb (N := 3) (cs := #[.int .i64 7, .int .i64 i, .int .i64 k]) (t := 29) ?_; intro G3 hg w3 hbox hb; have NF := zA (Fl.fresh FL.out hg); have K3 := zA hbox; have GW3 := zN HB hg; replace FL := zA (FL.out.below hb); replace HB := zS HB hb; clear hb hbox hg; obtain ⟨h0, h1, h2, _, _, _⟩ := zc3 K3; obtain ⟨s0, s1, _, _⟩ := zc2 (zA FL.out.blk)) | ((with_reducible refine gate_callee (f := 36) rfl ?_); refine zg (some 172) Try.func36 #[.int .i64 i] ?_; (with_reducible refine (check_calls i).mono ?_); rw [HI.out]; rintro e w5 ⟨rfl, hb⟩; refine ⟨_, rfl, ?_⟩; replace K3 := zB K3 hb; replace FL := zA (FL.out.below hb); replace HB := zS HB hb; clear hb; obtain ⟨h0, h1, h2, _, _, _⟩ := zc3 K3))
  go_ret
  exact ⟨rfl, zH HB⟩
theorem turn_cut_bad2 {i k : Int} (hi : idB i = true) (hk : idB k = false) (hF : Fl w base P g u m) : Calls Try.prog 25 #[.pointer (some ⟨g, 0, none⟩), .agg #[.int .i64 7, .int .i64 i, .int .i64 k]] w fun e w' => e = .returned (.int .i64 1) ∧ Below w.heap.size w w' := by
  obtain ⟨A, c, rfl, hc, hC⟩ := Kd.R_reads hF.row
  have hl63 := hC.2.1
  have HB := zA (Below.refl w.heap.size w)
  have FL := zA hF
  have HI : Aside0 ((if idB i = true then (0 : Int) else 20) = 0) := ⟨by rw [hi]; rfl⟩
  clear hi
  have HK : Aside0 ((if idB k = true then (0 : Int) else 20) = 20) := ⟨by rw [hk]; rfl⟩
  clear hk
  go_enter Try.func25, Try.ntmps25
  go_wp2_with (first | ((with_reducible refine gate_dst (N := 3) rfl ?_); refine zb (N := 3) (cs := #[.int .i64 7, .int .i64 i, .int .i64 k]) (t := 29) ?_; intro G3 hg w3 hbox hb; have NF := zA (Fl.fresh FL.out hg); have K3 := zA hbox; have GW3 := zN HB hg; replace FL := zA (FL.out.below hb); replace HB := zS HB hb; clear hb hbox hg; obtain ⟨h0, h1, h2, _, _, _⟩ := zc3 K3; obtain ⟨s0, s1, _, _⟩ := zc2 (zA FL.out.blk)) | ((with_reducible refine gate_callee (f := 36) rfl ?_); refine zg (some 172) Try.func36 #[.int .i64 i] ?_; (with_reducible refine (check_calls i).mono ?_); rw [HI.out]; rintro e w5 ⟨rfl, hb⟩; refine ⟨_, rfl, ?_⟩; replace K3 := zB K3 hb; replace FL := zA (FL.out.below hb); replace HB := zS HB hb; clear hb; obtain ⟨h0, h1, h2, _, _, _⟩ := zc3 K3) | (go_at_call 36; (with_reducible refine (check_calls k).mono ?_); rw [HK.out]; rintro e w6 ⟨rfl, hb⟩; replace K3 := zB K3 hb; replace FL := zA (FL.out.below hb); replace HB := zS HB hb; clear hb; obtain ⟨h0, h1, h2, _, _, _⟩ := zc3 K3; obtain ⟨s0, s1, _, _⟩ := zc2 (zA FL.out.blk)))
  go_ret
  exact ⟨rfl, zH HB⟩
theorem turn_cut_bad3 {i k : Int} (hi : idB i = true) (hk : idB k = true) (he : i = k) (hF : Fl w base P g u m) : Calls Try.prog 25 #[.pointer (some ⟨g, 0, none⟩), .agg #[.int .i64 7, .int .i64 i, .int .i64 k]] w fun e w' => e = .returned (.int .i64 1) ∧ Below w.heap.size w w' := by
  obtain ⟨A, c, rfl, hc, hC⟩ := Kd.R_reads hF.row
  have hl63 := hC.2.1
  have HB := zA (Below.refl w.heap.size w)
  have FL := zA hF
  have HI : Aside0 ((if idB i = true then (0 : Int) else 20) = 0) := ⟨by rw [hi]; rfl⟩
  clear hi
  have HK : Aside0 ((if idB k = true then (0 : Int) else 20) = 0) := ⟨by rw [hk]; rfl⟩
  clear hk
  have e1 : (i == k) = true := beq_iff_eq.mpr he
  clear he
  go_enter Try.func25, Try.ntmps25
  go_wp2_with (first | ((with_reducible refine gate_dst (N := 3) rfl ?_); refine zb (N := 3) (cs := #[.int .i64 7, .int .i64 i, .int .i64 k]) (t := 29) ?_; intro G3 hg w3 hbox hb; have NF := zA (Fl.fresh FL.out hg); have K3 := zA hbox; have GW3 := zN HB hg; replace FL := zA (FL.out.below hb); replace HB := zS HB hb; clear hb hbox hg; obtain ⟨h0, h1, h2, _, _, _⟩ := zc3 K3; obtain ⟨s0, s1, _, _⟩ := zc2 (zA FL.out.blk)) | ((with_reducible refine gate_callee (f := 36) rfl ?_); refine zg (some 172) Try.func36 #[.int .i64 i] ?_; (with_reducible refine (check_calls i).mono ?_); rw [HI.out]; rintro e w5 ⟨rfl, hb⟩; refine ⟨_, rfl, ?_⟩; replace K3 := zB K3 hb; replace FL := zA (FL.out.below hb); replace HB := zS HB hb; clear hb; obtain ⟨h0, h1, h2, _, _, _⟩ := zc3 K3) | (go_at_call 36; (with_reducible refine (check_calls k).mono ?_); rw [HK.out]; rintro e w6 ⟨rfl, hb⟩; replace K3 := zB K3 hb; replace FL := zA (FL.out.below hb); replace HB := zS HB hb; clear hb; obtain ⟨h0, h1, h2, _, _, _⟩ := zc3 K3; obtain ⟨s0, s1, _, _⟩ := zc2 (zA FL.out.blk)))
  go_ret
  exact ⟨rfl, zH HB⟩
def turn.T25 : Bool × List (List Nat × List Nat) := (true, [([], []), ([], []), ([1], [1]), ([2], [2]), ([3], [3]), ([], []), ([5], [5]), ([], []), ([7], [7]), ([6, 8], [6, 8]), ([4, 9, 9], [4, 9]), ([0, 0, 1, 2, 3, 4, 5, 6, 7, 8, 9, 10], [0]), ([11, 0, 1, 2, 3, 4, 5, 6, 7, 8, 9, 10], [11]), ([12, 10, 10, 0, 1, 2, 3, 4, 5, 6, 7, 8, 9, 10], [10, 12])])
def turn.B25 : List Nat := [0, 0, 2, 6, 14, 0, 32, 0, 128, 480, 1022, 2047, 4095, 8191]
theorem turn.tab25 : rtab .any (opsOf Try.f25 25) = turn.T25 := by kernel_rfl
theorem turn.bits25 : waitsOk turn.T25.2 turn.B25 = true := by kernel_rfl
theorem turn_cut {i k : Int} (hi : idB i = true) (hk : idB k = true) (he : i ≠ k) (hF : Fl w base P g u m) : Calls Try.prog 25 #[.pointer (some ⟨g, 0, none⟩), .agg #[.int .i64 7, .int .i64 i, .int .i64 k]] w fun e w' => ∃ u', e = .returned (.int .i64 0) ∧ Fl w' base P g u' (keepB i k m) ∧ After w w' g u u' := by
  obtain ⟨A, c, rfl, hc, hC⟩ := Kd.R_reads hF.row
  have hl63 := hC.2.1
  have HB := zA (Below.refl w.heap.size w)
  have FL := zA hF
  have HI : Aside0 ((if idB i = true then (0 : Int) else 20) = 0) := ⟨by rw [hi]; rfl⟩
  clear hi
  have HK : Aside0 ((if idB k = true then (0 : Int) else 20) = 0) := ⟨by rw [hk]; rfl⟩
  clear hk
  have e1 : (i == k) = false := beq_eq_false_iff_ne.mpr he
  clear he
  go_enter Try.func25, Try.ntmps25
  go_wp2_with (first | ((with_reducible refine gate_dst (N := 3) rfl ?_); refine zb (N := 3) (cs := #[.int .i64 7, .int .i64 i, .int .i64 k]) (t := 29) ?_; intro G3 hg w3 hbox hb; have NF := zA (Fl.fresh FL.out hg); have K3 := zA hbox; have GW3 := zN HB hg; replace FL := zA (FL.out.below hb); replace HB := zS HB hb; clear hb hbox hg; obtain ⟨h0, h1, h2, _, _, _⟩ := zc3 K3; obtain ⟨s0, s1, _, _⟩ := zc2 (zA FL.out.blk)) | ((with_reducible refine gate_callee (f := 36) rfl ?_); refine zg (some 172) Try.func36 #[.int .i64 i] ?_; (with_reducible refine (check_calls i).mono ?_); rw [HI.out]; rintro e w5 ⟨rfl, hb⟩; refine ⟨_, rfl, ?_⟩; replace K3 := zB K3 hb; replace FL := zA (FL.out.below hb); replace HB := zS HB hb; clear hb; obtain ⟨h0, h1, h2, _, _, _⟩ := zc3 K3) | (go_at_call 36; (with_reducible refine (check_calls k).mono ?_); rw [HK.out]; rintro e w6 ⟨rfl, hb⟩; replace K3 := zB K3 hb; replace FL := zA (FL.out.below hb); replace HB := zS HB hb; clear hb; obtain ⟨h0, h1, h2, _, _, _⟩ := zc3 K3; obtain ⟨s0, s1, _, _⟩ := zc2 (zA FL.out.blk)))
  refine start_ (n := 14) (S := fun w' => w'.cell? ⟨g, 1, none⟩ = some (.slice A m.length c) ∧ w'.cell? ⟨G3, 1, none⟩ = some (.int .i64 i) ∧ w'.cell? ⟨G3, 2, none⟩ = some (.int .i64 k)) (ds := [13]) #[F,F,F,F,F,F,F,F,F,F,F,F,F,F] (by kernel_rfl) rfl rfl ⟨s1, h1, h2⟩ (fun hHeld => ?_)
  refine with_tabW turn.tab25 turn.bits25 (fun HT_ HW_ => ?_)
  replace FL := zA FL.out.drew
  replace K3 := zA (bD K3.1)
  replace HB := zA (bw1 HB.1)
  clear h0 h1 h2 s0 s1
  generalize w6.drew = w4 at FL K3 HB hHeld ⊢
  refine pz 0 187 #[T,F,F,F,F,F,F,F,F,F,F,F,F,F] HT_.1 ?_
  refine pz 1 188 #[T,T,F,F,F,F,F,F,F,F,F,F,F,F] HT_.1 ?_
  refine pz 2 189 #[T,T,T,F,F,F,F,F,F,F,F,F,F,F] HT_.1 ?_
  refine pz 3 190 #[T,T,T,T,F,F,F,F,F,F,F,F,F,F] HT_.1 ?_
  refine tz 4 191 #[T,T,T,T,T,F,F,F,F,F,F,F,F,F] HT_.1 HW_.1 hHeld ?_
  refine pz 5 192 #[T,T,T,T,T,T,F,F,F,F,F,F,F,F] HT_.1 ?_
  refine tz 6 193 #[T,T,T,T,T,T,T,F,F,F,F,F,F,F] HT_.1 HW_.1 hHeld ?_
  refine pz 7 194 #[T,T,T,T,T,T,T,T,F,F,F,F,F,F] HT_.1 ?_
  refine tz 8 195 #[T,T,T,T,T,T,T,T,T,F,F,F,F,F] HT_.1 HW_.1 hHeld ?_
  refine one_ (i := 9) (N := some 196) #[T,T,T,T,T,T,T,T,T,T,F,F,F,F] rfl rfl (one_of HT_.out (by kernel_rfl)) (by decide) (fun K hK => ?_)
  refine zo_ Try.func38 #[.int .i64 i, .int .i64 k] ?_
  refine (between_calls i k).mono ?_
  rintro e w7 ⟨ga, gb, rfl, ha, hb, hga, hgb, hbl⟩
  have KA := zA ha
  have KB := zA hb
  have NO : Aside0 (some ga ≠ (Value.slice A m.length c).ownBlock ∧ some gb ≠ (Value.slice A m.length c).ownBlock) := ⟨by have h := own_lt (R27.1 FL.out.row).2; exact ⟨fun e => by have := h _ e.symm; omega, fun e => by have := h _ e.symm; omega⟩⟩
  replace K3 := zB K3 hbl
  replace FL := zA (FL.out.below hbl)
  replace HB := zS HB hbl
  clear ha hb hga hgb hbl
  refine ⟨_, rfl, ?_⟩
  refine hK.out _ _ ⟨(bC FL.out.blk 1).trans rfl, (bC K3.out 1).trans rfl, (bC K3.out 2).trans rfl⟩ (fun hHeld => ?_)
  clear hK K
  unfold FV
  refine nz 196 ?_
  refine one_ (i := 10) (N := some 197) #[T,T,T,T,T,T,T,T,T,T,T,F,F,F] rfl rfl (one_of HT_.out (by kernel_rfl)) (by decide) (fun K hK => ?_)
  refine zo_ Try.func37 #[.slice A m.length c, FV ga gb] ?_
  refine (delf_calls FL.out.row KA.out KB.out NO.out.1 NO.out.2).mono ?_
  rintro e w9 ⟨v, rfl, hv, hvb, hgr⟩
  have hne1 := own_ne (R27.1 FL.out.row).2 FL.out.blk (by decide)
  have K1 := zA (blk_grown FL.out.blk hgr hne1)
  replace K3 := zA (blk_grown K3.out hgr NF.out.2)
  refine ⟨_, rfl, ?_⟩
  refine hK.out _ _ ⟨(bC K1.out 1).trans rfl, (bC K3.out 1).trans rfl, (bC K3.out 2).trans rfl⟩ (fun hHeld => ?_)
  clear hK K
  refine nz 197 ?_
  refine pz 11 198 #[T,T,T,T,T,T,T,T,T,T,T,T,F,F] HT_.1 ?_
  refine pz 12 199 #[T,T,T,T,T,T,T,T,T,T,T,T,T,F] HT_.1 ?_
  refine last_ (i := 13) (N := none) #[T,T,T,T,T,T,T,T,T,T,T,T,T,T] rfl rfl (one_of HT_.out (by kernel_rfl)) (by decide) (fun K hK => ?_)
  obtain ⟨_, s1, _, _⟩ := zc2 K1
  obtain ⟨A2, c2, rfl⟩ := Kd.R_slice hv
  refine sz ?_
  refine hK.out _ _ ?_
  clear hK K
  refine done_ (done_of HT_.out (by kernel_rfl)) ?_
  go_wp2
  go_ret
  obtain ⟨e1, e2⟩ := cut_end hF HB.out K1.out hv hgr hvb
  exact ⟨_, rfl, e1, e2⟩
end
end Go.Proofs.Ytpcipmhblknokaa.Ch
