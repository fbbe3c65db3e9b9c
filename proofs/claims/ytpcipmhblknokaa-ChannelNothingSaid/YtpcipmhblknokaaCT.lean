/- What turn, Take and Do do, in one. -/
import Derived.Test.YtpcipmhblknokaaCS
namespace Go.Proofs.Ytpcipmhblknokaa.Ch
open Go.RowKit Go.Proofs.Ytpcipmhblknokaa.XC Go.Proofs.YtpcipmhblknokaaW.PrintWords Go.Proofs.YtpcipmhblknokaaW.PrintLast Go.Proofs.YtpcipmhblknokaaW.PrintMore
attribute [local go_sem] max2_int min2_int max_two min_two max_three min_three max_four min_four   -- for this text's walks alone
set_option linter.unusedVariables false
set_option linter.unusedSimpArgs false
open List renaming setIfInBounds_toArray → xA, set_cons_zero → xB, set_cons_succ → xC
open Go.Proofs.YtpcipmhblknokaaW.PrintWords renaming blk_drewN → bN, blk_drew → bD, blk_alloc → bA, below_set → bS, blk_frozen → bF, blk_cell → bC, cell_far → cF, blk_far → bZ, blk_below → bB, pw_below_drewN → bwN, below_drew1 → bw1, below_alloc → bwA
open Go.Proofs.YtpcipmhblknokaaW.PrintZ
open Bool renaming true → T,false → F

set_option maxRecDepth 100000
set_option maxHeartbeats 4000000
/-- The datagram at a place, if there is one. -/
def atI (m : List S27) (i : Int) : Option S27 := if inB m i = true then m[i.toNat]? else none
def z27 : S27 := ⟨0, 0, ⟨#[]⟩, 0⟩
def turnR (m : List S27) (q i k : Int) : List S27 × Int :=
  if q = 6 then (m.map tk, 0)
  else if q = 7 then (if idB i = true then (if idB k = true then (if i = k then (m, 1) else (keepB i k m, 0)) else (m, 1)) else (m, 1))
  else if q = 2 then (match atI m i with | none => (m, 4) | some _ => (m.eraseIdx i.toNat, 0))
  else if q = 3 then (match atI m i with | none => (m, 4) | some y => (putM m y, putE m y))
  else if q = 4 then (match atI m i with | none => (m, 4) | some y => if k < 0 then (m, 1) else if 65536 - y.f3 < k then (m, 1) else (m.set i.toNat (waitS y (y.f3 + k)), 0))
  else if q = 5 then (match atI m i with | none => (m, 4) | some y => match atI m k with | none => (m, 4) | some z => ((m.set i.toNat z).set k.toNat y, 0))
  else (m, 1)
def takeR (m : List S27) (i : Int) : List S27 × S27 × Int :=
  match atI m i with | none => (m, z27, 4) | some y => if 0 < y.f3 then (m, z27, 1) else (m.eraseIdx i.toNat, y, 0)
def doR (m : List S27) (q i k : Int) : List S27 × S27 × Int := if q = 1 then takeR m i else ((turnR m q i k).1, z27, (turnR m q i k).2)
/-- Every datagram may be, and they are not too many. -/
structure Good (m : List S27) : Prop where
  all : ∀ x ∈ m, mayB x = true
  len : m.length ≤ 65536
theorem at_none {m : List S27} {i : Int} (h : atI m i = none) : inB m i = false := by
  unfold atI at h
  by_cases hb : inB m i = true
  · rw [if_pos hb] at h
    unfold inB at hb
    simp only [Bool.and_eq_true, decide_eq_true_eq] at hb
    rw [List.getElem?_eq_none_iff] at h
    omega
  · simpa using hb
theorem at_some {m : List S27} {i : Int} {y : S27} (h : atI m i = some y) : inB m i = true ∧ i = ((i.toNat : Nat) : Int) ∧ i.toNat < m.length ∧ m[i.toNat]? = some y := by
  unfold atI at h
  by_cases hb : inB m i = true
  · rw [if_pos hb] at h
    have hb' := hb
    unfold inB at hb'
    simp only [Bool.and_eq_true, decide_eq_true_eq] at hb'
    exact ⟨hb, by omega, by omega, h⟩
  · rw [if_neg hb] at h
    cases h
theorem may_wait {x : S27} (h : mayB x = true) : 0 ≤ x.f3 ∧ x.f3 ≤ 65536 := by
  unfold mayB at h
  simp only [Bool.and_eq_true, decide_eq_true_eq] at h
  exact h.2.2.2.2
section
variable {w : World} {base g : Nat} {P : Nat → Prop} {u : Value} {m : List S27}
abbrev Did (w w' : World) (base : Nat) (P : Nat → Prop) (g : Nat) (u u' : Value) (m' : List S27) : Prop := Fl w' base P g u' m' ∧ After w w' g u u'
theorem did_same {w' : World} (hF : Fl w base P g u m) (hb : Below w.heap.size w w') : Did w w' base P g u u m := ⟨hF.below hb, After.of_below hb g u⟩
theorem turn_calls {q i k : Int} (hG : Good m) (hF : Fl w base P g u m) (hb0 : base ≤ w.heap.size) (hP : ∀ k, w.heap.size ≤ k → P k) : Calls Try.prog 25 #[.pointer (some ⟨g, 0, none⟩), .agg #[.int .i64 q, .int .i64 i, .int .i64 k]] w fun e w' => ∃ u', e = .returned (.int .i64 (turnR m q i k).2) ∧ Did w w' base P g u u' (turnR m q i k).1 := by
  unfold turnR
  by_cases h6 : q = 6
  · subst h6
    rw [if_pos rfl]
    exact (turn_tick hF).mono fun e w' ⟨he, h1, h2⟩ => ⟨u, he, h1, h2⟩
  rw [if_neg h6]
  by_cases h7 : q = 7
  · subst h7
    rw [if_pos rfl]
    by_cases hi : idB i = true
    · rw [if_pos hi]
      by_cases hk : idB k = true
      · rw [if_pos hk]
        by_cases he : i = k
        · rw [if_pos he]
          exact (turn_cut_bad3 hi hk he hF).mono fun e w' ⟨he, hb⟩ => ⟨u, he, did_same hF hb⟩
        · rw [if_neg he]
          exact turn_cut hi hk he hF
      · rw [if_neg hk]
        exact (turn_cut_bad2 hi (by simpa using hk) hF).mono fun e w' ⟨he, hb⟩ => ⟨u, he, did_same hF hb⟩
    · rw [if_neg hi]
      exact (turn_cut_bad1 (by simpa using hi) hF).mono fun e w' ⟨he, hb⟩ => ⟨u, he, did_same hF hb⟩
  rw [if_neg h7]
  by_cases h2 : q = 2
  · subst h2
    rw [if_pos rfl]
    cases ha : atI m i with
    | none => exact (turn2_none (at_none ha) hF).mono fun e w' ⟨he, hb⟩ => ⟨u, he, did_same hF hb⟩
    | some y =>
      obtain ⟨_, hi, hn, hy⟩ := at_some ha
      exact turn_drop hn hi hF
  rw [if_neg h2]
  by_cases h3 : q = 3
  · subst h3
    rw [if_pos rfl]
    cases ha : atI m i with
    | none => exact (turn3_none (at_none ha) hF).mono fun e w' ⟨he, hb⟩ => ⟨u, he, did_same hF hb⟩
    | some y =>
      obtain ⟨_, hi, hn, hy⟩ := at_some ha
      have h := turn_double (k := k) hy hF hb0 hP
      rw [← hi] at h
      exact h
  rw [if_neg h3]
  by_cases h4 : q = 4
  · subst h4
    rw [if_pos rfl]
    cases ha : atI m i with
    | none => exact (turn4_none (at_none ha) hF).mono fun e w' ⟨he, hb⟩ => ⟨u, he, did_same hF hb⟩
    | some y =>
      obtain ⟨_, hi, hn, hy⟩ := at_some ha
      obtain ⟨w0, w1⟩ := may_wait (hG.all y (List.mem_of_getElem? hy))
      simp only
      by_cases hk : k < 0
      · rw [if_pos hk]
        have h := turn_delay_neg hy hk hF
        rw [← hi] at h
        exact h.mono fun e w' ⟨he, hb⟩ => ⟨u, he, did_same hF hb⟩
      · rw [if_neg hk]
        by_cases hk2 : 65536 - y.f3 < k
        · rw [if_pos hk2]
          have h := turn_delay_far hy hk w0 w1 hk2 hF
          rw [← hi] at h
          exact h.mono fun e w' ⟨he, hb⟩ => ⟨u, he, did_same hF hb⟩
        · rw [if_neg hk2]
          have h := turn_delay_ok hy hk w0 w1 hk2 hF
          rw [← hi] at h
          exact h.mono fun e w' ⟨he, h1, h2⟩ => ⟨u, he, h1, h2⟩
  rw [if_neg h4]
  by_cases h5 : q = 5
  · subst h5
    rw [if_pos rfl]
    cases ha : atI m i with
    | none => exact (turn5_none (at_none ha) hF).mono fun e w' ⟨he, hb⟩ => ⟨u, he, did_same hF hb⟩
    | some y =>
      obtain ⟨hin, hi, hn, hy⟩ := at_some ha
      cases hc : atI m k with
      | none => exact (turn5_none2 hin (at_none hc) hF).mono fun e w' ⟨he, hb⟩ => ⟨u, he, did_same hF hb⟩
      | some z =>
        obtain ⟨_, hk, _, hz⟩ := at_some hc
        have h := turn_swap hy hz hF
        rw [← hi, ← hk] at h
        exact h.mono fun e w' ⟨he, h1, h2⟩ => ⟨u, he, h1, h2⟩
  rw [if_neg h5]
  exact (turn_other ⟨h2, h3, h4, h5, h6, h7⟩ hF).mono fun e w' ⟨he, hb⟩ => ⟨u, he, did_same hF hb⟩
abbrev gV (x : S27) : Value := .agg #[.int .i64 x.f0, .int .i64 x.f1, .string x.f2, .int .i64 x.f3]
theorem rd_y {n : Nat} {y : S27} (hn : n < m.length) (hy : m[n]? = some y) : rd_T27 m (n : Int) = y := by
  rw [rd27 hn]
  rw [List.getElem?_eq_getElem hn] at hy
  exact Option.some.inj hy
theorem take_calls {i : Int} (hF : Fl w base P g u m) : Calls Try.prog 20 #[.pointer (some ⟨g, 0, none⟩), .int .i64 i] w fun e w' => ∃ u', e = .returned (.tuple #[gV (takeR m i).2.1, .int .i64 (takeR m i).2.2]) ∧ Did w w' base P g u u' (takeR m i).1 := by
  unfold takeR
  cases ha : atI m i with
  | none => exact (take_none (at_none ha) hF).mono fun e w' ⟨he, hb⟩ => ⟨u, he, did_same hF hb⟩
  | some y =>
    obtain ⟨hin, hi, hn, hy⟩ := at_some ha
    have hr := rd_y hn hy
    simp only
    by_cases h : 0 < y.f3
    · rw [if_pos h]
      have h1 := take_wait hn (by rw [hr]; exact h) hF
      rw [← hi] at h1
      exact h1.mono fun e w' ⟨he, hb⟩ => ⟨u, he, did_same hF hb⟩
    · rw [if_neg h]
      have h1 := take_yes hn (by rw [hr]; exact h) hF
      rw [hr, ← hi] at h1
      exact h1.mono fun e w' ⟨u', he, h1, h2, h3⟩ => ⟨u', he, h1, h2, .inl h3⟩
theorem is_y (hF : Fl w base P g u m) : Calls Try.prog 22 #[.pointer (some ⟨g, 0, none⟩)] w fun e w' => e = .returned (.bool true) ∧ w' = w := by
  obtain ⟨A, c, rfl, hc, hC⟩ := Kd.R_reads hF.row
  exact is_calls hF.blk
theorem take_r {i x : Int} {m' : List S27} {y : S27} (hr : takeR m i = (m', y, x)) (hF : Fl w base P g u m) : Calls Try.prog 20 #[.pointer (some ⟨g, 0, none⟩), .int .i64 i] w fun e w' => ∃ u', e = .returned (.tuple #[gV y, .int .i64 x]) ∧ Did w w' base P g u u' m' := by
  have h := take_calls (i := i) hF
  rw [hr] at h
  exact h
theorem turn_r {q i k x : Int} {m' : List S27} (hr : turnR m q i k = (m', x)) (hG : Good m) (hF : Fl w base P g u m) (hb0 : base ≤ w.heap.size) (hP : ∀ k, w.heap.size ≤ k → P k) : Calls Try.prog 25 #[.pointer (some ⟨g, 0, none⟩), .agg #[.int .i64 q, .int .i64 i, .int .i64 k]] w fun e w' => ∃ u', e = .returned (.int .i64 x) ∧ Did w w' base P g u u' m' := by
  have h := turn_calls (q := q) (i := i) (k := k) hG hF hb0 hP
  rw [hr] at h
  exact h
theorem blk_did {W W' : World} {u' : Value} {G : Nat} {o : Obj} (h : W.heap[G]? = some o) (hA : After W W' g u u') (hN : g ≠ G ∧ some G ≠ u.ownBlock) : W'.heap[G]? = some o := (hA.1.block G (blk_lt h) (fun e => hN.1 e.symm) hN.2).trans h
theorem Did.st4 {W W' : World} {u' : Value} {G : Nat} {m' : List S27} {o : Obj} (hD : Did W W' base P g u u' m') (hb : Below w.heap.size w W) (hG : w.heap.size ≤ G) (hGW : W.heap[G]? = some o) (hN : g ≠ G ∧ some G ≠ u.ownBlock) (a b c d : Value) :
    Did w ((((W'.setCell ⟨G, 0, none⟩ a).setCell ⟨G, 1, none⟩ b).setCell ⟨G, 2, none⟩ c).setCell ⟨G, 3, none⟩ d) base P g u u' m' := by
  have h := After.up hb hD.2
  refine ⟨hD.1.st4 ⟨hN.1, fun e => ?_⟩ a b c d, (((h.1.setCell (.inr hG) a).setCell (.inr hG) b).setCell (.inr hG) c).setCell (.inr hG) d, h.2⟩
  rcases hD.2.2 with h1 | ⟨k, h1, h2⟩
  · exact hN.2 (e.trans h1)
  · rw [h1] at e
    injection e with e
    have := blk_lt hGW
    omega
theorem do_take {i k : Int} (hF : Fl w base P g u m) : Calls Try.prog 11 #[.pointer (some ⟨g, 0, none⟩), .agg #[.int .i64 1, .int .i64 i, .int .i64 k]] w fun e w' => ∃ u', e = .returned (.tuple #[gV (takeR m i).2.1, .int .i64 (takeR m i).2.2]) ∧ Did w w' base P g u u' (takeR m i).1 := by
  obtain ⟨r, hr⟩ : ∃ r, takeR m i = r := ⟨_, rfl⟩
  rw [hr]
  obtain ⟨m', y, x⟩ := r
  have HR := zA hr
  clear hr
  have HB := zA (Below.refl w.heap.size w)
  have FL := zA hF
  have hu27 := Try.underlying27
  go_enter Try.func11, Try.ntmps11
  go_wp2_with (first | ((with_reducible refine gate_dst (N := 3) rfl ?_); refine zb (N := 3) (cs := #[.int .i64 1, .int .i64 i, .int .i64 k]) (t := 29) ?_; intro G3 hg w3 hbox hb; have K3 := zA hbox; have GW3 := zN HB hg; replace FL := zA (FL.out.below hb); replace HB := zS HB hb; clear hb hbox hg; obtain ⟨_, _, _, _, _, _⟩ := zc3 K3) | ((with_reducible refine gate_dst (N := 4) rfl ?_); refine zb (N := 4) (cs := #[.int .i64 0, .int .i64 0, .string ⟨#[]⟩, .int .i64 0]) (t := 27) ?_; intro G4 hg w4 hbox hb; have NF := zA (Fl.fresh FL.out hg); have K4 := zA hbox; have GW4 := zN HB hg; replace FL := zA (FL.out.below hb); replace K3 := zB K3 hb; replace HB := zS HB hb; clear hb hbox hg; obtain ⟨h0, h1, _, _, _, _⟩ := zc3 K3; obtain ⟨_, _, _, _⟩ := zc2 (zA FL.out.blk)) | ((with_reducible refine gate_callee (f := 22) rfl ?_); refine zg (some 8) Try.func22 #[.pointer (some ⟨g, 0, none⟩)] ?_; (with_reducible refine (is_y FL.out).mono ?_); rintro e w5 ⟨rfl, hww⟩; replace hww := hww.symm; subst hww; refine ⟨_, rfl, ?_⟩) | ((with_reducible refine gate_callee (f := 20) rfl ?_); refine zg (some 18) Try.func20 #[.pointer (some ⟨g, 0, none⟩), .int .i64 i] ?_; (with_reducible refine (take_r HR.out FL.out).mono ?_); rintro e w6 ⟨u', rfl, hD⟩; refine ⟨_, rfl, ?_⟩; have HD := zA hD; have K5 := zA (blk_did K4.out hD.2 NF.out); clear hD; obtain ⟨_, _, _, _, _, _, _, _⟩ := zc4 K5))
  refine bodyPost_ret (results_list (rs := [.cell 4 27, .tmp 5]) rfl (by simp) (.cell G4 27 #[.int .i64 y.f0, .int .i64 y.f1, .string y.f2, .int .i64 y.f3] (0, 0) _ rfl (zF K5) Try.underlying27 rfl (by kernel_rfl) (.tmp .nil))) rfl ?_
  exact ⟨_, rfl, Did.st4 HD.out HB.out GW4.out K4.out NF.out _ _ _ _⟩
theorem do_turn {q i k : Int} (hq : q ≠ 1) (hG : Good m) (hF : Fl w base P g u m) (hb0 : base ≤ w.heap.size) (hP : ∀ k, w.heap.size ≤ k → P k) : Calls Try.prog 11 #[.pointer (some ⟨g, 0, none⟩), .agg #[.int .i64 q, .int .i64 i, .int .i64 k]] w fun e w' => ∃ u', e = .returned (.tuple #[gV z27, .int .i64 (turnR m q i k).2]) ∧ Did w w' base P g u u' (turnR m q i k).1 := by
  obtain ⟨r, hr⟩ : ∃ r, turnR m q i k = r := ⟨_, rfl⟩
  rw [hr]
  obtain ⟨m', x⟩ := r
  have HR := zA hr
  clear hr
  have HB := zA (Below.refl w.heap.size w)
  have FL := zA hF
  have hu27 := Try.underlying27
  have hu29 := Try.underlying29
  have t1 : (q == 1) = false := beq_eq_false_iff_ne.mpr hq
  have HG := zA hG
  have HP := zA (And.intro hb0 hP)
  clear hb0 hP hG hq
  go_enter Try.func11, Try.ntmps11
  go_wp2_with (first | ((with_reducible refine gate_dst (N := 3) rfl ?_); refine zb (N := 3) (cs := #[.int .i64 q, .int .i64 i, .int .i64 k]) (t := 29) ?_; intro G3 hg w3 hbox hb; have K3 := zA hbox; have GW3 := zN HB hg; replace FL := zA (FL.out.below hb); replace HB := zS HB hb; clear hb hbox hg; obtain ⟨_, _, _, _, _, _⟩ := zc3 K3) | ((with_reducible refine gate_dst (N := 4) rfl ?_); refine zb (N := 4) (cs := #[.int .i64 0, .int .i64 0, .string ⟨#[]⟩, .int .i64 0]) (t := 27) ?_; intro G4 hg w4 hbox hb; have NF := zA (Fl.fresh FL.out hg); have K4 := zA hbox; have GW4 := zN HB hg; replace FL := zA (FL.out.below hb); replace K3 := zB K3 hb; replace HB := zS HB hb; clear hb hbox hg; obtain ⟨h0, h1, _, _, _, _⟩ := zc3 K3; obtain ⟨_, _, _, _⟩ := zc2 (zA FL.out.blk)) | ((with_reducible refine gate_callee (f := 22) rfl ?_); refine zg (some 8) Try.func22 #[.pointer (some ⟨g, 0, none⟩)] ?_; (with_reducible refine (is_y FL.out).mono ?_); rintro e w5 ⟨rfl, hww⟩; replace hww := hww.symm; subst hww; refine ⟨_, rfl, ?_⟩) | ((with_reducible refine gate_callee (f := 25) rfl ?_); refine zg (some 24) Try.func25 #[.pointer (some ⟨g, 0, none⟩), .agg #[.int .i64 q, .int .i64 i, .int .i64 k]] ?_; (with_reducible refine (turn_r HR.out HG.out FL.out (Nat.le_trans HP.out.1 HB.out.size) (fun k hk => HP.out.2 k (Nat.le_trans HB.out.size hk))).mono ?_); rintro e w6 ⟨u', rfl, hD⟩; refine ⟨_, rfl, ?_⟩; have HD := zA hD; have K5 := zA (blk_did K4.out hD.2 NF.out); clear hD; obtain ⟨_, _, _, _, _, _, _, _⟩ := zc4 K5))
  refine bodyPost_ret (results_list (rs := [.cell 4 27, .tmp 5]) rfl (by simp) (.cell G4 27 #[.int .i64 0, .int .i64 0, .string ⟨#[]⟩, .int .i64 0] (0, 0) _ rfl (zF K5) Try.underlying27 rfl (by kernel_rfl) (.tmp .nil))) rfl ?_
  exact ⟨_, rfl, Did.st4 HD.out HB.out GW4.out K4.out NF.out _ _ _ _⟩
theorem do_calls {q i k : Int} (hG : Good m) (hF : Fl w base P g u m) (hb0 : base ≤ w.heap.size) (hP : ∀ k, w.heap.size ≤ k → P k) : Calls Try.prog 11 #[.pointer (some ⟨g, 0, none⟩), .agg #[.int .i64 q, .int .i64 i, .int .i64 k]] w fun e w' => ∃ u', e = .returned (.tuple #[gV (doR m q i k).2.1, .int .i64 (doR m q i k).2.2]) ∧ Did w w' base P g u u' (doR m q i k).1 := by
  unfold doR
  by_cases h : q = 1
  · subst h
    rw [if_pos rfl]
    exact do_take hF
  · rw [if_neg h]
    exact do_turn h hG hF hb0 hP
end
end Go.Proofs.Ytpcipmhblknokaa.Ch
