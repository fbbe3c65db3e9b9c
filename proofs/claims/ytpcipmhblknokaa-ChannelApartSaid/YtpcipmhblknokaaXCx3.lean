import Derived.Test.YtpcipmhblknokaaCZ
import Derived.Test.YtpcipmhblknokaaXCx0
/- The walk of ChannelApart, by hand. -/
namespace Go.Proofs.Ytpcipmhblknokaa.Ch
open Go.RowKit Go.Proofs.Ytpcipmhblknokaa.XC Go.Proofs.YtpcipmhblknokaaW.PrintWords Go.Proofs.YtpcipmhblknokaaW.PrintLast Go.Proofs.YtpcipmhblknokaaW.PrintMore
attribute [local go_sem] max2_int min2_int max_two min_two max_three min_three max_four min_four   -- for this text's walks alone
set_option linter.unusedVariables false
set_option linter.unusedSimpArgs false
open List renaming setIfInBounds_toArray → xA, set_cons_zero → xB, set_cons_succ → xC
open Go.Proofs.YtpcipmhblknokaaW.PrintWords renaming blk_drewN → bN, blk_drew → bD, blk_alloc → bA, below_set → bS, blk_frozen → bF, blk_cell → bC, cell_far → cF, blk_far → bZ, blk_below → bB, pw_below_drewN → bwN, below_drew1 → bw1, below_alloc → bwA
open Go.Proofs.YtpcipmhblknokaaW.PrintZ
open Bool renaming true → T,false → F


set_option maxRecDepth 100000
set_option maxHeartbeats 8000000
def lawApart (l0 : List S31) (l1 : List S31) : Option Bool := if l0.length + l1.length < 9223372036854775807 then some true else none
section
variable {w0 w w' : World} {g h : Nat} {u v u' v' u2 v2 : Value} {m n : List S27}
theorem Side.beside (S2 : Side w0 w h u2 v2 n n) (hd : ∀ k, inS g u v k → ¬ inS h u2 v2 k) (hT : Stp w w' g u v u' v') (hB : Below w0.heap.size w0 w') : Side w0 w' h u2 v2 n n ∧ (∀ k, inS g u' v' k → ¬ inS h u2 v2 k) :=
  ⟨S2.kept hT.kept (fun k h2 h1 => hd k h1 h2) hB, fun k h1 h2 => (hT.own k h1).elim (fun h => hd k h h2) (fun h => by have := S2.lt h2; omega)⟩
theorem swap_d (hd : ∀ k, inS g u v k → ¬ inS h u2 v2 k) : ∀ k, inS h u2 v2 k → ¬ inS g u v k := fun k h1 h2 => hd k h2 h1
/-- Two flights and their lists. -/
structure Twin (w0 w : World) (g h : Nat) (u v u2 v2 : Value) (m n : List S27) : Prop where
  a : Side w0 w g u v m m
  b : Side w0 w h u2 v2 n n
  ga : Good m
  gb : Good n
  d : ∀ k, inS g u v k → ¬ inS h u2 v2 k
theorem Twin.bel (T : Twin w0 w g h u v u2 v2 m n) (hb : Below w.heap.size w w') : Twin w0 w' g h u v u2 v2 m n := ⟨T.a.bel hb, T.b.bel hb, T.ga, T.gb, T.d⟩
theorem Twin.flip (T : Twin w0 w g h u v u2 v2 m n) : Twin w0 w h g u2 v2 u v n m := ⟨T.b, T.a, T.gb, T.ga, swap_d T.d⟩
theorem twin_does (x : S31) (T : Twin w0 w g h u v u2 v2 m n) : Calls Try.prog 13 #[.pointer (some ⟨g, 0, none⟩), v, aV x] w fun e w' => ∃ u' v', e = .returned (.tuple #[v', .bool true]) ∧ Twin w0 w' g h u' v' u2 v2 (stepM m x) n :=
  (does_calls x T.a T.ga).mono fun e w' ⟨u', v', he, hS, hT⟩ => ⟨u', v', he, hS, (T.b.beside T.d hT hS.below).1, T.ga.step x, T.gb, (T.b.beside T.d hT hS.below).2⟩
theorem twin_does2 (x : S31) (T : Twin w0 w g h u v u2 v2 m n) : Calls Try.prog 13 #[.pointer (some ⟨h, 0, none⟩), v2, aV x] w fun e w' => ∃ u' v', e = .returned (.tuple #[v', .bool true]) ∧ Twin w0 w' g h u v u' v' m (stepM n x) :=
  (twin_does x T.flip).mono fun e w' ⟨u', v', he, hT⟩ => ⟨u', v', he, hT.flip⟩
theorem Side.nil {w w4 w5 w7 : World} {g : Nat} {v : Value} (hg : w.heap.size ≤ g) (hk : FB w4 g true none 0 0) (hb : Below w4.heap.size w4 w5) (ho : Kd.R k27 27 w7 w5.heap.size (fun _ => True) v []) (hb2 : Below w5.heap.size w5 w7) (hB : Below w.heap.size w w5) : Side w w7 g (.slice none 0 0) v [] [] := by
  have h1 := blk_lt hk
  have h3 := own_base (R27.1 ho).2
  have hs := hb.size
  refine ⟨⟨blk_below (blk_below hk hb) hb2, Kd.R_nil _ _ _ _ _⟩, Kd.R_lower ho hB.size, hg, fun e => ?_, fun k hk hk2 => (by cases hk2), below_up hB hb2⟩
  have := h3 _ e
  omega
end
theorem good_nil : Good [] := ⟨fun x hx => (by cases hx), by decide⟩
section
variable {w : World} {A0 A1 : Option Addr} {c0 c1 : Nat} {l0 l1 : List S31}
theorem lawApart_calls (hC0 : Kd.C k31 w A0 l0.length l0) (hc0 : l0.length ≤ c0) (hC1 : Kd.C k31 w A1 l1.length l1) (hc1 : l1.length ≤ c1) (h : lawApart l0 l1 = some true) : Calls Try.prog 5 #[.slice A0 l0.length c0, .slice A1 l1.length c1] w fun e w' => e = .returned (.bool true) ∧ Below w.heap.size w w' := by
  have hl : l0.length + l1.length < 9223372036854775807 := by
    unfold lawApart at h
    split at h
    · assumption
    · cases h
  clear h
  have HB := zA (Below.refl w.heap.size w)
  go_enter Try.func5, Try.ntmps5
  go_wp2_with (first | ((with_reducible refine gate_callee (f := 8) rfl ?_); refine zg (some 11) Try.func8 #[] ?_; (with_reducible refine (new_calls).mono ?_); rintro e w4 ⟨g, rfl, hg, hk, hb⟩; refine ⟨_, rfl, ?_⟩; have GG := zA hg; have KG := zA hk; have BG := zA (Below.refl w4.heap.size w4); replace HB := zS HB hb; clear hg hk hb) | ((with_reducible refine gate_callee (f := 8) rfl ?_); refine zg (some 12) Try.func8 #[] ?_; (with_reducible refine (new_calls).mono ?_); rintro e w5 ⟨h, rfl, hg, hk, hb⟩; refine ⟨_, rfl, ?_⟩; have GH := zA (show w.heap.size ≤ h from Nat.le_trans HB.out.size hg); have NGH := zA (show g < h from Nat.lt_of_lt_of_le (blk_lt KG.out) hg); have KH := zA hk; have BH := zA (Below.refl w5.heap.size w5); replace BG := zA (below_up BG.out hb); replace HB := zS HB hb; clear hg hk hb) | ((with_reducible refine gate_dst (N := 19) rfl ?_); refine Kd.R_lit k27 _ 27 ?hg (N := 19) ?hd (xs := ([] : List S27)) (inner := []) (ok := fun _ => True) (okp := fun _ => True) ?hr ?hp (fun _ hk => hk) trivial (Below.refl _ _) (Nat.le_refl _) (by simp) ?_; (case hd => rfl); (case hg => rfl); (case hr => first | (go_simp; done) | (go_simp; rfl)); (case hp => exact (Reps.none _ _)); intro v19 w6 ho hb hg_ hnew_; clear hg_ hnew_; have SA := zA (Side.nil GG.out KG.out BG.out ho hb HB.out); replace BH := zA (below_up BH.out hb); have HV := zA (own_lt (R27.1 ho).2); have HW := zA (own_base (R27.1 ho).2); have BH5 := zA BH.out.size; replace HB := zS HB hb; clear ho hb; obtain ⟨A5, c5_, rfl⟩ := Kd.R_slice SA.out.row) | ((with_reducible refine gate_dst (N := 20) rfl ?_); refine Kd.R_lit k27 _ 27 ?hg (N := 20) ?hd (xs := ([] : List S27)) (inner := []) (ok := fun _ => True) (okp := fun _ => True) ?hr ?hp (fun _ hk => hk) trivial (Below.refl _ _) (Nat.le_refl _) (by simp) ?_; (case hd => rfl); (case hg => rfl); (case hr => first | (go_simp; done) | (go_simp; rfl)); (case hp => exact (Reps.none _ _)); intro v20 w7 ho hb hg_ hnew_; clear hg_ hnew_; have SB := zA (Side.nil GH.out KH.out BH.out ho hb HB.out); have HV2 := zA (own_base (R27.1 ho).2); replace SA := zA (SA.out.bel hb); replace HB := zS HB hb; clear ho hb; obtain ⟨A6, c6_, rfl⟩ := Kd.R_slice SB.out.row))
  have TW := zA (show Twin w w7 g h _ _ _ _ [] [] from ⟨SA.out, SB.out, good_nil, good_nil, fun k h1 h2 => by
    have hb1 := BH5.out
    rcases h1 with rfl | h1 | h1
    · rcases h2 with h2 | h2 | h2
      · have := NGH.out; omega
      · cases h2
      · have := HV2.out _ h2; have := SA.out; have := blk_lt KG.out; have := BG.out.size; omega
    · cases h1
    · rcases h2 with rfl | h2 | h2
      · have := HW.out _ h1; have := blk_lt KH.out; omega
      · cases h2
      · have := HV2.out _ h2; have := HV.out _ h1; omega⟩)
  clear SA SB GG KG BG GH NGH KH BH HV HV2 HW HB BH5
  go_loopg [7, 8, 9, 10] (l0.length + l1.length + 1) (fun kq v7 v8 v9 v10 w' => ∃ (n : Nat) (m p : List S27) (u v u2 v2 : Value), v7 = v ∧ v8 = v2 ∧ v9 = .bool true ∧ v10 = .int .i64 n ∧ Aside0 (n ≤ l0.length + l1.length) ∧ Aside0 (kq + n = l0.length + l1.length + 1) ∧ Aside0 (Twin w w' g h u v u2 v2 m p))
  case atStart => exact ⟨0, _, _, _, _, _, _, rfl, rfl, rfl, rfl, ⟨Nat.zero_le _⟩, ⟨by omega⟩, TW⟩
  case round =>
    clear TW
    obtain ⟨n, m, p, u, v, u2, v2, rfl, rfl, rfl, rfl, HN, HQ, TW⟩ := hrel
    obtain ⟨A7, c7, rfl⟩ := Kd.R_slice TW.out.a.row
    obtain ⟨A8, c8, rfl⟩ := Kd.R_slice TW.out.b.row
    cases gk with
    | zero => exact absurd HQ.out (by have := HN.out; omega)
    | succ k1 =>
      by_cases p1 : n < l0.length
      · by_cases p2 : n < l1.length
        · skip
          have t1 : decide ((n : Int) < (l0.length : Int)) = true := decide_eq_true (by omega)
          have q1 : ((n : Int) < (l0.length : Int)) = True := eq_true (by omega)
          have t2 : decide ((n : Int) < (l1.length : Int)) = true := decide_eq_true (by omega)
          have q2 : ((n : Int) < (l1.length : Int)) = True := eq_true (by omega)
          have q0 : (0 ≤ (n : Int)) = True := eq_true (by omega)
          obtain ⟨y, hy⟩ : ∃ y, y = rd_T31 l0 (n : Int) := ⟨_, rfl⟩
          obtain ⟨ad0, rfl, xa0, xa1, xa2, xa3, xa4, xa5, xa6, xa7⟩ := at_T31 (Kd.C_below hC0 TW.out.a.below) n (by omega) (by omega)
          simp only [Int.toNat_natCast] at xa0 xa1 xa2 xa3 xa4 xa5 xa6 xa7
          rw [← hy] at xa0 xa1 xa2 xa3 xa4 xa5 xa6 xa7
          have HY := zA hy
          clear hy
          obtain ⟨z, hz⟩ : ∃ z, z = rd_T31 l1 (n : Int) := ⟨_, rfl⟩
          obtain ⟨ad1, rfl, xb0, xb1, xb2, xb3, xb4, xb5, xb6, xb7⟩ := at_T31 (Kd.C_below hC1 TW.out.a.below) n (by omega) (by omega)
          simp only [Int.toNat_natCast] at xb0 xb1 xb2 xb3 xb4 xb5 xb6 xb7
          rw [← hz] at xb0 xb1 xb2 xb3 xb4 xb5 xb6 xb7
          have HZ := zA hz
          clear hz
          go_wp2_with (first | ((with_reducible refine gate_callee (f := 13) rfl ?_); refine zg (some 47) Try.func13 #[.pointer (some ⟨g, 0, none⟩), .slice A7 m.length c7, aV y] ?_; (with_reducible refine (twin_does y TW.out).mono ?_); rintro e w7 ⟨u3, v3, rfl, hT⟩; refine ⟨_, rfl, ?_⟩; replace TW := zA hT; clear hT; obtain ⟨A7b, c7b, rfl⟩ := Kd.R_slice TW.out.a.row; obtain ⟨ad_, e_, xb0, xb1, xb2, xb3, xb4, xb5, xb6, xb7⟩ := at_T31 (Kd.C_below hC1 TW.out.a.below) n (by omega) (by omega); cases e_; simp only [Int.toNat_natCast] at xb0 xb1 xb2 xb3 xb4 xb5 xb6 xb7; rw [← HZ.out] at xb0 xb1 xb2 xb3 xb4 xb5 xb6 xb7) | ((with_reducible refine gate_callee (f := 13) rfl ?_); refine zg (some 64) Try.func13 #[.pointer (some ⟨h, 0, none⟩), .slice A8 p.length c8, aV z] ?_; (with_reducible refine (twin_does2 z TW.out).mono ?_); rintro e w8 ⟨u4, v4, rfl, hT⟩; refine ⟨_, rfl, ?_⟩; replace TW := zA hT; clear hT; obtain ⟨A8b, c8b, rfl⟩ := Kd.R_slice TW.out.b.row) | ((go_at_call 14); (with_reducible refine (is_true TW.out.a.fl TW.out.ga.len (Kd.R_reads' TW.out.a.row).2.2 (Kd.R_reads' TW.out.a.row).2.1).mono ?_); rintro e w9 ⟨rfl, hb⟩; replace TW := zA (TW.out.bel hb); clear hb) | ((go_at_call 14); (with_reducible refine (is_true TW.out.b.fl TW.out.gb.len (Kd.R_reads' TW.out.b.row).2.2 (Kd.R_reads' TW.out.b.row).2.1).mono ?_); rintro e w9 ⟨rfl, hb⟩; replace TW := zA (TW.out.bel hb); clear hb))
          go_roundg k1
          case measure => omega
          case rel => exact ⟨n + 1, _, _, _, _, _, _, rfl, rfl, rfl, by rw [Int.natCast_add]; rfl, ⟨by omega⟩, ⟨by have := HQ.out; omega⟩, TW⟩
        · skip
          have t1 : decide ((n : Int) < (l0.length : Int)) = true := decide_eq_true (by omega)
          have q1 : ((n : Int) < (l0.length : Int)) = True := eq_true (by omega)
          have t2 : decide ((n : Int) < (l1.length : Int)) = false := decide_eq_false (by omega)
          have s2 : decide (n < l1.length) = false := decide_eq_false (by omega)
          have q0 : (0 ≤ (n : Int)) = True := eq_true (by omega)
          obtain ⟨y, hy⟩ : ∃ y, y = rd_T31 l0 (n : Int) := ⟨_, rfl⟩
          obtain ⟨ad0, rfl, xa0, xa1, xa2, xa3, xa4, xa5, xa6, xa7⟩ := at_T31 (Kd.C_below hC0 TW.out.a.below) n (by omega) (by omega)
          simp only [Int.toNat_natCast] at xa0 xa1 xa2 xa3 xa4 xa5 xa6 xa7
          rw [← hy] at xa0 xa1 xa2 xa3 xa4 xa5 xa6 xa7
          have HY := zA hy
          clear hy
          go_wp2_with (first | ((with_reducible refine gate_callee (f := 13) rfl ?_); refine zg (some 47) Try.func13 #[.pointer (some ⟨g, 0, none⟩), .slice A7 m.length c7, aV y] ?_; (with_reducible refine (twin_does y TW.out).mono ?_); rintro e w7 ⟨u3, v3, rfl, hT⟩; refine ⟨_, rfl, ?_⟩; replace TW := zA hT; clear hT; obtain ⟨A7b, c7b, rfl⟩ := Kd.R_slice TW.out.a.row) | ((go_at_call 14); (with_reducible refine (is_true TW.out.a.fl TW.out.ga.len (Kd.R_reads' TW.out.a.row).2.2 (Kd.R_reads' TW.out.a.row).2.1).mono ?_); rintro e w9 ⟨rfl, hb⟩; replace TW := zA (TW.out.bel hb); clear hb) | ((go_at_call 14); (with_reducible refine (is_true TW.out.b.fl TW.out.gb.len (Kd.R_reads' TW.out.b.row).2.2 (Kd.R_reads' TW.out.b.row).2.1).mono ?_); rintro e w9 ⟨rfl, hb⟩; replace TW := zA (TW.out.bel hb); clear hb))
          go_roundg k1
          case measure => omega
          case rel => exact ⟨n + 1, _, _, _, _, _, _, rfl, rfl, rfl, by rw [Int.natCast_add]; rfl, ⟨by omega⟩, ⟨by have := HQ.out; omega⟩, TW⟩
      · by_cases p2 : n < l1.length
        · skip
          have t1 : decide ((n : Int) < (l0.length : Int)) = false := decide_eq_false (by omega)
          have s1 : decide (n < l0.length) = false := decide_eq_false (by omega)
          have t2 : decide ((n : Int) < (l1.length : Int)) = true := decide_eq_true (by omega)
          have q2 : ((n : Int) < (l1.length : Int)) = True := eq_true (by omega)
          have q0 : (0 ≤ (n : Int)) = True := eq_true (by omega)
          obtain ⟨z, hz⟩ : ∃ z, z = rd_T31 l1 (n : Int) := ⟨_, rfl⟩
          obtain ⟨ad1, rfl, xb0, xb1, xb2, xb3, xb4, xb5, xb6, xb7⟩ := at_T31 (Kd.C_below hC1 TW.out.a.below) n (by omega) (by omega)
          simp only [Int.toNat_natCast] at xb0 xb1 xb2 xb3 xb4 xb5 xb6 xb7
          rw [← hz] at xb0 xb1 xb2 xb3 xb4 xb5 xb6 xb7
          have HZ := zA hz
          clear hz
          go_wp2_with (first | ((with_reducible refine gate_callee (f := 13) rfl ?_); refine zg (some 64) Try.func13 #[.pointer (some ⟨h, 0, none⟩), .slice A8 p.length c8, aV z] ?_; (with_reducible refine (twin_does2 z TW.out).mono ?_); rintro e w8 ⟨u4, v4, rfl, hT⟩; refine ⟨_, rfl, ?_⟩; replace TW := zA hT; clear hT; obtain ⟨A8b, c8b, rfl⟩ := Kd.R_slice TW.out.b.row) | ((go_at_call 14); (with_reducible refine (is_true TW.out.a.fl TW.out.ga.len (Kd.R_reads' TW.out.a.row).2.2 (Kd.R_reads' TW.out.a.row).2.1).mono ?_); rintro e w9 ⟨rfl, hb⟩; replace TW := zA (TW.out.bel hb); clear hb) | ((go_at_call 14); (with_reducible refine (is_true TW.out.b.fl TW.out.gb.len (Kd.R_reads' TW.out.b.row).2.2 (Kd.R_reads' TW.out.b.row).2.1).mono ?_); rintro e w9 ⟨rfl, hb⟩; replace TW := zA (TW.out.bel hb); clear hb))
          go_roundg k1
          case measure => omega
          case rel => exact ⟨n + 1, _, _, _, _, _, _, rfl, rfl, rfl, by rw [Int.natCast_add]; rfl, ⟨by omega⟩, ⟨by have := HQ.out; omega⟩, TW⟩
        · skip
          have t1 : decide ((n : Int) < (l0.length : Int)) = false := decide_eq_false (by omega)
          have s1 : decide (n < l0.length) = false := decide_eq_false (by omega)
          have t2 : decide ((n : Int) < (l1.length : Int)) = false := decide_eq_false (by omega)
          have s2 : decide (n < l1.length) = false := decide_eq_false (by omega)
          have q0 : (0 ≤ (n : Int)) = True := eq_true (by omega)
          have HB := zA TW.out.a.below
          go_wp2_with (first | ((go_at_call 12); (with_reducible refine (awake_calls).mono ?_); rintro e w4 ⟨rfl, hb⟩; replace HB := zS HB hb; clear hb) | fail)
          go_ret
          exact ⟨rfl, HB.out⟩
end
end Go.Proofs.Ytpcipmhblknokaa.Ch
/- Go functions of this seat as Lean functions, with proofs that the calls come to them. (Written by xprint.py, a program of this session, over the kit's print.) -/
namespace Go.Proofs.Ytpcipmhblknokaa.XC
open Go.RowKit Go.Proofs.YtpcipmhblknokaaW.PrintWords Go.Proofs.YtpcipmhblknokaaW.PrintLast Go.Proofs.YtpcipmhblknokaaW.PrintMore
attribute [local go_sem] max2_int min2_int max_two min_two max_three min_three max_four min_four   -- for this text's walks alone
set_option linter.unusedVariables false
set_option linter.unusedSimpArgs false
open List renaming setIfInBounds_toArray → xA, set_cons_zero → xB, set_cons_succ → xC
open Go.Proofs.YtpcipmhblknokaaW.PrintWords renaming blk_drewN → bN, blk_drew → bD, blk_alloc → bA, below_set → bS, blk_frozen → bF, blk_cell → bC, cell_far → cF, blk_far → bZ, blk_below → bB, pw_below_drewN → bwN, below_drew1 → bw1, below_alloc → bwA
open Go.Proofs.YtpcipmhblknokaaW.PrintZ
open Bool renaming true → T,false → F

/-! ### beaconlaw11_ChannelApart: function 5 -/
def beaconlaw11_ChannelApart.f (l0 : List S31) (l1 : List S31) : Option Bool := Go.Proofs.Ytpcipmhblknokaa.Ch.lawApart l0 l1
theorem beaconlaw11_ChannelApart.calls (A0 : Option Addr) (c0 : Nat) (l0 : List S31) (A1 : Option Addr) (c1 : Nat) (l1 : List S31) (r : Bool) (w : World) (hr0 : Kd.C k31 w A0 l0.length l0) (hc0 : l0.length ≤ c0) (hr1 : Kd.C k31 w A1 l1.length l1) (hc1 : l1.length ≤ c1) (h : beaconlaw11_ChannelApart.f l0 l1 = some r) (hr_ : r = true) :
  Calls Try.prog 5 #[.slice A0 l0.length c0,.slice A1 l1.length c1] w fun e w' => e = .returned (.bool r) ∧ Below w.heap.size w w':=by
 subst hr_;exact Go.Proofs.Ytpcipmhblknokaa.Ch.lawApart_calls hr0 hc0 hr1 hc1 h

end Go.Proofs.Ytpcipmhblknokaa.XC
