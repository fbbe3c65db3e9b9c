import Derived.Test.YtpcipmhblknokaaCZ
import Derived.Test.YtpcipmhblknokaaXCx0
/- The walk of ChannelPlays, by hand. -/
namespace Go.Proofs.Ytpcipmhblknokaa.Ch
open Go.RowKit Go.Proofs.Ytpcipmhblknokaa.XC Go.Proofs.YtpcipmhblknokaaW.PrintWords Go.Proofs.YtpcipmhblknokaaW.PrintLast Go.Proofs.YtpcipmhblknokaaW.PrintMore
attribute [local go_sem] max2_int min2_int max_two min_two max_three min_three max_four min_four   -- for this text's walks alone
set_option linter.unusedVariables false
set_option linter.unusedSimpArgs false
open List renaming setIfInBounds_toArray → xA, set_cons_zero → xB, set_cons_succ → xC
open Go.Proofs.YtpcipmhblknokaaW.PrintWords renaming blk_drewN → bN, blk_drew → bD, blk_alloc → bA, below_set → bS, blk_frozen → bF, blk_cell → bC, cell_far → cF, blk_far → bZ, blk_below → bB, pw_below_drewN → bwN, below_drew1 → bw1, below_alloc → bwA
open Go.Proofs.YtpcipmhblknokaaW.PrintZ
open Bool renaming true → T,false → F


set_option maxRecDepth 100000
set_option maxHeartbeats 8000000
theorem rload_l0 (m : List S27) (hl : m.length < 3518437208883) : ∀ (d k n : Nat), n + d = m.length → d < k → (∀ i, i < n → mayB (rd_T27 m (i : Nat)) = true) → beaconref11_Load.l0 k m n = some (loadE m)
  | d, 0, _, _, hk, _ => absurd hk (by omega)
  | 0, k + 1, n, hd, _, h => by
    obtain rfl : n = m.length := by omega
    have e : loadE m = if 65536 < m.length then 2 else 0 := by
      unfold loadE
      rw [idxB_none h, if_neg (by decide)]
    rw [beaconref11_Load.l0, if_neg (by omega), e]
    by_cases h2 : 65536 < m.length
    · rw [if_pos (by omega), if_pos h2]
    · rw [if_neg (by omega), if_neg h2]
  | d + 1, k + 1, n, hd, hk, h => by
    have hf := rmay_f (rd_T27 m n)
    rw [beaconref11_Load.l0, if_pos (by omega), if_pos (by omega), hf, Option.bind_some, show wrap64 ((n : Int) + 1) = ((n + 1 : Nat) : Int) by unfold wrap64; omega]
    cases hm : mayB (rd_T27 m n) with
    | false =>
      rw [if_neg (by simp), loadE, idxB_at (by omega) h hm, if_pos (by omega)]
    | true =>
      rw [if_pos rfl]
      refine rload_l0 m hl d k (n + 1) (by omega) (by omega) fun i hi => ?_
      rcases Nat.lt_or_ge i n with h2 | h2
      · exact h i h2
      · obtain rfl : i = n := by omega
        exact hm
theorem rload_f {m : List S27} (hl : m.length < 3518437208883) {x : Int} (hx : x = loadE m) : beaconref11_Load.f (m.length + 1) m = some x := by
  subst hx
  exact rload_l0 m hl m.length _ 0 (by omega) (by omega) (fun i hi => absurd hi (by omega))
theorem good_load {m : List S27} (h : loadE m = 0) (hl : m.length ≤ 65536) : Good m := by
  refine ⟨fun x hx => ?_, hl⟩
  unfold loadE idxB at h
  cases hf : m.findIdx? (fun x => !mayB x) with
  | some n =>
    rw [hf] at h
    rw [if_pos (by simp)] at h
    cases h
  | none =>
    rw [List.findIdx?_eq_none_iff] at hf
    simpa using hf x hx
def lawPlays (l0 : List S27) (l1 : List S31) : Option Bool := if l0.length < 3518437208883 then some true else none
section
variable {w : World} {A0 A1 : Option Addr} {c0 c1 : Nat} {l0 : List S27} {l1 : List S31}
theorem plays_bad (hC0 : Kd.C k27 w A0 l0.length l0) (hc0 : l0.length ≤ c0) (hl : l0.length < 3518437208883) (h : loadE l0 ≠ 0) : Calls Try.prog 6 #[.slice A0 l0.length c0, .slice A1 l1.length c1] w fun e w' => e = .returned (.bool true) ∧ Below w.heap.size w w' := by
  have HB := zA (Below.refl w.heap.size w)
  obtain ⟨x, hx⟩ : ∃ x, x = loadE l0 := ⟨_, rfl⟩
  rw [← hx] at h
  have HX := zA hx
  have ex : (x != x) = false := by simp
  have t1 : (x == 0) = false := beq_eq_false_iff_ne.mpr h
  have t2 : (x != 0) = true := by simpa using h
  clear hx
  go_enter Try.func6, Try.ntmps6
  go_wp2_with (first | ((with_reducible refine gate_callee (f := 16) rfl ?_); refine zg (some 12) Try.func16 #[.slice A0 l0.length c0] ?_; (with_reducible refine (copy_calls (Kd.C_below hC0 HB.out) hc0 hl).mono ?_); rintro e w4 ⟨v, rfl, ho, hb⟩; refine ⟨_, rfl, ?_⟩; replace HB := zS HB hb; have HO := zA ho; clear hb ho; obtain ⟨A2, c2, rfl, hc2, hC2⟩ := Kd.R_reads HO.out) | ((with_reducible refine gate_callee (f := 15) rfl ?_); refine zg (some 13) Try.func15 #[.slice A2 l0.length c2] ?_; (with_reducible refine (load_x HX.out hC2 hc2).mono ?_); rintro e w5 ⟨p, rfl, hb, hcase⟩; refine ⟨_, rfl, ?_⟩; obtain rfl : p = none := (by rcases hcase with ⟨_, h2⟩ | ⟨h2, _⟩; exact h2; exact absurd h2 h); replace HB := zS HB hb; clear hb hcase) | ((with_reducible refine gate_callee (f := 17) rfl ?_); refine zg (some 18) Try.func17 #[.slice A0 l0.length c0] ?_; (with_reducible refine (beaconref11_Load.calls (l0.length + 1) A0 c0 l0 _ _ (Kd.C_below hC0 HB.out) hc0 (rload_f hl HX.out)).mono ?_); rintro e w6 ⟨rfl, hb⟩; refine ⟨_, rfl, ?_⟩; replace HB := zS HB hb; clear hb) | ((with_reducible refine gate_callee (f := 12) rfl ?_); refine zg (some 29) Try.func12 #[] ?_; (with_reducible refine (awake_calls).mono ?_); rintro e w4 ⟨rfl, hb⟩; refine ⟨_, rfl, ?_⟩; replace HB := zS HB hb; clear hb))
  go_ret
  exact ⟨rfl, HB.out⟩
theorem Side.start {w w5 w6 : World} {g : Nat} {u v : Value} {m : List S27} {P : Nat → Prop} (h : Fl w5 w.heap.size P g u m) (ho : Kd.R k27 27 w6 w5.heap.size (fun _ => True) v m) (hb : Below w5.heap.size w5 w6) (hg : w.heap.size ≤ g) (hB : Below w.heap.size w w6) : Side w w6 g u v m m := by
  have h1 := blk_lt h.blk
  have h2 := own_lt (R27.1 h.row).2
  have h3 := own_base (R27.1 ho).2
  have hF := h.below hb
  refine ⟨⟨hF.blk, R27.2 ⟨fun _ _ => trivial, (R27.1 hF.row).2⟩⟩, R27.2 ⟨fun _ _ => trivial, (R27.1 (Kd.R_lower ho ?_)).2⟩, hg, fun e => ?_, fun k hk hk2 => ?_, hB⟩
  · have := own_base (R27.1 h.row).2
    omega
  · have := h3 _ e; omega
  · have := h3 _ hk; have := h2 _ hk2; omega
theorem plays_ok (hC0 : Kd.C k27 w A0 l0.length l0) (hc0 : l0.length ≤ c0) (hl : l0.length < 3518437208883) (hC1 : Kd.C k31 w A1 l1.length l1) (hc1 : l1.length ≤ c1) (h : loadE l0 = 0) : Calls Try.prog 6 #[.slice A0 l0.length c0, .slice A1 l1.length c1] w fun e w' => e = .returned (.bool true) ∧ Below w.heap.size w w' := by
  have hx : (0 : Int) = loadE l0 := h.symm
  have HX := zA hx
  have HB := zA (Below.refl w.heap.size w)
  have hl63 := hC1.2.1
  clear hx
  go_enter Try.func6, Try.ntmps6
  go_wp2_with (first | ((with_reducible refine gate_callee (f := 16) rfl ?_); refine zg (some 12) Try.func16 #[.slice A0 l0.length c0] ?_; (with_reducible refine (copy_calls (Kd.C_below hC0 HB.out) hc0 hl).mono ?_); rintro e w4 ⟨v, rfl, ho, hb⟩; refine ⟨_, rfl, ?_⟩; replace HB := zS HB hb; have HO := zA ho; clear hb ho; obtain ⟨A2, c2, rfl, hc2, hC2⟩ := Kd.R_reads HO.out) | ((with_reducible refine gate_callee (f := 15) rfl ?_); refine zg (some 13) Try.func15 #[.slice A2 l0.length c2] ?_; (with_reducible refine (load_x HX.out hC2 hc2).mono ?_); rintro e w5 ⟨p, rfl, hb, hcase⟩; refine ⟨_, rfl, ?_⟩; obtain ⟨hl2, g, rfl, hg, u, hF⟩ : l0.length ≤ 65536 ∧ ∃ g, p = some ⟨g, 0, none⟩ ∧ w4.heap.size ≤ g ∧ ∃ u, Fl w5 w4.heap.size (fun _ => True) g u l0 := (by rcases hcase with ⟨h2, _⟩ | ⟨_, h2⟩; exact absurd rfl h2; exact h2); have GL := zA (show w.heap.size ≤ g from Nat.le_trans HB.out.size hg); have HL2 := zA hl2; have FL := zA (show Fl w5 w.heap.size (fun _ => True) g u l0 from ⟨hF.blk, Kd.R_lower hF.row HB.out.size⟩); replace HB := zS HB hb; clear hb hcase hg hl2 hF HO) | ((with_reducible refine gate_callee (f := 17) rfl ?_); refine zg (some 18) Try.func17 #[.slice A0 l0.length c0] ?_; (with_reducible refine (beaconref11_Load.calls (l0.length + 1) A0 c0 l0 _ _ (Kd.C_below hC0 HB.out) hc0 (rload_f hl HX.out)).mono ?_); rintro e w6 ⟨rfl, hb⟩; refine ⟨_, rfl, ?_⟩; replace FL := zA (FL.out.below hb); replace HB := zS HB hb; clear hb) | ((with_reducible refine gate_callee (f := 16) rfl ?_); refine zg (some 31) Try.func16 #[.slice A0 l0.length c0] ?_; (with_reducible refine (copy_calls (Kd.C_below hC0 HB.out) hc0 hl).mono ?_); rintro e w4 ⟨v, rfl, ho, hb⟩; refine ⟨_, rfl, ?_⟩; replace HB := zS HB hb; have HO2 := zA ho; have SD := zA (Side.start FL.out ho hb GL.out HB.out); clear hb ho; obtain ⟨A8, c8, rfl⟩ := Kd.R_slice SD.out.row) | ((with_reducible refine gate_callee (f := 14) rfl ?_); refine zg (some 34) Try.func14 #[.pointer (some ⟨g, 0, none⟩), .slice A0 l0.length c0] ?_; (with_reducible refine (is_true SD.out.fl HL2.out (Kd.C_below hC0 HB.out) hc0).mono ?_); rintro e w7 ⟨rfl, hb⟩; refine ⟨_, rfl, ?_⟩; replace SD := zA (SD.out.bel hb); replace HB := zS HB hb; clear hb))
  have HG := zA (good_load h HL2.out)
  clear h HX FL HO2 GL HL2
  go_loopg [7, 8, 9] (l1.length + 1) (fun kq v7 v8 v9 w' => ∃ (n : Nat) (m : List S27) (u v : Value), v7 = v ∧ v8 = .bool true ∧ v9 = .int .i64 n ∧ Aside0 (n ≤ l1.length) ∧ Aside0 (kq + n = l1.length + 1) ∧ Aside0 (Good m) ∧ Aside0 (Side w w' g u v m m))
  case atStart => exact ⟨0, l0, _, _, rfl, rfl, rfl, ⟨Nat.zero_le _⟩, ⟨by omega⟩, HG, SD⟩
  case round =>
    clear SD HB HG
    obtain ⟨n, m, u, v, rfl, rfl, rfl, HN, HQ, HG, SD⟩ := hrel
    obtain ⟨A7, c7, rfl⟩ := Kd.R_slice SD.out.row
    cases gk with
    | zero => exact absurd HQ.out (by have := HN.out; omega)
    | succ k1 =>
      by_cases c6 : n < l1.length
      · have t1 : decide ((n : Int) < (l1.length : Int)) = true := decide_eq_true (by omega)
        have q0 : (0 ≤ (n : Int)) = True := eq_true (by omega)
        have q1 : ((n : Int) < (l1.length : Int)) = True := eq_true (by omega)
        obtain ⟨ad, rfl, x0, x1, x2, x3, x4, x5, x6, x7⟩ := at_T31 (Kd.C_below hC1 SD.out.below) n (by omega) (by omega)
        simp only [Int.toNat_natCast] at x0 x1 x2 x3 x4 x5 x6 x7
        obtain ⟨y, hy⟩ : ∃ y, y = rd_T31 l1 (n : Int) := ⟨_, rfl⟩
        rw [← hy] at x0 x1 x2 x3 x4 x5 x6 x7
        clear hy
        go_wp2_with (first | ((with_reducible refine gate_callee (f := 13) rfl ?_); refine zg (some 51) Try.func13 #[.pointer (some ⟨g, 0, none⟩), .slice A7 m.length c7, aV y] ?_; (with_reducible refine (does_calls y SD.out HG.out).mono ?_); rintro e w7 ⟨u2, v2, rfl, hS, hT⟩; refine ⟨_, rfl, ?_⟩; have HG2 := zA (HG.out.step y); replace SD := zA hS; clear hS hT; obtain ⟨A8, c8, rfl, hc8, hC8⟩ := Kd.R_reads SD.out.row) | ((go_at_call 14); (with_reducible refine (is_true SD.out.fl HG2.out.len hC8 hc8).mono ?_); rintro e w9 ⟨rfl, hb⟩; replace SD := zA (SD.out.bel hb); clear hb))
        go_roundg k1
        case measure => omega
        case rel => exact ⟨n + 1, _, _, _, rfl, rfl, by rw [Int.natCast_add]; rfl, ⟨c6⟩, ⟨by have := HQ.out; omega⟩, HG2, SD⟩
      · have t1 : decide ((n : Int) < (l1.length : Int)) = false := decide_eq_false (by omega)
        have t2 : decide (n < l1.length) = false := decide_eq_false c6
        have HB := zA SD.out.below
        clear c6
        go_wp2_with (first | ((go_at_call 12); (with_reducible refine (awake_calls).mono ?_); rintro e w4 ⟨rfl, hb⟩; replace HB := zS HB hb; clear hb) | fail)
        go_ret
        exact ⟨rfl, HB.out⟩
theorem lawPlays_calls (hC0 : Kd.C k27 w A0 l0.length l0) (hc0 : l0.length ≤ c0) (hC1 : Kd.C k31 w A1 l1.length l1) (hc1 : l1.length ≤ c1) (h : lawPlays l0 l1 = some true) : Calls Try.prog 6 #[.slice A0 l0.length c0, .slice A1 l1.length c1] w fun e w' => e = .returned (.bool true) ∧ Below w.heap.size w w' := by
  unfold lawPlays at h
  split at h
  · rename_i hl
    by_cases h2 : loadE l0 = 0
    · exact plays_ok hC0 hc0 hl hC1 hc1 h2
    · exact plays_bad hC0 hc0 hl h2
  · cases h
end
end Go.Proofs.Ytpcipmhblknokaa.Ch
/- Go functions of this seat as Lean functions, with proofs that the calls come to them. (Written by xprint.py, a program of this session, over the kit's print.) -/
namespace Go.Proofs.Ytpcipmhblknokaa.XC
open Go.RowKit Go.Proofs.YtpcipmhblknokaaW.PrintWords Go.Proofs.YtpcipmhblknokaaW.PrintLast Go.Proofs.YtpcipmhblknokaaW.PrintMore
attribute [local go_sem] max2_int min2_int max_two min_two max_three min_three max_four min_four   -- for this text's walks alone
set_option linter.unusedVariables false
set_option linter.unusedSimpArgs false
open List renaming setIfInBounds_toArray → xA, set_cons_zero → xB, set_cons_succ → xC
open Go.Proofs.YtpcipmhblknokaaW.PrintWords renaming blk_drewN → bN, blk_drew → bD, blk_alloc → bA, below_set → bS, blk_frozen → bF, blk_cell → bC, cell_far → cF, blk_far → bZ, blk_below → bB, pw_below_drewN → bwN, below_drew1 → bw1, below_alloc → bwA
open Go.Proofs.YtpcipmhblknokaaW.PrintZ
open Bool renaming true → T,false → F

/-! ### beaconlaw11_ChannelPlays: function 6 -/
def beaconlaw11_ChannelPlays.f (l0 : List S27) (l1 : List S31) : Option Bool := Go.Proofs.Ytpcipmhblknokaa.Ch.lawPlays l0 l1
theorem beaconlaw11_ChannelPlays.calls (A0 : Option Addr) (c0 : Nat) (l0 : List S27) (A1 : Option Addr) (c1 : Nat) (l1 : List S31) (r : Bool) (w : World) (hr0 : Kd.C k27 w A0 l0.length l0) (hc0 : l0.length ≤ c0) (hr1 : Kd.C k31 w A1 l1.length l1) (hc1 : l1.length ≤ c1) (h : beaconlaw11_ChannelPlays.f l0 l1 = some r) (hr_ : r = true) :
  Calls Try.prog 6 #[.slice A0 l0.length c0,.slice A1 l1.length c1] w fun e w' => e = .returned (.bool r) ∧ Below w.heap.size w w':=by
 subst hr_;exact Go.Proofs.Ytpcipmhblknokaa.Ch.lawPlays_calls hr0 hc0 hr1 hc1 h

end Go.Proofs.Ytpcipmhblknokaa.XC
