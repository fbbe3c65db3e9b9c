import Derived.Test.YtpcipmhblknokaaCZ
import Derived.Test.YtpcipmhblknokaaXCx0
/- The walk of ChannelOrder, by hand. -/
namespace Go.Proofs.Ytpcipmhblknokaa.Ch
open Go.RowKit Go.Proofs.Ytpcipmhblknokaa.XC Go.Proofs.YtpcipmhblknokaaW.PrintWords Go.Proofs.YtpcipmhblknokaaW.PrintLast Go.Proofs.YtpcipmhblknokaaW.PrintMore
attribute [local go_sem] max2_int min2_int max_two min_two max_three min_three max_four min_four   -- for this text's walks alone
set_option linter.unusedVariables false
set_option linter.unusedSimpArgs false
open List renaming setIfInBounds_toArray → xA, set_cons_zero → xB, set_cons_succ → xC
open Go.Proofs.YtpcipmhblknokaaW.PrintWords renaming blk_drewN → bN, blk_drew → bD, blk_alloc → bA, below_set → bS, blk_frozen → bF, blk_cell → bC, cell_far → cF, blk_far → bZ, blk_below → bB, pw_below_drewN → bwN, below_drew1 → bw1, below_alloc → bwA
open Go.Proofs.YtpcipmhblknokaaW.PrintZ
open Bool renaming true → T,false → F


set_option maxRecDepth 100000
set_option maxHeartbeats 8000000
theorem conv1 (w : World) (n : Nat) (hn : n ≤ 255) : (convert 40 9 (.slice (some ⟨w.heap.size, 0, none⟩) 1 1)).run Try.prog (w.alloc (.cells #[.int .u8 n] 5)) = .ok (.string ⟨#[UInt8.ofNat n]⟩) (w.alloc (.cells #[.int .u8 n] 5)) := by
  have h := run_convert_bytes_back (P := Try.prog) (w.alloc (.cells #[.int .u8 n] 5)) 40 9 5 ⟨w.heap.size, 0, none⟩ 1 [UInt8.ofNat n] Try.underlying40 Try.underlying5 Try.underlying9 (fun j hj => by
    obtain rfl : j = 0 := by simpa using hj
    have e : (w.alloc (.cells #[.int .u8 n] 5)).cell? ⟨w.heap.size, 0, none⟩ = some (.int .u8 n) := (World.cell?_alloc_mark w _ _ _ _).trans rfl
    refine e.trans ?_
    simp only [List.getElem_cons_zero]
    rw [UInt8.toNat_ofNat', Nat.mod_eq_of_lt (by omega)])
  exact h
/-- The bytes of a number's datagram. -/
def bO (n : Nat) : ByteArray := ⟨#[UInt8.ofNat n]⟩
def gO (n : Nat) : S27 := ⟨1 + (n : Int) % 3, 5, bO n, 0⟩
def oL (n : Nat) : List S27 := (List.range n).map gO
theorem oL_len (n : Nat) : (oL n).length = n := by simp [oL]
theorem may_gO {n : Nat} : mayB (gO n) = true := by
  unfold mayB gO idB bO
  simp only [Bool.and_eq_true, decide_eq_true_eq]
  refine ⟨by omega, by omega, by omega, ?_, by omega, by omega⟩
  show (1 : Nat) ≤ 65536
  omega
theorem oL_succ (n : Nat) : oL n ++ [gO n] = oL (n + 1) := by
  unfold oL
  rw [List.range_succ, List.map_append]
  rfl
theorem oL_putE {n : Nat} (h : n ≤ 255) : putE (oL n) (gO n) = 0 := by
  unfold putE
  rw [if_pos may_gO, if_neg (by rw [oL_len]; omega)]
theorem oL_putM {n : Nat} (h : n ≤ 255) : putM (oL n) (gO n) = oL (n + 1) := by
  unfold putM
  rw [if_pos may_gO, if_neg (by rw [oL_len]; omega), oL_succ]
theorem oL_good {n : Nat} (h : n ≤ 256) : Good (oL n) := ⟨fun x hx => by
  obtain ⟨i, _, rfl⟩ := List.mem_map.1 hx
  exact may_gO, by rw [oL_len]; omega⟩
abbrev by27 (m : List S27) : List ByteArray := m.map (fun x => x.f2)
theorem sub_set {m : List S27} {n : Nat} {y : S27} {k : Int} (hy : m[n]? = some y) : by27 (m.set n (waitS y k)) = by27 m := by
  show (m.set n (waitS y k)).map _ = _
  rw [List.map_set]
  apply List.ext_getElem?
  intro j
  rw [List.getElem?_set]
  by_cases hj : n = j
  · subst hj
    have hn := lt_y hy
    rw [if_pos rfl, if_pos (by simpa using hn), List.getElem?_map, hy]
    rfl
  · rw [if_neg hj]
theorem sub_take (m : List S27) (i : Int) : (by27 (takeR m i).1).Sublist (by27 m) := by
  unfold takeR
  cases atI m i with
  | none => exact List.Sublist.refl _
  | some y =>
    simp only
    by_cases h : 0 < y.f3
    · rw [if_pos h]; exact List.Sublist.refl _
    · rw [if_neg h]; exact (List.eraseIdx_sublist _ _).map _
theorem sub_turn (m : List S27) (q i k : Int) (h3 : q ≠ 3) (h5 : q ≠ 5) : (by27 (turnR m q i k).1).Sublist (by27 m) := by
  unfold turnR
  by_cases h6 : q = 6
  · rw [if_pos h6]
    have e : by27 (m.map tk) = by27 m := by
      show (m.map tk).map _ = _
      rw [List.map_map]
      exact List.map_congr_left fun x _ => rfl
    rw [e]
    exact List.Sublist.refl _
  rw [if_neg h6]
  by_cases h7 : q = 7
  · rw [if_pos h7]
    split
    · split
      · split
        · exact List.Sublist.refl _
        · exact List.filter_sublist.map _
      · exact List.Sublist.refl _
    · exact List.Sublist.refl _
  rw [if_neg h7]
  by_cases h2 : q = 2
  · rw [if_pos h2]
    cases atI m i with
    | none => exact List.Sublist.refl _
    | some y => exact (List.eraseIdx_sublist _ _).map _
  rw [if_neg h2, if_neg h3]
  by_cases h4 : q = 4
  · rw [if_pos h4]
    cases ha : atI m i with
    | none => exact List.Sublist.refl _
    | some y =>
      simp only
      by_cases hk : k < 0
      · rw [if_pos hk]
        exact List.Sublist.refl _
      · rw [if_neg hk]
        by_cases hk2 : 65536 - y.f3 < k
        · rw [if_pos hk2]
          exact List.Sublist.refl _
        · rw [if_neg hk2, sub_set (at_some ha).2.2.2]
          exact List.Sublist.refl _
  rw [if_neg h4, if_neg h5]
  exact List.Sublist.refl _
theorem sub_do (m : List S27) (q i k : Int) (h3 : q ≠ 3) (h5 : q ≠ 5) : (by27 (doR m q i k).1).Sublist (by27 m) := by
  unfold doR
  by_cases h : q = 1
  · rw [if_pos h]; exact sub_take m i
  · rw [if_neg h]; exact sub_turn m q i k h3 h5
/-- What stands in order: the bytes are those of some of the numbers. -/
def Ord (M : Nat) (m : List S27) : Prop := (by27 m).Sublist (by27 (oL M))
theorem Ord.get {M : Nat} {m : List S27} (h : Ord M m) (hM : M ≤ 255) {n : Nat} (hn : n + 1 < m.length) : ∃ a b : Nat, a < b ∧ ∃ s t : ByteArray, s.size = 1 ∧ t.size = 1 ∧ (∀ h : 0 < s.size, (s[0]'h).toNat = a) ∧ (∀ h : 0 < t.size, (t[0]'h).toNat = b) ∧ (rd_T27 m (n : Nat)).f2 = s ∧ (rd_T27 m (n + 1 : Nat)).f2 = t := by
  have e : by27 (oL M) = (List.range M).map bO := by
    show ((List.range M).map gO).map _ = _
    rw [List.map_map]
    rfl
  unfold Ord at h
  rw [e] at h
  obtain ⟨js, hs, hj⟩ := List.sublist_map_iff.1 h
  have hl : js.length = m.length := by
    have := congrArg List.length hj
    simpa using this.symm
  have hp := (List.pairwise_lt_range (n := M)).sublist hs
  rw [List.pairwise_iff_getElem] at hp
  have hg : ∀ i (hi : i < m.length), (rd_T27 m (i : Nat)).f2 = bO (js[i]'(by omega)) := fun i hi => by
    rw [rd27 hi]
    have h1 : (by27 m)[i]? = (js.map bO)[i]? := by rw [hj]
    rw [List.getElem?_map, List.getElem?_map, List.getElem?_eq_getElem hi, List.getElem?_eq_getElem (by omega)] at h1
    exact Option.some.inj h1
  have hb : ∀ i (hi : i < m.length), js[i]'(by omega) < M := fun i hi => List.mem_range.1 (hs.subset (List.getElem_mem _))
  have hx : ∀ a, a < M → ∀ h : 0 < (bO a).size, ((bO a)[0]'h).toNat = a := fun a ha h => by
    show (UInt8.ofNat a).toNat = a
    rw [UInt8.toNat_ofNat', Nat.mod_eq_of_lt (by omega)]
  exact ⟨js[n]'(by omega), js[n + 1]'(by omega), hp n (n + 1) (by omega) (by omega) (by omega), bO _, bO _, rfl, rfl, hx _ (hb n (by omega)), hx _ (hb (n + 1) hn), hg n (by omega), hg (n + 1) hn⟩
theorem Ord.len {M : Nat} {m : List S27} (h : Ord M m) : m.length ≤ M := by
  have := h.length_le
  simpa [oL_len] using this
def ord.T20 : Bool × List (List Nat × List Nat) := (true, [([], []), ([], []), ([0, 1], [0, 1]), ([2], [2]), ([3], [3]), ([4], [4]), ([], []), ([], []), ([7], [7]), ([6, 8], [6, 8]), ([9], [9]), ([10], [10]), ([11], [11]), ([5, 12], [5, 12])])
def ord.B20 : List Nat := [0, 0, 3, 7, 15, 31, 0, 0, 128, 448, 960, 1984, 4032, 8191]
theorem ord.tab20 : rtab .any (opsOf Try.f4 20) = ord.T20 := by kernel_rfl
theorem ord.bits20 : waitsOk ord.T20.2 ord.B20 = true := by kernel_rfl
section
variable {w : World} {A1 : Option Addr} {c1 : Nat} {l1 : List S31} {many : Int}
theorem Side.one {w w4 : World} {g : Nat} (hg : w.heap.size ≤ g) (hk : FB w4 g true none 0 0) (hB : Below w.heap.size w w4) : Side w w4 g (.slice none 0 0) (.slice none 0 0) [] [] :=
  ⟨⟨hk, Kd.R_nil _ _ _ _ _⟩, Kd.R_nil _ _ _ _ _, hg, fun e => (by cases e), fun k hk hk2 => (by cases hk2), hB⟩
theorem order_calls (h0 : 0 ≤ many) (h255 : many ≤ 255) (hC1 : Kd.C k31 w A1 l1.length l1) (hc1 : l1.length ≤ c1) : Calls Try.prog 4 #[.int .u8 many, .slice A1 l1.length c1] w fun e w' => e = .returned (.bool true) ∧ Below w.heap.size w w' := by
  have hl63 := hC1.2.1
  go_enter Try.func4, Try.ntmps4
  go_wp2_with (first | ((with_reducible refine gate_callee (f := 8) rfl ?_); refine zg (some 12) Try.func8 #[] ?_; (with_reducible refine (new_calls).mono ?_); rintro e w4 ⟨g, rfl, hg, hk, hb⟩; refine ⟨_, rfl, ?_⟩; have SD := zA (Side.one hg hk hb); clear hg hk hb) | fail)
  go_loopg [6] (257) (fun kq v6 w' => ∃ (n : Nat) (u : Value), v6 = .int .i64 n ∧ Aside0 ((n : Int) ≤ many) ∧ Aside0 (kq + n = 257) ∧ Aside0 (Side w w' g u (.slice none 0 0) (oL n) []))
  case atStart => exact ⟨0, _, rfl, ⟨by omega⟩, ⟨by omega⟩, SD⟩
  case round =>
    clear SD
    obtain ⟨n, u, rfl, HN, HQ, SD⟩ := hrel
    cases gk with
    | zero => exact absurd HQ.out (by have := HN.out; omega)
    | succ k1 =>
      by_cases c6 : (n : Int) < many
      · have t1 : decide ((n : Int) < many) = true := decide_eq_true (by omega)
        have hn5 : n ≤ 255 := by omega
        have hcv := conv1 wr n hn5
        go_wp2_with (first | ((with_reducible refine gate_callee (f := 9) rfl ?_); refine zg (some 31) Try.func9 #[.pointer (some ⟨g, 0, none⟩), gV (gO n)] ?_; (with_reducible refine (side_put (SD.out.bel (below_alloc (below_alloc (Below.refl _ _) _) _))).mono ?_); rintro e w5 ⟨u2, rfl, hS, hT⟩; refine ⟨_, rfl, ?_⟩; rw [oL_putE hn5]; rw [oL_putM hn5] at hS; replace SD := zA hS; clear hS hT) | fail)
        go_roundg k1
        case measure => omega
        case rel => exact ⟨n + 1, _, by rw [Int.natCast_add]; rfl, ⟨by omega⟩, ⟨by have := HQ.out; omega⟩, SD⟩
      · have t1 : decide ((n : Int) < many) = false := decide_eq_false c6
        obtain rfl : many = n := by have := HN.out; omega
        have HG := zA (oL_good (n := n) (by omega))
        have HO := zA (show Ord n (oL n) from List.Sublist.refl _)
        clear c6 HN HQ
        generalize oL n = m at SD HG HO
        go_wp2
        go_loopg [8] (l1.length + 1) (fun kq v8 w' => ∃ (j : Nat) (m : List S27) (u : Value), v8 = .int .i64 j ∧ Aside0 (j ≤ l1.length) ∧ Aside0 (kq + j = l1.length + 1) ∧ Aside0 (Good m) ∧ Aside0 (Ord n m) ∧ Aside0 (Side w w' g u (.slice none 0 0) m []))
        case atStart => exact ⟨0, _, _, rfl, ⟨Nat.zero_le _⟩, ⟨by omega⟩, HG, HO, SD⟩
        case round =>
          clear SD HG HO
          obtain ⟨j, m, u, rfl, HN, HQ, HG, HO, SD⟩ := hrel
          cases gk with
          | zero => exact absurd HQ.out (by have := HN.out; omega)
          | succ k2 =>
            by_cases c8 : j < l1.length
            · have t1 : decide ((j : Int) < (l1.length : Int)) = true := decide_eq_true (by omega)
              have q0 : (0 ≤ (j : Int)) = True := eq_true (by omega)
              have q1 : ((j : Int) < (l1.length : Int)) = True := eq_true (by omega)
              obtain ⟨y, hy⟩ : ∃ y, y = rd_T31 l1 (j : Int) := ⟨_, rfl⟩
              obtain ⟨ad, rfl, x0, x1, x2, x3, x4, x5, x6, x7⟩ := at_T31 (Kd.C_below hC1 SD.out.below) j (by omega) (by omega)
              simp only [Int.toNat_natCast] at x0 x1 x2 x3 x4 x5 x6 x7
              rw [← hy] at x0 x1 x2 x3 x4 x5 x6 x7
              clear hy x1 x2 x3 x4
              cases hb : y.f0 with
              | true =>
                rw [hb] at x0
                go_wp2
                go_roundg k2
                case measure => omega
                case rel => exact ⟨j + 1, _, _, by rw [Int.natCast_add]; rfl, ⟨c8⟩, ⟨by have := HQ.out; omega⟩, HG, HO, SD⟩
              | false =>
                rw [hb] at x0
                by_cases h3 : y.f2.f0 = 3
                · have b3 : (y.f2.f0 != 3) = false := by simp [h3]
                  clear h3
                  go_wp2
                  go_roundg k2
                  case measure => omega
                  case rel => exact ⟨j + 1, _, _, by rw [Int.natCast_add]; rfl, ⟨c8⟩, ⟨by have := HQ.out; omega⟩, HG, HO, SD⟩
                · by_cases h5 : y.f2.f0 = 5
                  · have b3 : (y.f2.f0 != 3) = true := by simp [h3]
                    have b5 : (y.f2.f0 != 5) = false := by simp [h5]
                    clear h3 h5
                    go_wp2
                    go_roundg k2
                    case measure => omega
                    case rel => exact ⟨j + 1, _, _, by rw [Int.natCast_add]; rfl, ⟨c8⟩, ⟨by have := HQ.out; omega⟩, HG, HO, SD⟩
                  · have b3 : (y.f2.f0 != 3) = true := by simp [h3]
                    have b5 : (y.f2.f0 != 5) = true := by simp [h5]
                    obtain ⟨⟨m', z, x⟩, hr⟩ : ∃ r, doR m y.f2.f0 y.f2.f1 y.f2.f2 = r := ⟨_, rfl⟩
                    have hg' := HG.out.doR y.f2.f0 y.f2.f1 y.f2.f2
                    have ho' := sub_do m y.f2.f0 y.f2.f1 y.f2.f2 h3 h5
                    rw [hr] at hg' ho'
                    have HG2 := zA hg'
                    have HO2 := zA (show Ord n m' from ho'.trans HO.out)
                    have HRR := zA hr
                    clear hr hg' ho' h3 h5
                    go_wp2_with (first | ((with_reducible refine gate_callee (f := 11) rfl ?_); refine zg (some 65) Try.func11 #[.pointer (some ⟨g, 0, none⟩), .agg #[.int .i64 y.f2.f0, .int .i64 y.f2.f1, .int .i64 y.f2.f2]] ?_; (with_reducible refine (side_do HRR.out HG.out SD.out).mono ?_); rintro e w6 ⟨u3, rfl, hS, hT⟩; refine ⟨_, rfl, ?_⟩; replace SD := zA hS; clear hS hT) | fail)
                    go_roundg k2
                    case measure => omega
                    case rel => exact ⟨j + 1, _, _, by rw [Int.natCast_add]; rfl, ⟨c8⟩, ⟨by have := HQ.out; omega⟩, HG2, HO2, SD⟩
            · have t1 : decide ((j : Int) < (l1.length : Int)) = false := decide_eq_false (by omega)
              have t2 : decide (j < l1.length) = false := decide_eq_false c8
              have HOO := HO
              clear c8 HO HN HQ
              go_wp2_with (first | ((with_reducible refine gate_callee (f := 10) rfl ?_); refine zg (some 67) Try.func10 #[.pointer (some ⟨g, 0, none⟩)] ?_; (with_reducible refine (all_fl SD.out.fl HG.out.len).mono ?_); rintro e w7 ⟨v, rfl, ho, hb⟩; refine ⟨_, rfl, ?_⟩; replace SD := zA (SD.out.bel hb); have HO := zA (Kd.R_lower ho (Nat.zero_le _)); clear ho hb; obtain ⟨A9, c9, rfl⟩ := Kd.R_slice HO.out) | fail)
              have hml := HG.out.len
              go_loopg [11] (m.length + 2) (fun kq v11 w' => ∃ (j : Nat), v11 = .int .i64 (j + 1 : Nat) ∧ Aside0 (j ≤ m.length) ∧ Aside0 (kq + j = m.length + 2) ∧ Aside0 (Kd.R k27 27 w' 0 (fun _ => True) (.slice A9 m.length c9) m) ∧ Aside0 (Below w.heap.size w w'))
              case atStart => exact ⟨0, rfl, ⟨Nat.zero_le _⟩, ⟨by omega⟩, HO, ⟨SD.out.below⟩⟩
              case round =>
                clear HO SD
                obtain ⟨j, rfl, HN, HQ, HO, HB⟩ := hrel
                cases gk with
                | zero => exact absurd HQ.out (by have := HN.out; omega)
                | succ k3 =>
                  by_cases c9 : j + 1 < m.length
                  · obtain ⟨a, b, hab, s, t, hs1, hs2, hs3, hs4, ea, eb⟩ := HOO.out.get (by omega) c9
                    have b1 : decide ((b : Int) ≤ (a : Int)) = false := decide_eq_false (by omega)
                    have b2 : decide (b ≤ a) = false := decide_eq_false (by omega)
                    obtain ⟨ad, cp, hv, ⟨x0, x1, x2, x3⟩, _⟩ := row_at HO.out (n := j) (by omega)
                    cases hv
                    obtain ⟨ad2, cp, hv, ⟨z0, z1, z2, z3⟩, _⟩ := row_at HO.out (n := j + 1) c9
                    cases hv
                    rw [rd27 (by omega)] at ea eb
                    rw [ea] at x2
                    rw [eb] at z2
                    clear x0 x1 x3 z0 z1 z3 ea eb
                    have t1 : decide (((j + 1 : Nat) : Int) < (m.length : Int)) = true := decide_eq_true (by omega)
                    have q0 : (0 ≤ ((j + 1 : Nat) : Int)) = True := eq_true (by omega)
                    have q1 : (((j + 1 : Nat) : Int) < (m.length : Int)) = True := eq_true (by omega)
                    have q2 : (0 ≤ (j : Int)) = True := eq_true (by omega)
                    have q3 : ((j : Int) < (m.length : Int)) = True := eq_true (by omega)
                    have q4 : (0 ≤ (j : Int) + 1) = True := eq_true (by omega)
                    have q5 : ((j : Int) + 1 < (m.length : Int)) = True := eq_true (by omega)
                    have hw : wrap64 (j : Int) = j := by unfold wrap64; omega
                    go_wp2
                    refine start_ (n := 14) (S := fun w' => w'.cell? ⟨ad, j * 4 + 2, none⟩ = some (.string s) ∧ w'.cell? ⟨ad, (j + 1) * 4 + 2, none⟩ = some (.string t)) (ds := []) #[F,F,F,F,F,F,F,F,F,F,F,F,F,F] (by kernel_rfl) rfl rfl ⟨x2, z2⟩ (fun hHeld => ?_)
                    refine with_tabW ord.tab20 ord.bits20 (fun HT_ HW_ => ?_)
                    replace HO := zA (Kd.R_drew HO.out)
                    replace HB := zA (bw1 HB.1)
                    clear x2 z2
                    generalize wr.drew = w8 at HO HB hHeld ⊢
                    refine pz 0 74 #[T,F,F,F,F,F,F,F,F,F,F,F,F,F] HT_.1 ?_
                    refine pz 1 75 #[T,T,F,F,F,F,F,F,F,F,F,F,F,F] HT_.1 ?_
                    refine pz 2 76 #[T,T,T,F,F,F,F,F,F,F,F,F,F,F] HT_.1 ?_
                    refine pz 3 77 #[T,T,T,T,F,F,F,F,F,F,F,F,F,F] HT_.1 ?_
                    refine tz 4 78 #[T,T,T,T,T,F,F,F,F,F,F,F,F,F] HT_.1 HW_.1 hHeld ?_
                    refine pz 5 79 #[T,T,T,T,T,T,F,F,F,F,F,F,F,F] HT_.1 ?_
                    refine pz 6 80 #[T,T,T,T,T,T,T,F,F,F,F,F,F,F] HT_.1 ?_
                    refine pz 7 81 #[T,T,T,T,T,T,T,T,F,F,F,F,F,F] HT_.1 ?_
                    refine pz 8 82 #[T,T,T,T,T,T,T,T,T,F,F,F,F,F] HT_.1 ?_
                    refine pz 9 83 #[T,T,T,T,T,T,T,T,T,T,F,F,F,F] HT_.1 ?_
                    refine pz 10 84 #[T,T,T,T,T,T,T,T,T,T,T,F,F,F] HT_.1 ?_
                    refine tz 11 85 #[T,T,T,T,T,T,T,T,T,T,T,T,F,F] HT_.1 HW_.1 hHeld ?_
                    refine pz 12 86 #[T,T,T,T,T,T,T,T,T,T,T,T,T,F] HT_.1 ?_
                    refine pz 13 87 #[T,T,T,T,T,T,T,T,T,T,T,T,T,T] HT_.1 ?_
                    refine done_ (done_of HT_.out (by kernel_rfl)) ?_
                    go_wp2
                    go_roundg k3
                    case measure => omega
                    case rel => exact ⟨j + 1, by rw [Int.natCast_add (j + 1) 1]; rfl, ⟨by omega⟩, ⟨by have := HQ.out; omega⟩, ⟨HO.out⟩, ⟨HB.out⟩⟩
                  · have t1 : decide (((j + 1 : Nat) : Int) < (m.length : Int)) = false := decide_eq_false (by omega)
                    have t2 : decide (j + 1 < m.length) = false := decide_eq_false c9
                    have t3 : decide ((j : Int) + 1 < (m.length : Int)) = false := decide_eq_false (by omega)
                    have hlen := HOO.out.len
                    have b1 : decide ((m.length : Int) ≤ (n : Int)) = true := decide_eq_true (by omega)
                    have b2 : decide (m.length ≤ n) = true := decide_eq_true hlen
                    clear c9
                    go_wp2_with (first | ((go_at_call 12); (with_reducible refine (awake_calls).mono ?_); rintro e w4 ⟨rfl, hb⟩; replace HB := zS HB hb; clear hb) | fail)
                    go_ret
                    exact ⟨rfl, HB.out⟩
def lawOrder (a0 : Int) (l1 : List S31) : Option Bool := if 0 ≤ a0 ∧ a0 ≤ 255 then some true else none
theorem lawOrder_calls (hC1 : Kd.C k31 w A1 l1.length l1) (hc1 : l1.length ≤ c1) (h : lawOrder many l1 = some true) : Calls Try.prog 4 #[.int .u8 many, .slice A1 l1.length c1] w fun e w' => e = .returned (.bool true) ∧ Below w.heap.size w w' := by
  unfold lawOrder at h
  split at h
  · rename_i hl
    exact order_calls hl.1 hl.2 hC1 hc1
  · cases h
end
end Go.Proofs.Ytpcipmhblknokaa.Ch
/- Go functions of this seat as Lean functions, with proofs that the calls come to them. (Written by xprint.py, a program of this session, over the kit's print.) -/
namespace Go.Proofs.Ytpcipmhblknokaa.XC
open Go.RowKit Go.Proofs.YtpcipmhblknokaaW.PrintWords Go.Proofs.YtpcipmhblknokaaW.PrintLast Go.Proofs.YtpcipmhblknokaaW.PrintMore
attribute [local go_sem] max2_int min2_int max_two min_two max_three min_three max_four min_four   -- for this text's walks alone
set_option linter.unusedVariables false
set_option linter.unusedSimpArgs false
open List renaming setIfInBounds_toArray → xA, set_cons_zero → xB, set_cons_succ → xC
open Go.Proofs.YtpcipmhblknokaaW.PrintWords renaming blk_drewN → bN, blk_drew → bD, blk_alloc → bA, below_set → bS, blk_frozen → bF, blk_cell → bC, cell_far → cF, blk_far → bZ, blk_below → bB, pw_below_drewN → bwN, below_drew1 → bw1, below_alloc → bwA
open Go.Proofs.YtpcipmhblknokaaW.PrintZ
open Bool renaming true → T,false → F

/-! ### beaconlaw11_ChannelOrder: function 4 -/
def beaconlaw11_ChannelOrder.f (a0 : Int) (l1 : List S31) : Option Bool := Go.Proofs.Ytpcipmhblknokaa.Ch.lawOrder a0 l1
theorem beaconlaw11_ChannelOrder.calls (a0 : Int) (A1 : Option Addr) (c1 : Nat) (l1 : List S31) (r : Bool) (w : World) (hr1 : Kd.C k31 w A1 l1.length l1) (hc1 : l1.length ≤ c1) (h : beaconlaw11_ChannelOrder.f a0 l1 = some r) (hr_ : r = true) :
  Calls Try.prog 4 #[.int .u8 a0,.slice A1 l1.length c1] w fun e w' => e = .returned (.bool r) ∧ Below w.heap.size w w':=by
 subst hr_;exact Go.Proofs.Ytpcipmhblknokaa.Ch.lawOrder_calls hr1 hc1 h

end Go.Proofs.Ytpcipmhblknokaa.XC
