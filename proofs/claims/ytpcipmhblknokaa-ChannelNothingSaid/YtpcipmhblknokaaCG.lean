/- Load, by hand: IndexFunc, ContainsFunc with the closure of Load. -/
import Derived.Test.YtpcipmhblknokaaCF
namespace Go.Proofs.Ytpcipmhblknokaa.Ch
open Go.RowKit Go.Proofs.Ytpcipmhblknokaa.XC Go.Proofs.YtpcipmhblknokaaW.PrintWords Go.Proofs.YtpcipmhblknokaaW.PrintLast Go.Proofs.YtpcipmhblknokaaW.PrintMore
attribute [local go_sem] max2_int min2_int max_two min_two max_three min_three max_four min_four   -- for this text's walks alone
set_option linter.unusedVariables false
set_option linter.unusedSimpArgs false
open List renaming setIfInBounds_toArray → xA, set_cons_zero → xB, set_cons_succ → xC
open Go.Proofs.YtpcipmhblknokaaW.PrintWords renaming blk_drewN → bN, blk_drew → bD, blk_alloc → bA, below_set → bS, blk_frozen → bF, blk_cell → bC, cell_far → cF, blk_far → bZ, blk_below → bB, pw_below_drewN → bwN, below_drew1 → bw1, below_alloc → bwA
open Go.Proofs.YtpcipmhblknokaaW.PrintZ
open Bool renaming true → T,false → F

section
variable {w : World}
theorem f32_calls (x : S27) : Calls Try.prog 32 #[.agg #[.int .i64 x.f0, .int .i64 x.f1, .string x.f2, .int .i64 x.f3]] w fun e w' => e = .returned (.bool (!mayB x)) ∧ Below w.heap.size w w' := by
  have HB := zA (Below.refl w.heap.size w)
  have hA := may_f x
  obtain ⟨b, hb⟩ : ∃ b, b = mayB x := ⟨_, rfl⟩
  rw [← hb] at hA ⊢
  clear hb
  go_enter Try.func32, Try.ntmps32
  go_wp2_with (first | ((with_reducible refine gate_dst (N := 1) rfl ?_); refine zb (N := 1) (cs := #[.int .i64 x.f0, .int .i64 x.f1, .string x.f2, .int .i64 x.f3]) (t := 27) ?_; intro G2 hg w1 hbox hb; have K2 := zA hbox; replace HB := zS HB hb; clear hb hbox hg; obtain ⟨_, _, _, _, _, _, _, _⟩ := zc4 K2) | ((with_reducible refine gate_callee (f := 23) rfl ?_); refine zg (some 4) Try.func23 #[.agg #[.int .i64 x.f0, .int .i64 x.f1, .string x.f2, .int .i64 x.f3]] ?_; (with_reducible refine (channel_may.calls x.f0 x.f1 x.f2 x.f3 b _ hA).mono ?_); rintro e w5 ⟨rfl, hb⟩; refine ⟨_, rfl, ?_⟩; replace HB := zS HB hb; clear hb))
  go_ret
  exact ⟨rfl, HB.out⟩
end
def idxB (m : List S27) : Int := match m.findIdx? (fun x => !mayB x) with | some n => n | none => -1
theorem rd27 {m : List S27} {n : Nat} (h : n < m.length) : rd_T27 m (n : Int) = m[n] := by
  unfold rd_T27
  rw [Int.toNat_natCast, List.getD_eq_getElem?_getD, List.getElem?_eq_getElem h, Option.getD_some]
theorem idxB_at {m : List S27} {n : Nat} (hn : n < m.length) (h0 : ∀ i, i < n → mayB (rd_T27 m (i : Nat)) = true) (h1 : mayB (rd_T27 m n) = false) : idxB m = n := by
  have e : m.findIdx? (fun x => !mayB x) = some n := by
    rw [List.findIdx?_eq_some_iff_getElem]
    refine ⟨hn, by rw [← rd27 hn, h1]; rfl, fun j hj => ?_⟩
    rw [← rd27 (by omega), h0 j hj]
    decide
  unfold idxB
  rw [e]
theorem idxB_none {m : List S27} (h0 : ∀ i, i < m.length → mayB (rd_T27 m (i : Nat)) = true) : idxB m = -1 := by
  have e : m.findIdx? (fun x => !mayB x) = none := by
    rw [List.findIdx?_eq_none_iff]
    intro x hx
    obtain ⟨i, hi, rfl⟩ := List.getElem_of_mem hx
    rw [← rd27 hi, h0 i hi]
    rfl
  unfold idxB
  rw [e]
section
variable {w : World}
set_option maxHeartbeats 4000000 in
set_option maxRecDepth 100000 in
theorem index_calls {A : Option Addr} {c : Nat} {m : List S27} (hC : Kd.C k27 w A m.length m) : Calls Try.prog 43 #[.slice A m.length c, .func (Fn.func 32) #[] #[]] w fun e w' => e = .returned (.int .i64 (idxB m)) ∧ Below w.heap.size w w' := by
  have HB := zA (Below.refl w.heap.size w)
  have hu27 := Try.underlying27
  go_enter Try.func43, Try.ntmps43
  go_wp2
  go_loopg [8] (m.length + 1) (fun kq v8 w' => ∃ n : Nat, v8 = .int .i64 n ∧ Aside0 (n ≤ m.length) ∧ Aside0 (kq + n = m.length + 1) ∧ Aside0 (∀ i, i < n → mayB (rd_T27 m (i : Nat)) = true) ∧ Aside0 (Below w.heap.size w w'))
  case atStart => exact ⟨0, rfl, ⟨Nat.zero_le _⟩, ⟨by omega⟩, ⟨fun i hi => by omega⟩, ⟨zH HB⟩⟩
  case round =>
    obtain ⟨n, rfl, HN, HQ, HM, HB⟩ := hrel
    cases gk with
    | zero => exact absurd HQ.out (by have := HN.out; omega)
    | succ k1 =>
      by_cases c6 : n < m.length
      · have t1 : decide ((n : Int) < (m.length : Int)) = true := decide_eq_true (by omega)
        have t2 : decide (n < m.length) = true := decide_eq_true c6
        have q0 : (0 ≤ (n : Int)) = True := eq_true (by omega)
        have q1 : ((n : Int) < (m.length : Int)) = True := eq_true (by omega)
        obtain ⟨ad, ea, x0, x1, x2, x3⟩ := at_T27 hC n (by omega) (by omega)
        subst ea
        simp only [Int.toNat_natCast] at x0 x1 x2 x3
        replace x0 := zh HB x0; replace x1 := zh HB x1; replace x2 := zh HB x2; replace x3 := zh HB x3
        obtain ⟨y, hy⟩ : ∃ y, y = rd_T27 m n := ⟨_, rfl⟩
        rw [← hy] at x0 x1 x2 x3
        have HY := zA hy
        have HC6 := zA c6
        clear hy
        cases hb : mayB y with
        | false =>
          go_wp2_with (first | (go_at_call 32; (with_reducible refine (f32_calls y).mono ?_); rw [hb]; rintro e w5 ⟨rfl, hbl⟩; replace HB := zS HB hbl; clear hbl) | fail)
          go_ret
          exact ⟨by rw [idxB_at HC6.out HM.out (by rw [← HY.out]; exact hb)]; rfl, zH HB⟩
        | true =>
          go_wp2_with (first | (go_at_call 32; (with_reducible refine (f32_calls y).mono ?_); rw [hb]; rintro e w5 ⟨rfl, hbl⟩; replace HB := zS HB hbl; clear hbl) | fail)
          go_roundg k1
          case measure => omega
          case rel => exact ⟨n + 1, by have := HC6.out; have := hC.2.1; rw [show wrap64 ((n : Int) + 1) = ((n + 1 : Nat) : Int) by unfold wrap64; omega], ⟨HC6.out⟩, ⟨by have := HQ.out; omega⟩, ⟨fun i hi => by
            rcases Nat.lt_succ_iff_lt_or_eq.1 hi with h | h
            · exact HM.out i h
            · rw [h, ← HY.out]; exact hb⟩, ⟨zH HB⟩⟩
      · have t1 : decide ((n : Int) < (m.length : Int)) = false := decide_eq_false (by omega)
        have t2 : decide (n < m.length) = false := decide_eq_false c6
        have hnn : n = m.length := by have := HN.out; omega
        have HNN := zA hnn
        clear c6 hnn
        go_wp2
        go_ret
        exact ⟨by rw [idxB_none (by rw [← HNN.out]; exact HM.out)]; rfl, zH HB⟩
theorem contains_calls {A : Option Addr} {c : Nat} {m : List S27} (hC : Kd.C k27 w A m.length m) : Calls Try.prog 31 #[.slice A m.length c, .func (Fn.func 32) #[] #[]] w fun e w' => e = .returned (.bool (decide (0 ≤ idxB m))) ∧ Below w.heap.size w w' := by
  go_enter Try.func31, Try.ntmps31
  go_wp2_with (first | ((with_reducible refine gate_callee (f := 43) rfl ?_); refine zg (some 7) Try.func43 #[.slice A m.length c, .func (Fn.func 32) #[] #[]] ?_; (with_reducible refine (index_calls hC).mono ?_); rintro e w4 ⟨rfl, hb⟩; refine ⟨_, rfl, ?_⟩) | fail)
  go_ret
  exact ⟨rfl, hb⟩
theorem load_bad {A : Option Addr} {c : Nat} {m : List S27} (hC : Kd.C k27 w A m.length m) (h : 0 ≤ idxB m) : Calls Try.prog 15 #[.slice A m.length c] w fun e w' => e = .returned (.tuple #[.pointer none, .int .i64 1]) ∧ Below w.heap.size w w' := by
  have t1 : decide (0 ≤ idxB m) = true := decide_eq_true h
  go_enter Try.func15, Try.ntmps15
  go_wp2_with (first | ((with_reducible refine gate_callee (f := 31) rfl ?_); refine zg (some 6) Try.func31 #[.slice A m.length c, .func (Fn.func 32) #[] #[]] ?_; (with_reducible refine (contains_calls hC).mono ?_); rw [t1]; rintro e w4 ⟨rfl, hb⟩; refine ⟨_, rfl, ?_⟩) | fail)
  refine bodyPost_ret (results_list (rs := [.tmp 2, .tmp 3]) rfl (by simp) (.tmp (.tmp .nil))) rfl ?_
  exact ⟨rfl, hb⟩
theorem load_full {A : Option Addr} {c : Nat} {m : List S27} (hC : Kd.C k27 w A m.length m) (h : ¬ 0 ≤ idxB m) (hl : 65536 < m.length) : Calls Try.prog 15 #[.slice A m.length c] w fun e w' => e = .returned (.tuple #[.pointer none, .int .i64 2]) ∧ Below w.heap.size w w' := by
  have t1 : decide (0 ≤ idxB m) = false := decide_eq_false h
  have t2 : decide (65536 < (m.length : Int)) = true := decide_eq_true (by omega)
  have t3 : decide (65536 < m.length) = true := decide_eq_true hl
  go_enter Try.func15, Try.ntmps15
  go_wp2_with (first | ((with_reducible refine gate_callee (f := 31) rfl ?_); refine zg (some 6) Try.func31 #[.slice A m.length c, .func (Fn.func 32) #[] #[]] ?_; (with_reducible refine (contains_calls hC).mono ?_); rw [t1]; rintro e w4 ⟨rfl, hb⟩; refine ⟨_, rfl, ?_⟩) | fail)
  refine bodyPost_ret (results_list (rs := [.tmp 2, .tmp 3]) rfl (by simp) (.tmp (.tmp .nil))) rfl ?_
  exact ⟨rfl, hb⟩
set_option maxHeartbeats 1000000 in
theorem load_yes {A : Option Addr} {c : Nat} {m : List S27} (hC : Kd.C k27 w A m.length m) (hc : m.length ≤ c) (h : ¬ 0 ≤ idxB m) (hl : ¬ 65536 < m.length) : Calls Try.prog 15 #[.slice A m.length c] w fun e w' => ∃ g, e = .returned (.tuple #[.pointer (some ⟨g, 0, none⟩), .int .i64 0]) ∧ w.heap.size ≤ g ∧ (∃ u, Fl w' w.heap.size (fun _ => True) g u m) ∧ Below w.heap.size w w' := by
  have t1 : decide (0 ≤ idxB m) = false := decide_eq_false h
  have t2 : decide (65536 < (m.length : Int)) = false := decide_eq_false (by omega)
  have t3 : decide (65536 < m.length) = false := decide_eq_false hl
  have HB := zA (Below.refl w.heap.size w)
  have hlt : m.length < 3518437208883 := by omega
  have hu55 := Try.underlying55
  go_enter Try.func15, Try.ntmps15
  go_wp2_with (first | ((with_reducible refine gate_callee (f := 31) rfl ?_); refine zg (some 6) Try.func31 #[.slice A m.length c, .func (Fn.func 32) #[] #[]] ?_; (with_reducible refine (contains_calls hC).mono ?_); rw [t1]; rintro e w4 ⟨rfl, hb⟩; refine ⟨_, rfl, ?_⟩; replace HB := zS HB hb; clear hb) | ((with_reducible refine gate_callee (f := 24) rfl ?_); refine zg (some 12) Try.func24 #[.slice A m.length c] ?_; (with_reducible refine (clone_calls (Kd.C_below hC HB.out) hc hlt).mono ?_); rintro e w5 ⟨v, rfl, ho, hb⟩; refine ⟨_, rfl, ?_⟩; have HO := zA (Kd.R_lower ho HB.out.size); replace HB := zS HB hb; clear hb ho; obtain ⟨A2, c2, rfl⟩ := Kd.R_slice HO.out) | ((with_reducible refine gate_dst (N := 14) rfl ?_); refine zb (N := 14) (cs := #[.bool true, .slice A2 m.length c2]) (t := 55) ?_; intro G hg w6 hbox hb; have K := zA hbox; have GW := zN HB hg; replace HO := zRb HO hb; replace HB := zS HB hb; clear hb hbox hg))
  refine bodyPost_ret (results_list (rs := [.tmp 2, .tmp 3]) rfl (by simp) (.tmp (.tmp .nil))) rfl ?_
  exact ⟨_, rfl, GW.out, ⟨_, K.out, HO.out⟩, HB.out⟩
end
end Go.Proofs.Ytpcipmhblknokaa.Ch
