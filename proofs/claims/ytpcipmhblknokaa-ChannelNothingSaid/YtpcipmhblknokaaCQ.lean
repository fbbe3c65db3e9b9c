import Derived.Test.YtpcipmhblknokaaCP
namespace Go.Proofs.Ytpcipmhblknokaa.Ch
open Go.RowKit Go.Proofs.Ytpcipmhblknokaa.XC Go.Proofs.YtpcipmhblknokaaW.PrintWords Go.Proofs.YtpcipmhblknokaaW.PrintLast Go.Proofs.YtpcipmhblknokaaW.PrintMore
attribute [local go_sem] max2_int min2_int max_two min_two max_three min_three max_four min_four   -- for this text's walks alone
set_option linter.unusedVariables false
set_option linter.unusedSimpArgs false
open List renaming setIfInBounds_toArray → xA, set_cons_zero → xB, set_cons_succ → xC
open Go.Proofs.YtpcipmhblknokaaW.PrintWords renaming blk_drewN → bN, blk_drew → bD, blk_alloc → bA, below_set → bS, blk_frozen → bF, blk_cell → bC, cell_far → cF, blk_far → bZ, blk_below → bB, pw_below_drewN → bwN, below_drew1 → bw1, below_alloc → bwA
open Go.Proofs.YtpcipmhblknokaaW.PrintZ
open Bool renaming true → T,false → F

set_option maxRecDepth 100000
set_option maxHeartbeats 8000000
theorem zc27_one (n : Nat) : ∀ v ∈ (Builtin.zeroCells (Value.agg #[.int .i64 0, .int .i64 0, .string ⟨#[]⟩, .int .i64 0]).cells n).toList, v.oneCell' = true := by
  intro v hv
  unfold Builtin.zeroCells at hv
  rw [Array.toList_map, List.mem_map] at hv
  obtain ⟨i, _, rfl⟩ := hv
  have h4 : i % 4 = 0 ∨ i % 4 = 1 ∨ i % 4 = 2 ∨ i % 4 = 3 := by omega
  show Value.oneCell' (#[Value.int .i64 0, .int .i64 0, .string ⟨#[]⟩, .int .i64 0][i % 4]!) = true
  rcases h4 with h | h | h | h <;> rw [h] <;> rfl
/-- clear of any number of elements: what is written does not matter here, only where. -/
theorem run_clearN (w : World) (b o n c : Nat) (hc : ∀ j, j < n * 4 → (w.cell? ⟨b, o + j, none⟩).isSome = true) (hf : ∀ j, j < n * 4 → w.frozen? ⟨b, o + j, none⟩ = false) :
    ∃ vs : List Value, vs.length = n * 4 ∧ ∀ ty, (Builtin.clear_ #[34] ty #[.slice (some ⟨b, o, none⟩) n c]).run Try.prog w = .ok (.tuple #[]) (w.setCells b o vs) := by
  cases n with
  | zero => exact ⟨[], rfl, fun ty => by simp [Builtin.clear_, run_underlying Try.underlying34, World.setCells]⟩
  | succ n =>
  have hlen : (Builtin.zeroCells (Value.agg #[.int .i64 0, .int .i64 0, .string ⟨#[]⟩, .int .i64 0]).cells (n + 1)).toList.length = (n + 1) * 4 := by
    rw [Array.length_toList, size_zeroCells]
    rfl
  refine ⟨_, hlen, fun ty => ?_⟩
  have hst := run_storeCells_cells (P := Try.prog) b o (Builtin.zeroCells (Value.agg #[.int .i64 0, .int .i64 0, .string ⟨#[]⟩, .int .i64 0]).cells (n + 1)).toList 0 w (by rw [hlen]; simpa using hc) (by rw [hlen]; simpa using hf) (zc27_one (n + 1))
  simp only [Nat.add_zero] at hst
  have hz : ∀ w, (zeroValue 27).run Try.prog w = .ok (.agg #[.int .i64 0, .int .i64 0, .string ⟨#[]⟩, .int .i64 0]) w := fun w => by kernel_rfl
  simp [Builtin.clear_, run_underlying Try.underlying34, hz, hst]
/-- Does a datagram fly between two? -/
def betB (a b : Int) (x : S27) : Bool := (x.f0 == a && x.f1 == b) || (x.f0 == b && x.f1 == a)
def FV (ga gb : Nat) : Value := .func (Fn.func 44) #[] #[.pointer (some ⟨ga, 0, none⟩), .pointer (some ⟨gb, 0, none⟩)]
theorem f44_calls {w : World} {ga gb : Nat} {a b : Int} (x : S27) (ha : w.heap[ga]? = some (.cells #[.int .i64 a] 3 (0, 0))) (hb : w.heap[gb]? = some (.cells #[.int .i64 b] 3 (0, 0))) : Calls Try.prog 44 #[.agg #[.int .i64 x.f0, .int .i64 x.f1, .string x.f2, .int .i64 x.f3], .pointer (some ⟨ga, 0, none⟩), .pointer (some ⟨gb, 0, none⟩)] w fun e w' => e = .returned (.bool (betB a b x)) ∧ Below w.heap.size w w' := by
  have HB := zA (Below.refl w.heap.size w)
  have KA := zA ha
  have KB := zA hb
  obtain ⟨y, hy⟩ : ∃ y, y = betB a b x := ⟨_, rfl⟩
  rw [← hy]
  unfold betB at hy
  clear ha hb
  cases h1 : (x.f0 == a) <;> cases h2 : (x.f1 == b) <;> cases h3 : (x.f0 == b) <;> cases h4 : (x.f1 == a) <;> rw [h1, h2, h3, h4] at hy <;> simp only [Bool.and_self, Bool.and_true, Bool.and_false, Bool.or_self, Bool.or_true, Bool.or_false, Bool.true_and, Bool.false_and, Bool.true_or, Bool.false_or] at hy <;> subst hy
  all_goals
    go_enter Try.func44, Try.ntmps44
    go_wp2_with (first | ((with_reducible refine gate_dst (N := 3) rfl ?_); refine zb (N := 3) (cs := #[.int .i64 x.f0, .int .i64 x.f1, .string x.f2, .int .i64 x.f3]) (t := 27) ?_; intro G3 hg w1 hbox hb; have K3 := zA hbox; replace KA := zB KA hb; replace KB := zB KB hb; replace HB := zS HB hb; clear hb hbox hg; obtain ⟨_, _, _, _, _, _, _, _⟩ := zc4 K3; have c1 : w1.cell? ⟨ga, 0, none⟩ = some (.int .i64 a) := (bC KA.out 0).trans rfl; have c2 : w1.cell? ⟨gb, 0, none⟩ = some (.int .i64 b) := (bC KB.out 0).trans rfl) | fail)
    go_ret
    exact ⟨rfl, HB.out⟩
theorem between_calls {w : World} (a b : Int) : Calls Try.prog 38 #[.int .i64 a, .int .i64 b] w fun e w' => ∃ ga gb, e = .returned (FV ga gb) ∧ w'.heap[ga]? = some (.cells #[.int .i64 a] 3 (0, 0)) ∧ w'.heap[gb]? = some (.cells #[.int .i64 b] 3 (0, 0)) ∧ w.heap.size ≤ ga ∧ w.heap.size ≤ gb ∧ Below w.heap.size w w' := by
  have HB := zA (Below.refl w.heap.size w)
  go_enter Try.func38, Try.ntmps38
  go_wp2_with (first | ((with_reducible refine gate_dst (N := 2) rfl ?_); refine zb (N := 2) (cs := #[.int .i64 a]) (t := 3) ?_; intro G2 hg w1 hbox hb; have K2 := zA hbox; have GW2 := zN HB hg; replace HB := zS HB hb; clear hb hbox hg) | ((with_reducible refine gate_dst (N := 3) rfl ?_); refine zb (N := 3) (cs := #[.int .i64 b]) (t := 3) ?_; intro G3 hg w2 hbox hb; have K3 := zA hbox; have GW3 := zN HB hg; replace K2 := zB K2 hb; replace HB := zS HB hb; clear hb hbox hg))
  go_ret
  exact ⟨_, _, rfl, K2.out, K3.out, GW2.out, GW3.out, HB.out⟩
/-- What is kept. -/
def keepB (a b : Int) (m : List S27) : List S27 := m.filter (fun x => !betB a b x)
theorem keepB_app (a b : Int) (m k : List S27) : keepB a b (m ++ k) = keepB a b m ++ keepB a b k := List.filter_append ..
theorem keepB_all {a b : Int} {m : List S27} (h : ∀ x ∈ m, betB a b x = false) : keepB a b m = m := List.filter_eq_self.2 fun x hx => by rw [h x hx]; rfl
theorem take_y {α : Type} {l : List α} {n : Nat} {y : α} (hy : l[n]? = some y) : l.take (n + 1) = l.take n ++ [y] := by
  rw [List.take_add_one, hy]
  rfl
section
variable {w : World} {ga gb : Nat} {a b : Int}
theorem index44 {A : Option Addr} {c : Nat} {m : List S27} (hC : Kd.C k27 w A m.length m) (ha : w.heap[ga]? = some (.cells #[.int .i64 a] 3 (0, 0))) (hb : w.heap[gb]? = some (.cells #[.int .i64 b] 3 (0, 0))) : Calls Try.prog 43 #[.slice A m.length c, FV ga gb] w fun e w' => ∃ i : Int, e = .returned (.int .i64 i) ∧ Below w.heap.size w w' ∧ ((i = -1 ∧ ∀ x ∈ m, betB a b x = false) ∨ ∃ n y, i = (n : Nat) ∧ m[n]? = some y ∧ betB a b y = true ∧ ∀ x ∈ m.take n, betB a b x = false) := by
  have HB := zA (Below.refl w.heap.size w)
  have hu27 := Try.underlying27
  have KA := zA ha
  have KB := zA hb
  clear ha hb
  unfold FV
  go_enter Try.func43, Try.ntmps43
  go_wp2
  go_loopg [8] (m.length + 1) (fun kq v8 w' => ∃ n : Nat, v8 = .int .i64 n ∧ Aside0 (n ≤ m.length) ∧ Aside0 (kq + n = m.length + 1) ∧ Aside0 (∀ x ∈ m.take n, betB a b x = false) ∧ Aside0 (Below w.heap.size w w'))
  case atStart => exact ⟨0, rfl, ⟨Nat.zero_le _⟩, ⟨by omega⟩, ⟨fun x hx => by simp at hx⟩, ⟨zH HB⟩⟩
  case round =>
    obtain ⟨n, rfl, HN, HQ, HM, HB⟩ := hrel
    cases gk with
    | zero => exact absurd HQ.out (by have := HN.out; omega)
    | succ k1 =>
      by_cases c6 : n < m.length
      · have t1 : decide ((n : Int) < (m.length : Int)) = true := decide_eq_true (by omega)
        have t2 : decide (n < m.length) = true := decide_eq_true c6
        have q0 : (0 ≤ (n : Int)) = True := eq_true (by omega)
        have q1 : ((n : Int) < (m.length : Int)) = True := eq_true (by omega)
        obtain ⟨ad, ea, x0, x1, x2, x3⟩ := at_T27 hC n (by omega) (by omega)
        subst ea
        simp only [Int.toNat_natCast] at x0 x1 x2 x3
        replace x0 := zh HB x0; replace x1 := zh HB x1; replace x2 := zh HB x2; replace x3 := zh HB x3
        obtain ⟨y, hy⟩ : ∃ y, y = rd_T27 m n := ⟨_, rfl⟩
        rw [← hy] at x0 x1 x2 x3
        have HY : Aside0 (m[n]? = some y) := ⟨by rw [hy, rd27 c6]; exact List.getElem?_eq_getElem c6⟩
        have HC6 := zA c6
        clear hy
        cases hb : betB a b y with
        | true =>
          go_wp2_with (first | (go_at_call 44; (with_reducible refine (f44_calls y (blk_below KA.out HB.out) (blk_below KB.out HB.out)).mono ?_); rw [hb]; rintro e w5 ⟨rfl, hbl⟩; replace HB := zS HB hbl; clear hbl) | fail)
          go_ret
          exact ⟨_, rfl, zH HB, .inr ⟨n, y, rfl, HY.out, hb, HM.out⟩⟩
        | false =>
          go_wp2_with (first | (go_at_call 44; (with_reducible refine (f44_calls y (blk_below KA.out HB.out) (blk_below KB.out HB.out)).mono ?_); rw [hb]; rintro e w5 ⟨rfl, hbl⟩; replace HB := zS HB hbl; clear hbl) | fail)
          go_roundg k1
          case measure => omega
          case rel => exact ⟨n + 1, by have := HC6.out; have := hC.2.1; rw [show wrap64 ((n : Int) + 1) = ((n + 1 : Nat) : Int) by unfold wrap64; omega], ⟨HC6.out⟩, ⟨by have := HQ.out; omega⟩, ⟨fun x hx => by
            rw [take_y HY.out, List.mem_append, List.mem_singleton] at hx
            rcases hx with h | rfl
            · exact HM.out x h
            · exact hb⟩, ⟨zH HB⟩⟩
      · have t1 : decide ((n : Int) < (m.length : Int)) = false := decide_eq_false (by omega)
        have t2 : decide (n < m.length) = false := decide_eq_false c6
        have hnn : n = m.length := by have := HN.out; omega
        have HNN := zA hnn
        clear c6 hnn
        go_wp2
        go_ret
        exact ⟨_, rfl, zH HB, .inl ⟨rfl, by have := HM.out; rw [HNN.out, List.take_length] at this; exact this⟩⟩
end
end Go.Proofs.Ytpcipmhblknokaa.Ch
