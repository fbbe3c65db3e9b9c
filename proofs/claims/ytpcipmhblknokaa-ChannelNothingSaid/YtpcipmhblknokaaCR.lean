import Derived.Test.YtpcipmhblknokaaCQ
namespace Go.Proofs.Ytpcipmhblknokaa.Ch
open Go.RowKit Go.Proofs.Ytpcipmhblknokaa.XC Go.Proofs.YtpcipmhblknokaaW.PrintWords Go.Proofs.YtpcipmhblknokaaW.PrintLast Go.Proofs.YtpcipmhblknokaaW.PrintMore
attribute [local go_sem] max2_int min2_int max_two min_two max_three min_three max_four min_four   -- for this text's walks alone
set_option linter.unusedVariables false
set_option linter.unusedSimpArgs false
open List renaming setIfInBounds_toArray → xA, set_cons_zero → xB, set_cons_succ → xC
open Go.Proofs.YtpcipmhblknokaaW.PrintWords renaming blk_drewN → bN, blk_drew → bD, blk_alloc → bA, below_set → bS, blk_frozen → bF, blk_cell → bC, cell_far → cF, blk_far → bZ, blk_below → bB, pw_below_drewN → bwN, below_drew1 → bw1, below_alloc → bwA
open Go.Proofs.YtpcipmhblknokaaW.PrintZ
open Bool renaming true → T,false → F

set_option maxRecDepth 100000
set_option maxHeartbeats 8000000
theorem grown_set {w w' : World} {u : Value} {b : Nat} (h : w.grownBy w' u.ownBlock) (hb : u.ownBlock = some b) (i : Nat) (v : Value) : w.grownBy (w'.setCell ⟨b, i, none⟩ v) u.ownBlock :=
  ⟨h.os, h.tape, h.output, by simp only [World.setCell, Array.size_modify]; exact h.size, fun k hk hne => (Below.heap_setCell w' _ v k (fun e => hne (by rw [hb]; exact congrArg some e))).trans (h.block k hk hne)⟩
theorem grown_below {w w1 w2 : World} {r : Option Nat} (h : w.grownBy w1 r) (hb : Below w1.heap.size w1 w2) : w.grownBy w2 r :=
  ⟨hb.os.trans h.os, hb.tape.trans h.tape, hb.output.trans h.output, Nat.le_trans h.size hb.size, fun k hk hne => (hb.block k (Nat.lt_of_lt_of_le hk h.size)).trans (h.block k hk hne)⟩
theorem grown_new {w w1 : World} {r : Option Nat} (h : w.grownBy w1 r) {G : Nat} (hG : w.heap.size ≤ G) (a b c d : Value) : w.grownBy ((((w1.setCell ⟨G, 0, none⟩ a).setCell ⟨G, 1, none⟩ b).setCell ⟨G, 2, none⟩ c).setCell ⟨G, 3, none⟩ d) r :=
  ⟨h.os, h.tape, h.output, by simp only [World.setCell, Array.size_modify]; exact h.size, fun k hk hne => by
    rw [Below.heap_setCell _ ⟨G, 3, none⟩ d k (by show k ≠ G; omega), Below.heap_setCell _ ⟨G, 2, none⟩ c k (by show k ≠ G; omega), Below.heap_setCell _ ⟨G, 1, none⟩ b k (by show k ≠ G; omega), Below.heap_setCell _ ⟨G, 0, none⟩ a k (by show k ≠ G; omega)]
    exact h.block k hk hne⟩
/-- The head of a row whose rest was cleared. -/
theorem R_clear {W : World} {base b cap i n : Nat} {P : Nat → Prop} {L : List S27} {vs : List Value} (h : Kd.R k27 27 W base P (.slice (some ⟨b, 0, none⟩) n cap) L) (hn : L.length = n) (hi : i ≤ n) (hv : vs.length = (n - i) * 4) :
    Kd.R k27 27 (W.setCells b (i * 4) vs) base P (.slice (some ⟨b, 0, none⟩) i cap) (L.take i) := by
  subst hn
  obtain ⟨h0, hl, ho⟩ := R27.1 h
  rcases ho with ⟨he, _⟩ | ⟨g, cap', cur, he, hg, hh, hle, hm, hs, ht⟩
  · cases he
  · cases he
    have hcs : cur.size = cur.toList.length := by simp
    obtain ⟨c1, a1, a2, a3⟩ := setCells_row vs (i * 4) W cur hh (by omega)
    have hll : (L.take i).length = i := by rw [List.length_take]; omega
    refine R27.2 ⟨h0, by rw [cells_len], .inr ⟨b, cap, c1, by rw [hll], hg, a1, by rw [hll]; omega, hm, by omega, ?_⟩⟩
    rw [hll, a3, List.append_assoc, List.take_append_of_le_length (by rw [List.length_take]; omega), List.take_take, Nat.min_self, ← cells_take, ← ht, List.take_take, Nat.min_eq_left (by omega)]
theorem grown_sets {w w' : World} {u : Value} {b : Nat} (h : w.grownBy w' u.ownBlock) (hb : u.ownBlock = some b) (o : Nat) (vs : List Value) : w.grownBy (w'.setCells b o vs) u.ownBlock := by
  have s := setCells_same b vs o w'
  exact ⟨s.1.trans h.os, s.2.1.trans h.tape, s.2.2.1.trans h.output, by rw [s.2.2.2]; exact h.size, fun k hk hne => (setCells_far vs o k (fun e => hne (by rw [hb, e]))).trans (h.block k hk hne)⟩
theorem R_cells {W : World} {base b cap n : Nat} {P : Nat → Prop} {L : List S27} (h : Kd.R k27 27 W base P (.slice (some ⟨b, 0, none⟩) n cap) L) (hn : L.length = n) (k : Nat) (hk : k < n * 4) : (W.cell? ⟨b, k, none⟩).isSome = true ∧ W.frozen? ⟨b, k, none⟩ = false := by
  subst hn
  obtain ⟨h0, hl, ho⟩ := R27.1 h
  rcases ho with ⟨he, _⟩ | ⟨g, cap', cur, he, hg, hh, hle, hm, hs, ht⟩
  · cases he
  · cases he
    exact ⟨by rw [bC hh, Array.getElem?_eq_getElem (by omega)]; rfl, bF hh k⟩
theorem first_eq {a b : Int} {m : List S27} {n n1 : Nat} {y y1 : S27} (h1 : m[n]? = some y) (h2 : betB a b y = true) (h3 : ∀ x ∈ m.take n, betB a b x = false) (g1 : m[n1]? = some y1) (g2 : betB a b y1 = true) (g3 : ∀ x ∈ m.take n1, betB a b x = false) : n = n1 := by
  have mem : ∀ {i j : Nat} {z : S27}, m[i]? = some z → i < j → z ∈ m.take j := fun hi hij => List.mem_of_getElem? (by rw [List.getElem?_take_of_lt hij]; exact hi)
  rcases Nat.lt_trichotomy n n1 with h | h | h
  · exact absurd h2 (by rw [g3 y (mem h1 h)]; decide)
  · exact h
  · exact absurd g2 (by rw [h3 y1 (mem g1 h)]; decide)
section
variable {w : World} {base ga gb : Nat} {P : Nat → Prop} {u : Value} {m : List S27} {a b : Int}
theorem delf_none (hR : Kd.R k27 27 w base P u m) (ha : w.heap[ga]? = some (.cells #[.int .i64 a] 3 (0, 0))) (hb : w.heap[gb]? = some (.cells #[.int .i64 b] 3 (0, 0))) (hall : ∀ x ∈ m, betB a b x = false) :
    Calls Try.prog 37 #[u, FV ga gb] w fun e w' => e = .returned u ∧ Below w.heap.size w w' := by
  obtain ⟨A, c, rfl, hc, hC⟩ := Kd.R_reads hR
  have HB := zA (Below.refl w.heap.size w)
  have HA := zA hall
  clear hall
  go_enter Try.func37, Try.ntmps37
  go_wp2_with (first | ((with_reducible refine gate_callee (f := 43) rfl ?_); refine zg (some 10) Try.func43 #[.slice A m.length c, FV ga gb] ?_; (with_reducible refine (index44 hC ha hb).mono ?_); rintro e w4 ⟨i, rfl, hbl, hcase⟩; refine ⟨_, rfl, ?_⟩; obtain rfl : i = -1 := (by rcases hcase with ⟨h, _⟩ | ⟨n, y, _, hy, h1, _⟩; exact h; exact absurd h1 (by rw [HA.out y (List.mem_of_getElem? hy)]; decide)); replace HB := zS HB hbl; clear hbl hcase) | fail)
  go_ret
  exact ⟨rfl, HB.out⟩
theorem delf_some {n : Nat} {y0 : S27} (hR : Kd.R k27 27 w base P u m) (ha : w.heap[ga]? = some (.cells #[.int .i64 a] 3 (0, 0))) (hb : w.heap[gb]? = some (.cells #[.int .i64 b] 3 (0, 0))) (hna : some ga ≠ u.ownBlock) (hnb : some gb ≠ u.ownBlock) (hy0 : m[n]? = some y0) (hb0 : betB a b y0 = true) (hpre : ∀ x ∈ m.take n, betB a b x = false) :
    Calls Try.prog 37 #[u, FV ga gb] w fun e w' => ∃ v, e = .returned v ∧ Kd.R k27 27 w' base P v (keepB a b m) ∧ v.ownBlock = u.ownBlock ∧ w.grownBy w' u.ownBlock := by
  obtain ⟨b0, cap, rfl, _, _⟩ := row_y hR hy0
  obtain ⟨_, _, he, hc, hC⟩ := Kd.R_reads hR
  cases he
  have hl63 := hC.2.1
  have HR0 := zA hR
  have HY0 := zA (And.intro hy0 (And.intro hb0 hpre))
  have hn := lt_y hy0
  have hnn : b0 ≠ ga := fun e => hna (by rw [e]; rfl)
  have hnb2 : b0 ≠ gb := fun e => hnb (by rw [e]; rfl)
  have HNN := zA (And.intro hnn hnb2)
  clear hy0 hb0 hpre hna hnb hnn hnb2
  unfold FV
  go_enter Try.func37, Try.ntmps37
  go_wp2_with (first | ((with_reducible refine gate_callee (f := 43) rfl ?_); refine zg (some 10) Try.func43 #[.slice (some ⟨b0, 0, none⟩) m.length cap, FV ga gb] ?_; (with_reducible refine (index44 hC ha hb).mono ?_); rintro e w4 ⟨i, rfl, hbl, hcase⟩; refine ⟨_, rfl, ?_⟩; obtain rfl : i = (n : Nat) := (by rcases hcase with ⟨_, h⟩ | ⟨n1, y1, rfl, h1, h2, h3⟩; exact absurd HY0.out.2.1 (by rw [h y0 (List.mem_of_getElem? HY0.out.1)]; decide); exact congrArg _ (first_eq HY0.out.1 HY0.out.2.1 HY0.out.2.2 h1 h2 h3).symm); have KA := zA (blk_below ha hbl); have KB := zA (blk_below hb hbl); have HR := zA (Kd.R_below HR0.out hbl); have HW := zA (grown_below (show w.grownBy w (Value.slice (some ⟨b0, 0, none⟩) m.length cap).ownBlock from ⟨rfl, rfl, rfl, Nat.le_refl _, fun _ _ _ => rfl⟩) hbl); clear hbl hcase; have e1 : ((n : Int) == -1) = false := beq_eq_false_iff_ne.mpr (by omega)) | fail)
  go_loopg [5, 6] (m.length - n) (fun kq v5 v6 w' => ∃ (ni nj : Nat) (L : List S27), v5 = .int .i64 ni ∧ v6 = .int .i64 nj ∧ Aside0 (ni < nj ∧ nj ≤ m.length) ∧ Aside0 (kq + nj = m.length + 1) ∧ Aside0 (L.length = m.length) ∧ Aside0 (L.take ni = keepB a b (m.take nj)) ∧ Aside0 (L.drop nj = m.drop nj) ∧ Aside0 (Kd.R k27 27 w' base P (.slice (some ⟨b0, 0, none⟩) m.length cap) L) ∧ Aside0 (w'.heap[ga]? = some (.cells #[.int .i64 a] 3 (0, 0))) ∧ Aside0 (w'.heap[gb]? = some (.cells #[.int .i64 b] 3 (0, 0))) ∧ Aside0 (w.grownBy w' (Value.slice (some ⟨b0, 0, none⟩) m.length cap).ownBlock))
  case atStart => exact ⟨n, n + 1, m, rfl, by rw [Int.natCast_add]; rfl, ⟨⟨by omega, by omega⟩⟩, ⟨by omega⟩, ⟨rfl⟩, ⟨by rw [take_y HY0.out.1, keepB_app, keepB_all HY0.out.2.2]; unfold keepB; rw [List.filter_cons_of_neg (by rw [HY0.out.2.1]; decide), List.filter_nil, List.append_nil]⟩, ⟨rfl⟩, HR, KA, KB, HW⟩
  case round =>
    clear HR KA KB HW
    obtain ⟨ni, nj, L, rfl, rfl, HI, HQ, HLL, HT, HD, HR, KA, KB, HW⟩ := hrel
    cases gk with
    | zero => exact absurd HQ.out (by have := HI.out; omega)
    | succ k1 =>
      by_cases c6 : nj < m.length
      · have t1 : decide ((nj : Int) < (m.length : Int)) = true := decide_eq_true (by omega)
        have q0 : (0 ≤ (nj : Int)) = True := eq_true (by omega)
        have q1 : ((nj : Int) < (m.length : Int)) = True := eq_true (by omega)
        have hi := HI.out
        have hll := HLL.out
        have q2 : (0 ≤ (ni : Int)) = True := eq_true (by omega)
        have q3 : ((ni : Int) < (m.length : Int)) = True := eq_true (by omega)
        obtain ⟨y, hy⟩ : ∃ y, m[nj]? = some y := ⟨_, List.getElem?_eq_getElem c6⟩
        have hyL : L[nj]? = some y := by
          have e := congrArg (fun l => l[0]?) HD.out
          simp only [List.getElem?_drop, Nat.add_zero] at e
          rw [e]
          exact hy
        obtain ⟨b2, cap2, hu2, ⟨x0, x1, x2, x3⟩, _⟩ := row_y HR.out hyL
        rw [HLL.out] at hu2
        cases hu2
        have KA0 := KA
        have KB0 := KB
        have HY := zA hy
        clear hy hyL hi hll
        cases hb : betB a b y with
        | true =>
          go_wp2_with (first | ((with_reducible refine gate_dst (N := 7) rfl ?_); refine zb (N := 7) (cs := #[.int .i64 0, .int .i64 0, .string ⟨#[]⟩, .int .i64 0]) (t := 27) ?_; intro G7 hg w6 hbox hb; have K7 := zA hbox; have NL := zA (own_lt (R27.1 HR.out).2); have NG : Aside0 (w.heap.size ≤ G7) := ⟨by rw [hg]; exact HW.out.size⟩; have NB7 : Aside0 (b0 ≠ G7) := ⟨fun e => by have := NL.out b0 rfl; omega⟩; clear NL; replace HR := zA (Kd.R_below HR.out hb); replace HW := zA (grown_below HW.out hb); replace KA := zB KA hb; replace KB := zB KB hb; have NA := zL KA0 hg; have NBb := zL KB0 hg; clear hb hbox hg KA0 KB0; obtain ⟨_, _, _, _, _, _, _, _⟩ := zc4 K7) | ((with_reducible refine gate_store (t := 27) (p := 7) rfl ?_); refine store_event (t := 27) (p := 7) (v := ?vo) (w1 := ((((w6.setCell ⟨G7, 0, none⟩ (.int .i64 y.f0)).setCell ⟨G7, 1, none⟩ (.int .i64 y.f1)).setCell ⟨G7, 2, none⟩ (.string y.f2)).setCell ⟨G7, 3, none⟩ (.int .i64 y.f3))) ?hg ?ho ?hn ?hr ?_; (case ho => rfl); (case hg => rfl); (case hn => rfl); (case hr => first|(go_simp;done)|(go_simp;rfl)); intro w8 hw; replace HR : Aside0 (Kd.R k27 27 w8 base P (.slice (some ⟨b0, 0, none⟩) m.length cap) L) := ⟨by rw [hw]; exact R_st4 HR.out (fun e => NB7.out (Option.some.inj e).symm) _ _ _ _⟩; replace HW : Aside0 (w.grownBy w8 (Value.slice (some ⟨b0, 0, none⟩) m.length cap).ownBlock) := ⟨by rw [hw]; exact grown_new HW.out NG.out _ _ _ _⟩; replace KA : Aside0 (w8.heap[ga]? = some (.cells #[.int .i64 a] 3 (0, 0))) := ⟨by rw [hw]; exact blk_far (blk_far (blk_far (blk_far KA.out NA.out _) NA.out _) NA.out _) NA.out _⟩; replace KB : Aside0 (w8.heap[gb]? = some (.cells #[.int .i64 b] 3 (0, 0))) := ⟨by rw [hw]; exact blk_far (blk_far (blk_far (blk_far KB.out NBb.out _) NBb.out _) NBb.out _) NBb.out _⟩; replace K7 := zVp hw (.cells #[.int .i64 y.f0, .int .i64 y.f1, .string y.f2, .int .i64 y.f3] 27 (0, 0)) K7; clear hw; obtain ⟨_, _, _, _, _, _, _, _⟩ := zc4 K7) | (go_at_call 44; (with_reducible refine (f44_calls y KA.out KB.out).mono ?_); rw [hb]; rintro e w9 ⟨rfl, hbl⟩; replace HR := zA (Kd.R_below HR.out hbl); replace HW := zA (grown_below HW.out hbl); replace KA := zB KA hbl; replace KB := zB KB hbl; replace K7 := zB K7 hbl; clear hbl))
          go_roundg k1
          case measure => omega
          case rel => exact ⟨ni, nj + 1, L, rfl, by rw [Int.natCast_add]; rfl, ⟨⟨by have := HI.out; omega, c6⟩⟩, ⟨by have := HQ.out; omega⟩, HLL, ⟨by rw [HT.out, take_y HY.out, keepB_app]; unfold keepB; rw [List.filter_cons_of_neg (by rw [hb]; decide), List.filter_nil, List.append_nil]⟩, ⟨by have e := congrArg (List.drop 1) HD.out; rw [List.drop_drop, List.drop_drop] at e; exact e⟩, HR, KA, KB, HW⟩
        | false =>
          go_wp2_with (first | ((with_reducible refine gate_dst (N := 7) rfl ?_); refine zb (N := 7) (cs := #[.int .i64 0, .int .i64 0, .string ⟨#[]⟩, .int .i64 0]) (t := 27) ?_; intro G7 hg w6 hbox hb; have K7 := zA hbox; have NL := zA (own_lt (R27.1 HR.out).2); have NG : Aside0 (w.heap.size ≤ G7) := ⟨by rw [hg]; exact HW.out.size⟩; have NB7 : Aside0 (b0 ≠ G7) := ⟨fun e => by have := NL.out b0 rfl; omega⟩; clear NL; replace HR := zA (Kd.R_below HR.out hb); replace HW := zA (grown_below HW.out hb); replace KA := zB KA hb; replace KB := zB KB hb; have NA := zL KA0 hg; have NBb := zL KB0 hg; clear hb hbox hg KA0 KB0; obtain ⟨_, _, _, _, _, _, _, _⟩ := zc4 K7) | ((with_reducible refine gate_store (t := 27) (p := 7) rfl ?_); refine store_event (t := 27) (p := 7) (v := ?vo) (w1 := ((((w6.setCell ⟨G7, 0, none⟩ (.int .i64 y.f0)).setCell ⟨G7, 1, none⟩ (.int .i64 y.f1)).setCell ⟨G7, 2, none⟩ (.string y.f2)).setCell ⟨G7, 3, none⟩ (.int .i64 y.f3))) ?hg ?ho ?hn ?hr ?_; (case ho => rfl); (case hg => rfl); (case hn => rfl); (case hr => first|(go_simp;done)|(go_simp;rfl)); intro w8 hw; replace HR : Aside0 (Kd.R k27 27 w8 base P (.slice (some ⟨b0, 0, none⟩) m.length cap) L) := ⟨by rw [hw]; exact R_st4 HR.out (fun e => NB7.out (Option.some.inj e).symm) _ _ _ _⟩; replace HW : Aside0 (w.grownBy w8 (Value.slice (some ⟨b0, 0, none⟩) m.length cap).ownBlock) := ⟨by rw [hw]; exact grown_new HW.out NG.out _ _ _ _⟩; replace KA : Aside0 (w8.heap[ga]? = some (.cells #[.int .i64 a] 3 (0, 0))) := ⟨by rw [hw]; exact blk_far (blk_far (blk_far (blk_far KA.out NA.out _) NA.out _) NA.out _) NA.out _⟩; replace KB : Aside0 (w8.heap[gb]? = some (.cells #[.int .i64 b] 3 (0, 0))) := ⟨by rw [hw]; exact blk_far (blk_far (blk_far (blk_far KB.out NBb.out _) NBb.out _) NBb.out _) NBb.out _⟩; replace K7 := zVp hw (.cells #[.int .i64 y.f0, .int .i64 y.f1, .string y.f2, .int .i64 y.f3] 27 (0, 0)) K7; clear hw; obtain ⟨_, _, _, _, _, _, _, _⟩ := zc4 K7) | (go_at_call 44; (with_reducible refine (f44_calls y KA.out KB.out).mono ?_); rw [hb]; rintro e w9 ⟨rfl, hbl⟩; replace HR := zA (Kd.R_below HR.out hbl); replace HW := zA (grown_below HW.out hbl); replace KA := zB KA hbl; replace KB := zB KB hbl; replace K7 := zB K7 hbl; clear hbl; obtain ⟨_, _, _, _, _, _, _, _⟩ := zc4 K7; obtain ⟨b2, cap2, hu2, ⟨z0, z1, z2, z3⟩, hfz⟩ := row_at HR.out (n := ni) (by have := HI.out; have := HLL.out; omega); rw [HLL.out] at hu2; cases hu2; have f0 := hfz (ni * 4); have f1 := hfz (ni * 4 + 1); have f2 := hfz (ni * 4 + 2); have f3 := hfz (ni * 4 + 3); clear hfz))
          go_roundg k1
          case measure => omega
          case rel =>
            have hi := HI.out
            have hll := HLL.out
            have hne1 := Ne.symm HNN.out.1
            have hne2 := Ne.symm HNN.out.2
            exact ⟨ni + 1, nj + 1, L.set ni y, by rw [show wrap64 ((ni : Int) + 1) = ((ni + 1 : Nat) : Int) by unfold wrap64; omega], by rw [Int.natCast_add]; rfl, ⟨⟨by omega, c6⟩⟩, ⟨by have := HQ.out; omega⟩, ⟨by rw [List.length_set]; exact hll⟩, ⟨by
              rw [take_y (List.getElem?_set_self (by omega)), List.take_set, List.set_eq_of_length_le (by rw [List.length_take]; omega), HT.out, take_y HY.out, keepB_app]
              unfold keepB
              rw [List.filter_cons_of_pos (by rw [hb]; decide), List.filter_nil]⟩, ⟨by
              have e := congrArg (List.drop 1) HD.out
              rw [List.drop_drop, List.drop_drop] at e
              rw [List.drop_set_of_lt (by omega)]
              exact e⟩, ⟨R_set4 HR.out (by omega) rfl y⟩, ⟨blk_far (p := ⟨b0, ni * 4 + 3, none⟩) (blk_far (p := ⟨b0, ni * 4 + 2, none⟩) (blk_far (p := ⟨b0, ni * 4 + 1, none⟩) (blk_far (p := ⟨b0, ni * 4, none⟩) KA.out hne1 _) hne1 _) hne1 _) hne1 _⟩, ⟨blk_far (p := ⟨b0, ni * 4 + 3, none⟩) (blk_far (p := ⟨b0, ni * 4 + 2, none⟩) (blk_far (p := ⟨b0, ni * 4 + 1, none⟩) (blk_far (p := ⟨b0, ni * 4, none⟩) KB.out hne2 _) hne2 _) hne2 _) hne2 _⟩, ⟨grown_set (grown_set (grown_set (grown_set HW.out rfl _ _) rfl _ _) rfl _ _) rfl _ _⟩⟩
      · have t1 : decide ((nj : Int) < (m.length : Int)) = false := decide_eq_false (by omega)
        have t2 : decide (nj < m.length) = false := decide_eq_false c6
        have hnj : nj = m.length := by have := HI.out; omega
        have HNJ := zA hnj
        have hi : ni < m.length := by have := HI.out; omega
        have hni : ni ≤ cap := by omega
        have q2 : (0 ≤ (ni : Int)) = True := eq_true (by omega)
        have q3 : ((ni : Int) < (m.length : Int)) = True := eq_true (by omega)
        have hcap : ¬ cap = ni := by omega
        obtain ⟨vs, hv, hcl⟩ := run_clearN wr b0 (ni * 4) (m.length - ni) (cap - ni) (fun j hj => (R_cells HR.out HLL.out (ni * 4 + j) (by omega)).1) (fun j hj => (R_cells HR.out HLL.out (ni * 4 + j) (by omega)).2)
        have HV := zA hv
        clear c6 hnj hv
        go_wp2
        go_ret
        have e := R_clear HR.out HLL.out (Nat.le_of_lt hi) HV.out
        rw [HT.out, HNJ.out, List.take_length] at e
        exact ⟨_, rfl, e, rfl, grown_sets HW.out rfl _ _⟩
end
end Go.Proofs.Ytpcipmhblknokaa.Ch
