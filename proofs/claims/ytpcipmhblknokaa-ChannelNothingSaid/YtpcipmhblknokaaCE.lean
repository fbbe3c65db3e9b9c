/- Put, by hand. -/
import Derived.Test.YtpcipmhblknokaaCD
import Derived.Test.YtpcipmhblknokaaXCx5
import Derived.Maps.AppendAt
import Derived.Shelf.RegionOpenPlain
import Derived.Deep.RegionLaw
namespace Go.Proofs.Ytpcipmhblknokaa.Ch
open Go.RowKit Go.Proofs.Ytpcipmhblknokaa.XC Go.Proofs.YtpcipmhblknokaaW.PrintWords Go.Proofs.YtpcipmhblknokaaW.PrintLast Go.Proofs.YtpcipmhblknokaaW.PrintMore
attribute [local go_sem] max2_int min2_int max_two min_two max_three min_three max_four min_four   -- for this text's walks alone
set_option linter.unusedVariables false
set_option linter.unusedSimpArgs false
open List renaming setIfInBounds_toArray → xA, set_cons_zero → xB, set_cons_succ → xC
open Go.Proofs.YtpcipmhblknokaaW.PrintWords renaming blk_drewN → bN, blk_drew → bD, blk_alloc → bA, below_set → bS, blk_frozen → bF, blk_cell → bC, cell_far → cF, blk_far → bZ, blk_below → bB, pw_below_drewN → bwN, below_drew1 → bw1, below_alloc → bwA
open Go.Proofs.YtpcipmhblknokaaW.PrintZ
open Bool renaming true → T,false → F

/-- append of one's own row of datagrams as a step of a region that draws. -/
theorem step_app27 {ops : Array Oper} {o : Oper} {a : Act} {w : World} {K : Act → World → Prop} {Q : Exit → Act → World → Prop} {E : Prop}
    (hg : o.guard = none) (s x : Operand) (hop : o.op = Op.call { callee := Callee.builtin Builtin.append, args := #[s, x], argTypes := #[34, 34] })
    {base n m c : Nat} {v : Value} {xs news : List Value} (hs : a.eval s = v) (hown : w.ownsRow base 27 4 v n xs) (ad : Addr) (hx : a.eval x = .slice (some ad) m c) (hl : news.length = m * 4) (hc : ∀ j u, news[j]? = some u → w.cell? (ad.add j) = some u) (h1 : ∀ u ∈ news, u.oneCell' = true)
    (hb : (n + m) * 40 ≤ 140737488355328) (hbase : base ≤ w.heap.size)
    (hK : ∀ v' w', w'.ownsRow base 27 4 v' (n + m) (xs ++ news) → w.grownBy w' v.ownBlock → (v'.ownBlock = v.ownBlock ∨ v'.ownBlock = some w.heap.size) → K (a.put o.dst v') w') :
    if Region.wanted o (yielded ops a.tmps) = true then Oper.wp Try.prog o a w K Q else E := by
  have hw : Region.wanted o (yielded ops a.tmps) = true := by simp [Region.wanted, hg]
  rw [if_pos hw]
  obtain ⟨i0, hi, hzz⟩ := Option.map_eq_some_iff.1 info27
  simp only [Prod.mk.injEq] at hzz
  obtain ⟨hz0, hz1, hz2⟩ := hzz
  obtain ⟨v', w', hrun, r1, r2, _, r3⟩ := run_append_own_at (P := Try.prog) w base 34 o.type 27 i0 _ 4 40 Try.underlying34 hi hz0 hz1 hz2 rfl (by decide) v n xs hown ad m c news hl hc h1 (by simp only [maxLen]; omega) hb hbase
  unfold Oper.wp execOp
  simp only [hop, resolve, invoke, builtin, Sem.run_bind, Sem.run_pure, Result.andThen_ok, List.map_toArray, List.map_cons, List.map_nil, hs, hx, hrun]
  exact hK v' w' r1 r2 r3
/-- A flight at g: it was made, and its datagrams lie in a row of its own. -/
structure Fl (w : World) (base : Nat) (P : Nat → Prop) (g : Nat) (u : Value) (m : List S27) : Prop where
  blk : w.heap[g]? = some (.cells #[.bool true, u] 55 (0, 0))
  row : Kd.R k27 27 w base P u m
/-- What is kept beside a flight and its row. -/
structure Fr (w w' : World) (g : Nat) (b : Option Nat) : Prop where
  os : w'.os = w.os
  tape : w'.tape = w.tape
  output : w'.output = w.output
  size : w.heap.size ≤ w'.heap.size
  block : ∀ k, k < w.heap.size → k ≠ g → some k ≠ b → w'.heap[k]? = w.heap[k]?
theorem c27_one {x : S27} : ∀ u ∈ c27 x, u.oneCell' = true := by
  intro u h
  simp only [c27, List.mem_cons, List.not_mem_nil, or_false] at h
  rcases h with rfl | rfl | rfl | rfl <;> rfl
theorem own_some {w : World} {base n : Nat} {v : Value} {xs : List Value} (h : w.ownsRow base 27 4 v (n + 1) xs) : ∃ g cap, v = .slice (some ⟨g, 0, none⟩) (n + 1) cap := by
  rcases h.2 with ⟨_, h⟩ | ⟨g, cap, _, h, _⟩
  · omega
  · exact ⟨g, cap, h⟩
def idB (x : Int) : Bool := decide (1 ≤ x ∧ x ≤ 2147483647)
def mayB (x : S27) : Bool := idB x.f0 && (idB x.f1 && (decide (x.f0 ≠ x.f1) && (decide (x.f2.size ≤ 65536) && (decide (0 ≤ x.f3) && decide (x.f3 ≤ 65536)))))
theorem id_f (x : Int) : ident_CheckId.f x = some (if idB x = true then 0 else 20) := by
  unfold ident_CheckId.f idB
  by_cases h1 : x < 1
  · rw [if_pos h1, if_neg (by simp; omega)]
  · by_cases h2 : x > 2147483647
    · rw [if_neg h1, if_pos h2, if_neg (by simp; omega)]
    · rw [if_neg h1, if_neg h2, if_pos (by simp; omega)]
theorem may_f (x : S27) : channel_may.f x.f0 x.f1 x.f2 x.f3 = some (mayB x) := by
  unfold channel_may.f mayB
  rw [id_f, id_f]
  cases idB x.f0 with
  | false => rfl
  | true =>
    cases idB x.f1 with
    | false => rfl
    | true =>
      simp only [Option.bind_some, if_true, Bool.true_and]
      by_cases h : x.f0 = x.f1
      · rw [if_pos h, decide_eq_false (by simp [h])]
        rfl
      · rw [if_neg h, decide_eq_true h, Bool.true_and]
        by_cases h2 : x.f2.size ≤ 65536
        · rw [if_pos (by omega), decide_eq_true h2, Bool.true_and]
          by_cases h3 : 0 ≤ x.f3
          · rw [if_pos h3, decide_eq_true h3, Bool.true_and]
          · rw [if_neg (by omega), decide_eq_false h3, Bool.false_and]
        · rw [if_neg (by omega), decide_eq_false h2, Bool.false_and]
def putE (m : List S27) (x : S27) : Int := if mayB x = true then (if 65536 ≤ m.length then 2 else 0) else 1
def putM (m : List S27) (x : S27) : List S27 := if mayB x = true then (if 65536 ≤ m.length then m else m ++ [x]) else m
section
variable {w : World} {base g : Nat} {P : Nat → Prop} {u : Value} {m : List S27}
theorem Fl.below {w' : World} (h : Fl w base P g u m) (hb : Below w.heap.size w w') : Fl w' base P g u m := ⟨blk_below h.blk hb, Kd.R_below h.row hb⟩
theorem Fr.of_below {w' : World} (hb : Below w.heap.size w w') (b : Option Nat) : Fr w w' g b := ⟨hb.os, hb.tape, hb.output, hb.size, fun k hk _ _ => hb.block k hk⟩
theorem put_no (x : S27) (hm : mayB x = false) (F : Fl w base P g u m) : Calls Try.prog 9 #[.pointer (some ⟨g, 0, none⟩), .agg #[.int .i64 x.f0, .int .i64 x.f1, .string x.f2, .int .i64 x.f3]] w fun e w' => e = .returned (.int .i64 1) ∧ Below w.heap.size w w' := by
  obtain ⟨A, c, rfl, hc, hC⟩ := Kd.R_reads F.row
  have HB := zA (Below.refl w.heap.size w)
  have K1 := zA F.blk
  have hA := may_f x
  rw [hm] at hA
  go_enter Try.func9, Try.ntmps9
  go_wp2_with (first | ((with_reducible refine gate_dst (N := 3) rfl ?_); refine zb (N := 3) (cs := #[.int .i64 x.f0, .int .i64 x.f1, .string x.f2, .int .i64 x.f3]) (t := 27) ?_; intro G2 hg w1 hbox hb; have K2 := zA hbox; replace K1 := zB K1 hb; replace HB := zS HB hb; clear hb hbox hg; obtain ⟨_, _, _, _, _, _, _, _⟩ := zc4 K2) | ((with_reducible refine gate_callee (f := 22) rfl ?_); refine zg (some 7) Try.func22 #[.pointer (some ⟨g, 0, none⟩)] ?_; (with_reducible refine (is_calls K1.out).mono ?_); rintro e w4 ⟨rfl, rfl⟩; refine ⟨_, rfl, ?_⟩) | (go_at_call 23; (with_reducible refine (channel_may.calls x.f0 x.f1 x.f2 x.f3 false _ hA).mono ?_); rintro e w5 ⟨rfl, hb⟩; replace HB := zS HB hb; clear hb))
  go_ret
  exact ⟨rfl, HB.out⟩
theorem put_full (x : S27) (hm : mayB x = true) (hl : 65536 ≤ m.length) (F : Fl w base P g u m) : Calls Try.prog 9 #[.pointer (some ⟨g, 0, none⟩), .agg #[.int .i64 x.f0, .int .i64 x.f1, .string x.f2, .int .i64 x.f3]] w fun e w' => e = .returned (.int .i64 2) ∧ Below w.heap.size w w' := by
  obtain ⟨A, c, rfl, hc, hC⟩ := Kd.R_reads F.row
  have HB := zA (Below.refl w.heap.size w)
  have K1 := zA F.blk
  have hA := may_f x
  rw [hm] at hA
  have t1 : decide (65536 ≤ (m.length : Int)) = true := decide_eq_true (by omega)
  have t2 : decide (65536 ≤ m.length) = true := decide_eq_true hl
  go_enter Try.func9, Try.ntmps9
  go_wp2_with (first | ((with_reducible refine gate_dst (N := 3) rfl ?_); refine zb (N := 3) (cs := #[.int .i64 x.f0, .int .i64 x.f1, .string x.f2, .int .i64 x.f3]) (t := 27) ?_; intro G2 hg w1 hbox hb; have K2 := zA hbox; have GW2 := zN HB hg; replace K1 := zB K1 hb; replace HB := zS HB hb; clear hb hbox hg; obtain ⟨_, _, _, _, _, _, _, _⟩ := zc4 K2) | ((with_reducible refine gate_callee (f := 22) rfl ?_); refine zg (some 7) Try.func22 #[.pointer (some ⟨g, 0, none⟩)] ?_; (with_reducible refine (is_calls K1.out).mono ?_); rintro e w4 ⟨rfl, rfl⟩; refine ⟨_, rfl, ?_⟩) | (go_at_call 23; (with_reducible refine (channel_may.calls x.f0 x.f1 x.f2 x.f3 true _ hA).mono ?_); rintro e w5 ⟨rfl, hb⟩; replace HB := zS HB hb; replace K1 := zB K1 hb; replace K2 := zB K2 hb; clear hb; obtain ⟨_, _, _, _⟩ := zc2 K1; obtain ⟨_, _, _, _, _, _, _, _⟩ := zc4 K2))
  go_ret
  exact ⟨rfl, HB.out⟩
theorem put_end {w5 w6 W : World} {n c : Nat} {A : Option Addr} {u1 : Value} {x : S27} {o : Obj} (F : Fl w base P g (.slice A n c) m) (HB : Below w.heap.size w w5) (hP : ∀ k, w.heap.size ≤ k → P k) (K3 : w6.heap[g]? = some (.cells #[.bool true, .slice A n c] 55 (0, 0)))
    (HO : w6.ownsRow base 27 4 u1 (m.length + 1) (cells m ++ c27 x)) (HG : W.grownBy w6 (Value.slice A n c).ownBlock) (hW : W.os = w5.os ∧ W.tape = w5.tape ∧ W.output = w5.output ∧ W.heap = (w5.alloc o).heap) (HT : u1.ownBlock = (Value.slice A n c).ownBlock ∨ u1.ownBlock = some W.heap.size) :
    Fl (w6.setCell ⟨g, 1, none⟩ u1) base P g u1 (m ++ [x]) ∧ Fr w (w6.setCell ⟨g, 1, none⟩ u1) g (Value.slice A n c).ownBlock ∧ (u1.ownBlock = (Value.slice A n c).ownBlock ∨ ∃ b, u1.ownBlock = some b ∧ w.heap.size ≤ b) := by
  obtain ⟨h1, h2, h3, h4⟩ := hW
  have hsz : (w5.alloc o).heap.size = w5.heap.size + 1 := by simp
  have hs1 := HB.size
  have hg1 := blk_lt F.blk
  have hs2 := HG.size
  rw [h4, hsz] at hs2
  have hgu : u1.ownBlock ≠ some g := fun e => own_ne HO K3 (by decide) e.symm
  have hu : u1.ownBlock = (Value.slice A n c).ownBlock ∨ ∃ b, u1.ownBlock = some b ∧ w.heap.size ≤ b := by
    rcases HT with e | e
    · exact .inl e
    · exact .inr ⟨_, e, by rw [h4, hsz]; omega⟩
  refine ⟨⟨?_, R27.2 ⟨fun k hk => ?_, ?_⟩⟩, ⟨?_, ?_, ?_, ?_, fun k hk hkg hkb => ?_⟩, hu⟩
  · exact (blk_set K3 1 u1).trans rfl
  · rcases hu with e | ⟨b, e, hb⟩
    · exact F.row.1 k (by rw [← e]; exact hk)
    · rw [e] at hk; injection hk with hk; subst hk; exact hP _ hb
  · rw [List.length_append, cells_app, show cells [x] = c27 x from by simp [cells]]
    exact ownsRow_setCell_other HO hgu u1
  · exact HG.os.trans (h1.trans HB.os)
  · exact HG.tape.trans (h2.trans HB.tape)
  · exact HG.output.trans (h3.trans HB.output)
  · have : (w6.setCell ⟨g, 1, none⟩ u1).heap.size = w6.heap.size := by simp [World.setCell]
    omega
  · rw [Below.heap_setCell w6 ⟨g, 1, none⟩ u1 k hkg, HG.block k (by rw [h4, hsz]; omega) hkb, h4, Below.heap_alloc w5 o k (by omega)]
    exact HB.block k hk
theorem put_yes (x : S27) (hm : mayB x = true) (hl : ¬ 65536 ≤ m.length) (F : Fl w base P g u m) (hb0 : base ≤ w.heap.size) (hP : ∀ k, w.heap.size ≤ k → P k) : Calls Try.prog 9 #[.pointer (some ⟨g, 0, none⟩), .agg #[.int .i64 x.f0, .int .i64 x.f1, .string x.f2, .int .i64 x.f3]] w fun e w' => ∃ u', e = .returned (.int .i64 0) ∧ Fl w' base P g u' (m ++ [x]) ∧ Fr w w' g u.ownBlock ∧ (u'.ownBlock = u.ownBlock ∨ ∃ b, u'.ownBlock = some b ∧ w.heap.size ≤ b) := by
  obtain ⟨A, c, rfl, hc, hC⟩ := Kd.R_reads F.row
  have HB := zA (Below.refl w.heap.size w)
  have K1 := zA F.blk
  have hA := may_f x
  rw [hm] at hA
  have t1 : decide (65536 ≤ (m.length : Int)) = false := decide_eq_false (by omega)
  have t2 : decide (65536 ≤ m.length) = false := decide_eq_false hl
  have mixed : Try.prog.follows Departure.mixedOrders = true := by kernel_rfl
  go_enter Try.func9, Try.ntmps9
  go_wp2_with (first | ((with_reducible refine gate_dst (N := 3) rfl ?_); refine zb (N := 3) (cs := #[.int .i64 x.f0, .int .i64 x.f1, .string x.f2, .int .i64 x.f3]) (t := 27) ?_; intro G2 hg w1 hbox hb; have K2 := zA hbox; have GW2 := zN HB hg; replace K1 := zB K1 hb; replace HB := zS HB hb; clear hb hbox hg; obtain ⟨_, _, _, _, _, _, _, _⟩ := zc4 K2) | ((with_reducible refine gate_callee (f := 22) rfl ?_); refine zg (some 7) Try.func22 #[.pointer (some ⟨g, 0, none⟩)] ?_; (with_reducible refine (is_calls K1.out).mono ?_); rintro e w4 ⟨rfl, rfl⟩; refine ⟨_, rfl, ?_⟩) | (go_at_call 23; (with_reducible refine (channel_may.calls x.f0 x.f1 x.f2 x.f3 true _ hA).mono ?_); rintro e w5 ⟨rfl, hb⟩; replace HB := zS HB hb; replace K1 := zB K1 hb; replace K2 := zB K2 hb; clear hb; obtain ⟨_, _, _, _⟩ := zc2 K1; obtain ⟨_, _, _, _, _, _, _, _⟩ := zc4 K2))
  have hown := zA (R27.1 (Fl.below F HB.out).row).2
  have hne : Aside0 (some g ≠ (Value.slice A m.length c).ownBlock) := ⟨own_ne hown.out K1.out (by decide)⟩
  have hcs : Aside0 (∀ j u, (c27 x)[j]? = some u → (w5.drew.alloc (.cells (c27 x).toArray 27)).cell? ((⟨w5.heap.size, 0, none⟩ : Addr).add j) = some u) := ⟨by simpa using World.news_of_block (cs := (c27 x).toArray) (t := 27) (fr := (0, 0)) (heap_alloc_new w5.drew (.cells (c27 x).toArray 27))⟩
  have hsz : base ≤ w5.heap.size := Nat.le_trans hb0 HB.out.size
  have hml : (m.length + 1) * 40 ≤ 140737488355328 := by omega
  have hq1 : (w5.alloc (.cells #[.int .i64 x.f0, .int .i64 x.f1, .string x.f2, .int .i64 x.f3] 27)).cell? ⟨g, 1, none⟩ = some (.slice A m.length c) := (bC (blk_alloc K1.out _) 1).trans rfl
  clear t1 t2 hA
  go_region_law_o (refine step_app27 rfl (.tmp 25) (.tmp 27) rfl (base := base) (n := m.length) (m := 1) (c := 1) (v := .slice A m.length c) (xs := cells m) (news := c27 x) (by simp [Act.eval, Act.put]) (World.ownsRow.alloc hown.out.drew _) ⟨w5.heap.size, 0, none⟩ (by simp [Act.eval, Act.put]) rfl hcs.out c27_one hml (by simp; omega) ?_; intro v1 w6 ho hg hat; have K3 := zA (blk_grown (g := g) (blk_alloc (blk_drew K1.out) _) hg hne.out); obtain ⟨b1, cap1, rfl⟩ := own_some ho; obtain ⟨_, _, _, _⟩ := zc2 K3; have HO := zA ho; have HG := zA hg; have HT := zA hat; clear ho hg hat)
  all_goals (go_wp2; go_ret; exact ⟨_, rfl, put_end F HB.out hP K3.out HO.out HG.out ⟨rfl, rfl, rfl, rfl⟩ HT.out⟩)
end
end Go.Proofs.Ytpcipmhblknokaa.Ch
