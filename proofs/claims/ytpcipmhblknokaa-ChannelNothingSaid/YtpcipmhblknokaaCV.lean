/- What Do of the document does, by hand (part one). -/
import Derived.Test.YtpcipmhblknokaaCU
namespace Go.Proofs.Ytpcipmhblknokaa.Ch
open Go.RowKit Go.Proofs.Ytpcipmhblknokaa.XC Go.Proofs.YtpcipmhblknokaaW.PrintWords Go.Proofs.YtpcipmhblknokaaW.PrintLast Go.Proofs.YtpcipmhblknokaaW.PrintMore
attribute [local go_sem] max2_int min2_int max_two min_two max_three min_three max_four min_four   -- for this text's walks alone
set_option linter.unusedVariables false
set_option linter.unusedSimpArgs false
open List renaming setIfInBounds_toArray → xA, set_cons_zero → xB, set_cons_succ → xC
open Go.Proofs.YtpcipmhblknokaaW.PrintWords renaming blk_drewN → bN, blk_drew → bD, blk_alloc → bA, below_set → bS, blk_frozen → bF, blk_cell → bC, cell_far → cF, blk_far → bZ, blk_below → bB, pw_below_drewN → bwN, below_drew1 → bw1, below_alloc → bwA
open Go.Proofs.YtpcipmhblknokaaW.PrintZ
open Bool renaming true → T,false → F


set_option maxRecDepth 100000
set_option maxHeartbeats 8000000
theorem below_up {a b c : World} (h : Below a.heap.size a b) (k : Below b.heap.size b c) : Below a.heap.size a c := h.trans (k.mono h.size)
/-- What a call tells of a list: its row is the one that was handed in, or new. -/
structure Got (w0 w w' : World) (v v' : Value) (m' : List S27) : Prop where
  row : Kd.R k27 27 w' w0.heap.size (fun _ => True) v' m'
  kept : Kept w w' (fun k => v.ownBlock = some k)
  own : ∀ k, v'.ownBlock = some k → v.ownBlock = some k ∨ w.heap.size ≤ k
  below : Below w0.heap.size w0 w'
section
variable {w0 w : World} {v : Value} {m : List S27}
theorem drawn_below {w w' : World} (h : Drawn0 w w') : Below w.heap.size w w' := by
  obtain ⟨n, rfl⟩ := h
  exact bwN (Below.refl _ _) n
theorem Got.same {w' : World} (hB : Below w0.heap.size w0 w) (hR : Kd.R k27 27 w w0.heap.size (fun _ => True) v m) (hb : Below w.heap.size w w') : Got w0 w w' v v m :=
  ⟨Kd.R_below hR hb, Kept.of_below hb _, fun k hk => .inl hk, below_up hB hb⟩
theorem Got.fresh {w1 w' : World} {v' : Value} {m' : List S27} (hB : Below w0.heap.size w0 w) (hb : Below w.heap.size w w1) (hR : Kd.R k27 27 w' w1.heap.size (fun _ => True) v' m') (hb2 : Below w1.heap.size w1 w') : Got w0 w w' v v' m' :=
  ⟨Kd.R_lower hR (Nat.le_trans hB.size hb.size), Kept.of_below (below_up hb hb2) _, fun k hk => .inr (Nat.le_trans hb.size (own_base (R27.1 hR).2 k hk)), below_up (below_up hB hb) hb2⟩
theorem Got.after {w1 w' : World} {v' : Value} {m' : List S27} (h : Got w0 w1 w' v v' m') (hb : Below w.heap.size w w1) : Got w0 w w' v v' m' :=
  ⟨h.row, (Kept.of_below hb _).then_ h.kept (fun k hk => .inl hk), fun k hk => (h.own k hk).imp id (Nat.le_trans hb.size), h.below⟩
theorem Got.st4 {w' : World} {v' : Value} {m' : List S27} {G : Nat} (h : Got w0 w w' v v' m') (hB : w0.heap.size ≤ w.heap.size) (hG : w.heap.size ≤ G) (hv : some G ≠ v'.ownBlock) (a b c d : Value) :
    Got w0 w ((((w'.setCell ⟨G, 0, none⟩ a).setCell ⟨G, 1, none⟩ b).setCell ⟨G, 2, none⟩ c).setCell ⟨G, 3, none⟩ d) v v' m' :=
  ⟨R_st4 h.row hv a b c d, (((h.kept.setCell (.inr hG) a).setCell (.inr hG) b).setCell (.inr hG) c).setCell (.inr hG) d, h.own, bS (bS (bS (bS h.below (Nat.le_trans hB hG)) (Nat.le_trans hB hG)) (Nat.le_trans hB hG)) (Nat.le_trans hB hG)⟩
/-- A block that is younger than the row and elder than the call is not what the call tells. -/
theorem Got.ne {w1 w' : World} {v' : Value} {m' : List S27} {G : Nat} {o : Obj} (h : Got w0 w1 w' v v' m') (hR : Kd.R k27 27 w w0.heap.size (fun _ => True) v m) (hG : w.heap.size ≤ G) (hK : w1.heap[G]? = some o) : some G ≠ v'.ownBlock ∧ w'.heap[G]? = some o := by
  have h1 := own_lt (R27.1 hR).2
  have h2 := blk_lt hK
  refine ⟨fun e => ?_, (h.kept.2 G h2 (fun e => by have := h1 G e; omega)).trans hK⟩
  rcases h.own G e.symm with h3 | h3
  · have := h1 G h3; omega
  · omega
theorem own_ne_of {G : Nat} (hR : Kd.R k27 27 w w0.heap.size (fun _ => True) v m) (hG : w.heap.size ≤ G) : some G ≠ v.ownBlock := fun e => by
  have := own_lt (R27.1 hR).2 G e.symm
  omega
theorem fresh_ne {w1 w' : World} {v' : Value} {m' : List S27} {G : Nat} {o : Obj} (hR : Kd.R k27 27 w' w1.heap.size (fun _ => True) v' m') (hK : w1.heap[G]? = some o) : some G ≠ v'.ownBlock := fun e => by
  have := own_base (R27.1 hR).2 G e.symm
  have := blk_lt hK
  omega
theorem rtake_calls {i x : Int} {m' : List S27} {y : S27} (hB : Below w0.heap.size w0 w) (hR : Kd.R k27 27 w w0.heap.size (fun _ => True) v m) (hl : m.length ≤ 65536) (hr : takeR m i = (m', y, x)) :
    Calls Try.prog 27 #[v, .int .i64 i] w fun e w' => ∃ v', e = .returned (.tuple #[v', gV y, .int .i64 x]) ∧ Got w0 w w' v v' m' := by
  have hf := rtake_f hl i
  rw [hr] at hf
  have hR2 : Kd.R k27 27 w w0.heap.size (fun k => v.ownBlock = some k) v m := R27.2 ⟨fun k hk => hk, (R27.1 hR).2⟩
  exact (beaconref11_Take.calls (m.length + 2) _ v m i m' y.f0 y.f1 y.f2 y.f3 x w0 w hB hR2 hf).mono fun e w' ⟨v', he, h1, h2, h3⟩ =>
    ⟨v', he, R27.2 ⟨fun _ _ => trivial, (R27.1 h1).2⟩, h3, fun k hk => (R27.1 h1).1 k hk, h2⟩
theorem rput_calls {x : S27} (hB : Below w0.heap.size w0 w) (hR : Kd.R k27 27 w w0.heap.size (fun _ => True) v m) (hl : m.length ≤ 65536) :
    Calls Try.prog 26 #[v, gV x] w fun e w' => ∃ v', e = .returned (.tuple #[v', .int .i64 (putE m x)]) ∧ Got w0 w w' v v' (putM m x) := by
  have hR2 : Kd.R k27 27 w w0.heap.size (fun k => v.ownBlock = some k) v m := R27.2 ⟨fun k hk => hk, (R27.1 hR).2⟩
  exact (beaconref11_Put.calls (m.length + 1) _ v m x.f0 x.f1 x.f2 x.f3 (putM m x) (putE m x) w0 w hB hR2 (rput_f hl x)).mono fun e w' ⟨v', he, h1, h2, h3⟩ =>
    ⟨v', he, R27.2 ⟨fun _ _ => trivial, (R27.1 h1).2⟩, h3, fun k hk => (R27.1 h1).1 k hk, h2⟩
theorem rdo_take {i k : Int} {x : Int} {m' : List S27} {y : S27} (hr : takeR m i = (m', y, x)) (hB : Below w0.heap.size w0 w) (hR : Kd.R k27 27 w w0.heap.size (fun _ => True) v m) (hG : Good m) : Calls Try.prog 28 #[v, .agg #[.int .i64 1, .int .i64 i, .int .i64 k]] w fun e w' => ∃ v', e = .returned (.tuple #[v', gV y, .int .i64 x]) ∧ Got w0 w w' v v' m' := by
  obtain ⟨A, c, rfl, hc, hC⟩ := Kd.R_reads hR
  have hl := hG.len
  have hl63 := hC.2.1
  have HB := zA (Below.refl w.heap.size w)
  have HR := zA hR
  have HB0 := zA hB
  have HG := zA hG
  have hu27 := Try.underlying27
  have hu29 := Try.underlying29
  clear hR hB hG
  have HT := zA hr
  clear hr
  by_cases hi0 : 0 ≤ i
  · have hb0 : decide (0 ≤ i) = true := decide_eq_true hi0
    clear hi0
    go_enter Try.func28, Try.ntmps28
    go_wp2_with (first | ((with_reducible refine gate_dst (N := 3) rfl ?_); refine zb (N := 3) (cs := #[.int .i64 1, .int .i64 i, .int .i64 k]) (t := 29) ?_; intro G3 hg w3 hbox hb; have K3 := zA hbox; have GW3 := zN HB hg; replace HB := zS HB hb; clear hb hbox hg; obtain ⟨h0, h1, h2, _, _, _⟩ := zc3 K3) | ((with_reducible refine gate_dst (N := 5) rfl ?_); refine zb (N := 5) (cs := #[.int .i64 0, .int .i64 0, .string ⟨#[]⟩, .int .i64 0]) (t := 27) ?_; intro G5 hg w5 hbox hb; have K5 := zA hbox; have GW5 := zN HB hg; replace K3 := zB K3 hb; replace HB := zS HB hb; clear hb hbox hg; obtain ⟨h0, h1, h2, _, _, _⟩ := zc3 K3; obtain ⟨_, _, _, _, _, _, _, _⟩ := zc4 K5) | ((with_reducible refine gate_callee (f := 16) rfl ?_); refine zg (some 20) Try.func16 #[.slice A m.length c] ?_; (with_reducible refine (copy_calls (Kd.C_below hC HB.out) hc (by omega)).mono ?_); rintro e w6 ⟨vo, rfl, ho, hb⟩; refine ⟨_, rfl, ?_⟩; have HO := zA ho; have GO := zA (fresh_ne ho K5.out); replace K3 := zB K3 hb; replace K5 := zB K5 hb; replace HB := zS HB hb; clear hb ho; obtain ⟨A2, c2, rfl⟩ := Kd.R_slice HO.out; obtain ⟨h0, h1, h2, _, _, _⟩ := zc3 K3; obtain ⟨_, _, _, _, _, _, _, _⟩ := zc4 K5) | ((with_reducible refine gate_callee (f := 27) rfl ?_); refine zg (some 30) Try.func27 #[.slice A m.length c, .int .i64 i] ?_; (with_reducible refine (rtake_calls (below_up HB0.out HB.out) (Kd.R_below HR.out HB.out) hl HT.out).mono ?_); rintro e w7 ⟨v', rfl, hGo⟩; refine ⟨_, rfl, ?_⟩; have HX := zA (hGo.after HB.out); have NE := zA (hGo.ne HR.out GW5.out K5.out); obtain ⟨A7, c7, rfl⟩ := Kd.R_slice hGo.row; replace K5 := zA NE.out.2; clear hGo; obtain ⟨_, _, _, _, _, _, _, _⟩ := zc4 K5))
    refine bodyPost_ret (results_list (rs := [.tmp 4, .cell 5 27, .tmp 6]) rfl (by simp) (.tmp (.cell G5 27 #[.int .i64 y.f0, .int .i64 y.f1, .string y.f2, .int .i64 y.f3] (0, 0) _ rfl (zF K5) Try.underlying27 rfl (by kernel_rfl) (.tmp .nil)))) rfl ?_
    exact ⟨_, rfl, HX.out.st4 HB0.out.size GW5.out NE.out.1 _ _ _ _⟩
  · have hb0 : decide (0 ≤ i) = false := decide_eq_false hi0
    clear hi0
    go_enter Try.func28, Try.ntmps28
    go_wp2_with (first | ((with_reducible refine gate_dst (N := 3) rfl ?_); refine zb (N := 3) (cs := #[.int .i64 1, .int .i64 i, .int .i64 k]) (t := 29) ?_; intro G3 hg w3 hbox hb; have K3 := zA hbox; have GW3 := zN HB hg; replace HB := zS HB hb; clear hb hbox hg; obtain ⟨h0, h1, h2, _, _, _⟩ := zc3 K3) | ((with_reducible refine gate_dst (N := 5) rfl ?_); refine zb (N := 5) (cs := #[.int .i64 0, .int .i64 0, .string ⟨#[]⟩, .int .i64 0]) (t := 27) ?_; intro G5 hg w5 hbox hb; have K5 := zA hbox; have GW5 := zN HB hg; replace K3 := zB K3 hb; replace HB := zS HB hb; clear hb hbox hg; obtain ⟨h0, h1, h2, _, _, _⟩ := zc3 K3; obtain ⟨_, _, _, _, _, _, _, _⟩ := zc4 K5) | ((with_reducible refine gate_callee (f := 16) rfl ?_); refine zg (some 20) Try.func16 #[.slice A m.length c] ?_; (with_reducible refine (copy_calls (Kd.C_below hC HB.out) hc (by omega)).mono ?_); rintro e w6 ⟨vo, rfl, ho, hb⟩; refine ⟨_, rfl, ?_⟩; have HO := zA ho; have GO := zA (fresh_ne ho K5.out); replace K3 := zB K3 hb; replace K5 := zB K5 hb; replace HB := zS HB hb; clear hb ho; obtain ⟨A2, c2, rfl⟩ := Kd.R_slice HO.out; obtain ⟨h0, h1, h2, _, _, _⟩ := zc3 K3; obtain ⟨_, _, _, _, _, _, _, _⟩ := zc4 K5) | ((with_reducible refine gate_callee (f := 27) rfl ?_); refine zg (some 30) Try.func27 #[.slice A m.length c, .int .i64 i] ?_; (with_reducible refine (rtake_calls (below_up HB0.out HB.out) (Kd.R_below HR.out HB.out) hl HT.out).mono ?_); rintro e w7 ⟨v', rfl, hGo⟩; refine ⟨_, rfl, ?_⟩; have HX := zA (hGo.after HB.out); have NE := zA (hGo.ne HR.out GW5.out K5.out); obtain ⟨A7, c7, rfl⟩ := Kd.R_slice hGo.row; replace K5 := zA NE.out.2; clear hGo; obtain ⟨_, _, _, _, _, _, _, _⟩ := zc4 K5))
    refine bodyPost_ret (results_list (rs := [.tmp 4, .cell 5 27, .tmp 6]) rfl (by simp) (.tmp (.cell G5 27 #[.int .i64 y.f0, .int .i64 y.f1, .string y.f2, .int .i64 y.f3] (0, 0) _ rfl (zF K5) Try.underlying27 rfl (by kernel_rfl) (.tmp .nil)))) rfl ?_
    exact ⟨_, rfl, HX.out.st4 HB0.out.size GW5.out NE.out.1 _ _ _ _⟩
theorem rdo_tick {i k : Int} (hB : Below w0.heap.size w0 w) (hR : Kd.R k27 27 w w0.heap.size (fun _ => True) v m) (hG : Good m) : Calls Try.prog 28 #[v, .agg #[.int .i64 6, .int .i64 i, .int .i64 k]] w fun e w' => ∃ v', e = .returned (.tuple #[v', gV z27, .int .i64 0]) ∧ Got w0 w w' v v' (m.map tk) := by
  obtain ⟨A, c, rfl, hc, hC⟩ := Kd.R_reads hR
  have hl := hG.len
  have hl63 := hC.2.1
  have HB := zA (Below.refl w.heap.size w)
  have HR := zA hR
  have HB0 := zA hB
  have HG := zA hG
  have hu27 := Try.underlying27
  have hu29 := Try.underlying29
  clear hR hB hG
  by_cases hi0 : 0 ≤ i
  · have hb0 : decide (0 ≤ i) = true := decide_eq_true hi0
    clear hi0
    go_enter Try.func28, Try.ntmps28
    go_wp2_with (first | ((with_reducible refine gate_dst (N := 3) rfl ?_); refine zb (N := 3) (cs := #[.int .i64 6, .int .i64 i, .int .i64 k]) (t := 29) ?_; intro G3 hg w3 hbox hb; have K3 := zA hbox; have GW3 := zN HB hg; replace HB := zS HB hb; clear hb hbox hg; obtain ⟨h0, h1, h2, _, _, _⟩ := zc3 K3) | ((with_reducible refine gate_dst (N := 5) rfl ?_); refine zb (N := 5) (cs := #[.int .i64 0, .int .i64 0, .string ⟨#[]⟩, .int .i64 0]) (t := 27) ?_; intro G5 hg w5 hbox hb; have K5 := zA hbox; have GW5 := zN HB hg; replace K3 := zB K3 hb; replace HB := zS HB hb; clear hb hbox hg; obtain ⟨h0, h1, h2, _, _, _⟩ := zc3 K3; obtain ⟨_, _, _, _, _, _, _, _⟩ := zc4 K5) | ((with_reducible refine gate_callee (f := 16) rfl ?_); refine zg (some 20) Try.func16 #[.slice A m.length c] ?_; (with_reducible refine (copy_calls (Kd.C_below hC HB.out) hc (by omega)).mono ?_); rintro e w6 ⟨vo, rfl, ho, hb⟩; refine ⟨_, rfl, ?_⟩; have HO := zA ho; have GO := zA (fresh_ne ho K5.out); replace K3 := zB K3 hb; replace K5 := zB K5 hb; replace HB := zS HB hb; clear hb ho; obtain ⟨A2, c2, rfl⟩ := Kd.R_slice HO.out; obtain ⟨h0, h1, h2, _, _, _⟩ := zc3 K3; obtain ⟨_, _, _, _, _, _, _, _⟩ := zc4 K5) | ((with_reducible refine gate_callee (f := 40) rfl ?_); refine zg (some 37) Try.func40 #[.slice A m.length c] ?_; (with_reducible refine (beaconref11_tick.calls (m.length + 1) A c m _ _ (Kd.C_below hC HB.out) hc (rtick_f HG.out)).mono ?_); rintro e w7 ⟨v', rfl, ho, hb⟩; refine ⟨_, rfl, ?_⟩; have HX := zA (Got.fresh (v := .slice A m.length c) HB0.out HB.out ho hb); have NE := zA (fresh_ne ho K5.out); obtain ⟨A7, c7, rfl⟩ := Kd.R_slice ho; rw [List.length_map] at HX NE; replace K5 := zB K5 hb; clear ho hb; obtain ⟨_, _, _, _, _, _, _, _⟩ := zc4 K5))
    refine bodyPost_ret (results_list (rs := [.tmp 4, .cell 5 27, .tmp 6]) rfl (by simp) (.tmp (.cell G5 27 #[.int .i64 0, .int .i64 0, .string ⟨#[]⟩, .int .i64 0] (0, 0) _ rfl (zF K5) Try.underlying27 rfl (by kernel_rfl) (.tmp .nil)))) rfl ?_
    exact ⟨_, rfl, HX.out.st4 HB0.out.size GW5.out NE.out (.int .i64 0) (.int .i64 0) (.string ⟨#[]⟩) (.int .i64 0)⟩
  · have hb0 : decide (0 ≤ i) = false := decide_eq_false hi0
    clear hi0
    go_enter Try.func28, Try.ntmps28
    go_wp2_with (first | ((with_reducible refine gate_dst (N := 3) rfl ?_); refine zb (N := 3) (cs := #[.int .i64 6, .int .i64 i, .int .i64 k]) (t := 29) ?_; intro G3 hg w3 hbox hb; have K3 := zA hbox; have GW3 := zN HB hg; replace HB := zS HB hb; clear hb hbox hg; obtain ⟨h0, h1, h2, _, _, _⟩ := zc3 K3) | ((with_reducible refine gate_dst (N := 5) rfl ?_); refine zb (N := 5) (cs := #[.int .i64 0, .int .i64 0, .string ⟨#[]⟩, .int .i64 0]) (t := 27) ?_; intro G5 hg w5 hbox hb; have K5 := zA hbox; have GW5 := zN HB hg; replace K3 := zB K3 hb; replace HB := zS HB hb; clear hb hbox hg; obtain ⟨h0, h1, h2, _, _, _⟩ := zc3 K3; obtain ⟨_, _, _, _, _, _, _, _⟩ := zc4 K5) | ((with_reducible refine gate_callee (f := 16) rfl ?_); refine zg (some 20) Try.func16 #[.slice A m.length c] ?_; (with_reducible refine (copy_calls (Kd.C_below hC HB.out) hc (by omega)).mono ?_); rintro e w6 ⟨vo, rfl, ho, hb⟩; refine ⟨_, rfl, ?_⟩; have HO := zA ho; have GO := zA (fresh_ne ho K5.out); replace K3 := zB K3 hb; replace K5 := zB K5 hb; replace HB := zS HB hb; clear hb ho; obtain ⟨A2, c2, rfl⟩ := Kd.R_slice HO.out; obtain ⟨h0, h1, h2, _, _, _⟩ := zc3 K3; obtain ⟨_, _, _, _, _, _, _, _⟩ := zc4 K5) | ((with_reducible refine gate_callee (f := 40) rfl ?_); refine zg (some 37) Try.func40 #[.slice A m.length c] ?_; (with_reducible refine (beaconref11_tick.calls (m.length + 1) A c m _ _ (Kd.C_below hC HB.out) hc (rtick_f HG.out)).mono ?_); rintro e w7 ⟨v', rfl, ho, hb⟩; refine ⟨_, rfl, ?_⟩; have HX := zA (Got.fresh (v := .slice A m.length c) HB0.out HB.out ho hb); have NE := zA (fresh_ne ho K5.out); obtain ⟨A7, c7, rfl⟩ := Kd.R_slice ho; rw [List.length_map] at HX NE; replace K5 := zB K5 hb; clear ho hb; obtain ⟨_, _, _, _, _, _, _, _⟩ := zc4 K5))
    refine bodyPost_ret (results_list (rs := [.tmp 4, .cell 5 27, .tmp 6]) rfl (by simp) (.tmp (.cell G5 27 #[.int .i64 0, .int .i64 0, .string ⟨#[]⟩, .int .i64 0] (0, 0) _ rfl (zF K5) Try.underlying27 rfl (by kernel_rfl) (.tmp .nil)))) rfl ?_
    exact ⟨_, rfl, HX.out.st4 HB0.out.size GW5.out NE.out (.int .i64 0) (.int .i64 0) (.string ⟨#[]⟩) (.int .i64 0)⟩
theorem rdo_other {i k : Int} {q : Int} (hq : q ≠ 1 ∧ q ≠ 2 ∧ q ≠ 3 ∧ q ≠ 4 ∧ q ≠ 5 ∧ q ≠ 6 ∧ q ≠ 7) (hB : Below w0.heap.size w0 w) (hR : Kd.R k27 27 w w0.heap.size (fun _ => True) v m) (hG : Good m) : Calls Try.prog 28 #[v, .agg #[.int .i64 q, .int .i64 i, .int .i64 k]] w fun e w' => ∃ v', e = .returned (.tuple #[v', gV z27, .int .i64 1]) ∧ Got w0 w w' v v' m := by
  obtain ⟨A, c, rfl, hc, hC⟩ := Kd.R_reads hR
  have hl := hG.len
  have hl63 := hC.2.1
  have HB := zA (Below.refl w.heap.size w)
  have HR := zA hR
  have HB0 := zA hB
  have HG := zA hG
  have hu27 := Try.underlying27
  have hu29 := Try.underlying29
  clear hR hB hG
  obtain ⟨n1, n2, n3, n4, n5, n6, n7⟩ := hq
  have t1 : (q == 1) = false := beq_eq_false_iff_ne.mpr n1
  clear n1
  have t2 : (q == 2) = false := beq_eq_false_iff_ne.mpr n2
  clear n2
  have t3 : (q == 3) = false := beq_eq_false_iff_ne.mpr n3
  clear n3
  have t4 : (q == 4) = false := beq_eq_false_iff_ne.mpr n4
  clear n4
  have t5 : (q == 5) = false := beq_eq_false_iff_ne.mpr n5
  clear n5
  have t6 : (q == 6) = false := beq_eq_false_iff_ne.mpr n6
  clear n6
  have t7 : (q == 7) = false := beq_eq_false_iff_ne.mpr n7
  clear n7
  by_cases hi0 : 0 ≤ i
  · have hb0 : decide (0 ≤ i) = true := decide_eq_true hi0
    clear hi0
    go_enter Try.func28, Try.ntmps28
    go_wp2_with (first | ((with_reducible refine gate_dst (N := 3) rfl ?_); refine zb (N := 3) (cs := #[.int .i64 q, .int .i64 i, .int .i64 k]) (t := 29) ?_; intro G3 hg w3 hbox hb; have K3 := zA hbox; have GW3 := zN HB hg; replace HB := zS HB hb; clear hb hbox hg; obtain ⟨h0, h1, h2, _, _, _⟩ := zc3 K3) | ((with_reducible refine gate_dst (N := 5) rfl ?_); refine zb (N := 5) (cs := #[.int .i64 0, .int .i64 0, .string ⟨#[]⟩, .int .i64 0]) (t := 27) ?_; intro G5 hg w5 hbox hb; have K5 := zA hbox; have GW5 := zN HB hg; replace K3 := zB K3 hb; replace HB := zS HB hb; clear hb hbox hg; obtain ⟨h0, h1, h2, _, _, _⟩ := zc3 K3; obtain ⟨_, _, _, _, _, _, _, _⟩ := zc4 K5) | ((with_reducible refine gate_callee (f := 16) rfl ?_); refine zg (some 20) Try.func16 #[.slice A m.length c] ?_; (with_reducible refine (copy_calls (Kd.C_below hC HB.out) hc (by omega)).mono ?_); rintro e w6 ⟨vo, rfl, ho, hb⟩; refine ⟨_, rfl, ?_⟩; have HO := zA ho; have GO := zA (fresh_ne ho K5.out); replace K3 := zB K3 hb; replace K5 := zB K5 hb; replace HB := zS HB hb; clear hb ho; obtain ⟨A2, c2, rfl⟩ := Kd.R_slice HO.out; obtain ⟨h0, h1, h2, _, _, _⟩ := zc3 K3; obtain ⟨_, _, _, _, _, _, _, _⟩ := zc4 K5))
    refine bodyPost_ret (results_list (rs := [.tmp 4, .cell 5 27, .tmp 6]) rfl (by simp) (.tmp (.cell G5 27 #[.int .i64 0, .int .i64 0, .string ⟨#[]⟩, .int .i64 0] (0, 0) _ rfl (zF K5) Try.underlying27 rfl (by kernel_rfl) (.tmp .nil)))) rfl ?_
    exact ⟨_, rfl, (Got.same HB0.out HR.out HB.out).st4 HB0.out.size GW5.out (own_ne_of HR.out GW5.out) (.int .i64 0) (.int .i64 0) (.string ⟨#[]⟩) (.int .i64 0)⟩
  · have hb0 : decide (0 ≤ i) = false := decide_eq_false hi0
    clear hi0
    go_enter Try.func28, Try.ntmps28
    go_wp2_with (first | ((with_reducible refine gate_dst (N := 3) rfl ?_); refine zb (N := 3) (cs := #[.int .i64 q, .int .i64 i, .int .i64 k]) (t := 29) ?_; intro G3 hg w3 hbox hb; have K3 := zA hbox; have GW3 := zN HB hg; replace HB := zS HB hb; clear hb hbox hg; obtain ⟨h0, h1, h2, _, _, _⟩ := zc3 K3) | ((with_reducible refine gate_dst (N := 5) rfl ?_); refine zb (N := 5) (cs := #[.int .i64 0, .int .i64 0, .string ⟨#[]⟩, .int .i64 0]) (t := 27) ?_; intro G5 hg w5 hbox hb; have K5 := zA hbox; have GW5 := zN HB hg; replace K3 := zB K3 hb; replace HB := zS HB hb; clear hb hbox hg; obtain ⟨h0, h1, h2, _, _, _⟩ := zc3 K3; obtain ⟨_, _, _, _, _, _, _, _⟩ := zc4 K5) | ((with_reducible refine gate_callee (f := 16) rfl ?_); refine zg (some 20) Try.func16 #[.slice A m.length c] ?_; (with_reducible refine (copy_calls (Kd.C_below hC HB.out) hc (by omega)).mono ?_); rintro e w6 ⟨vo, rfl, ho, hb⟩; refine ⟨_, rfl, ?_⟩; have HO := zA ho; have GO := zA (fresh_ne ho K5.out); replace K3 := zB K3 hb; replace K5 := zB K5 hb; replace HB := zS HB hb; clear hb ho; obtain ⟨A2, c2, rfl⟩ := Kd.R_slice HO.out; obtain ⟨h0, h1, h2, _, _, _⟩ := zc3 K3; obtain ⟨_, _, _, _, _, _, _, _⟩ := zc4 K5))
    refine bodyPost_ret (results_list (rs := [.tmp 4, .cell 5 27, .tmp 6]) rfl (by simp) (.tmp (.cell G5 27 #[.int .i64 0, .int .i64 0, .string ⟨#[]⟩, .int .i64 0] (0, 0) _ rfl (zF K5) Try.underlying27 rfl (by kernel_rfl) (.tmp .nil)))) rfl ?_
    exact ⟨_, rfl, (Got.same HB0.out HR.out HB.out).st4 HB0.out.size GW5.out (own_ne_of HR.out GW5.out) (.int .i64 0) (.int .i64 0) (.string ⟨#[]⟩) (.int .i64 0)⟩
theorem rdo2_none {i k : Int} (hi : inB m i = false) (hB : Below w0.heap.size w0 w) (hR : Kd.R k27 27 w w0.heap.size (fun _ => True) v m) (hG : Good m) : Calls Try.prog 28 #[v, .agg #[.int .i64 2, .int .i64 i, .int .i64 k]] w fun e w' => ∃ v', e = .returned (.tuple #[v', gV z27, .int .i64 4]) ∧ Got w0 w w' v v' m := by
  obtain ⟨A, c, rfl, hc, hC⟩ := Kd.R_reads hR
  have hl := hG.len
  have hl63 := hC.2.1
  have HB := zA (Below.refl w.heap.size w)
  have HR := zA hR
  have HB0 := zA hB
  have HG := zA hG
  have hu27 := Try.underlying27
  have hu29 := Try.underlying29
  clear hR hB hG
  unfold inB at hi
  by_cases hi0 : 0 ≤ i
  · have hb0 : decide (0 ≤ i) = true := decide_eq_true hi0
    have hb1 : decide (i < (m.length : Int)) = false := by rw [hb0] at hi; simpa using hi
    clear hi hi0
    go_enter Try.func28, Try.ntmps28
    go_wp2_with (first | ((with_reducible refine gate_dst (N := 3) rfl ?_); refine zb (N := 3) (cs := #[.int .i64 2, .int .i64 i, .int .i64 k]) (t := 29) ?_; intro G3 hg w3 hbox hb; have K3 := zA hbox; have GW3 := zN HB hg; replace HB := zS HB hb; clear hb hbox hg; obtain ⟨h0, h1, h2, _, _, _⟩ := zc3 K3) | ((with_reducible refine gate_dst (N := 5) rfl ?_); refine zb (N := 5) (cs := #[.int .i64 0, .int .i64 0, .string ⟨#[]⟩, .int .i64 0]) (t := 27) ?_; intro G5 hg w5 hbox hb; have K5 := zA hbox; have GW5 := zN HB hg; replace K3 := zB K3 hb; replace HB := zS HB hb; clear hb hbox hg; obtain ⟨h0, h1, h2, _, _, _⟩ := zc3 K3; obtain ⟨_, _, _, _, _, _, _, _⟩ := zc4 K5) | ((with_reducible refine gate_callee (f := 16) rfl ?_); refine zg (some 20) Try.func16 #[.slice A m.length c] ?_; (with_reducible refine (copy_calls (Kd.C_below hC HB.out) hc (by omega)).mono ?_); rintro e w6 ⟨vo, rfl, ho, hb⟩; refine ⟨_, rfl, ?_⟩; have HO := zA ho; have GO := zA (fresh_ne ho K5.out); replace K3 := zB K3 hb; replace K5 := zB K5 hb; replace HB := zS HB hb; clear hb ho; obtain ⟨A2, c2, rfl⟩ := Kd.R_slice HO.out; obtain ⟨h0, h1, h2, _, _, _⟩ := zc3 K3; obtain ⟨_, _, _, _, _, _, _, _⟩ := zc4 K5))
    refine bodyPost_ret (results_list (rs := [.tmp 4, .cell 5 27, .tmp 6]) rfl (by simp) (.tmp (.cell G5 27 #[.int .i64 0, .int .i64 0, .string ⟨#[]⟩, .int .i64 0] (0, 0) _ rfl (zF K5) Try.underlying27 rfl (by kernel_rfl) (.tmp .nil)))) rfl ?_
    exact ⟨_, rfl, (Got.same HB0.out HR.out HB.out).st4 HB0.out.size GW5.out (own_ne_of HR.out GW5.out) (.int .i64 0) (.int .i64 0) (.string ⟨#[]⟩) (.int .i64 0)⟩
  · have hb0 : decide (0 ≤ i) = false := decide_eq_false hi0
    clear hi hi0
    go_enter Try.func28, Try.ntmps28
    go_wp2_with (first | ((with_reducible refine gate_dst (N := 3) rfl ?_); refine zb (N := 3) (cs := #[.int .i64 2, .int .i64 i, .int .i64 k]) (t := 29) ?_; intro G3 hg w3 hbox hb; have K3 := zA hbox; have GW3 := zN HB hg; replace HB := zS HB hb; clear hb hbox hg; obtain ⟨h0, h1, h2, _, _, _⟩ := zc3 K3) | ((with_reducible refine gate_dst (N := 5) rfl ?_); refine zb (N := 5) (cs := #[.int .i64 0, .int .i64 0, .string ⟨#[]⟩, .int .i64 0]) (t := 27) ?_; intro G5 hg w5 hbox hb; have K5 := zA hbox; have GW5 := zN HB hg; replace K3 := zB K3 hb; replace HB := zS HB hb; clear hb hbox hg; obtain ⟨h0, h1, h2, _, _, _⟩ := zc3 K3; obtain ⟨_, _, _, _, _, _, _, _⟩ := zc4 K5) | ((with_reducible refine gate_callee (f := 16) rfl ?_); refine zg (some 20) Try.func16 #[.slice A m.length c] ?_; (with_reducible refine (copy_calls (Kd.C_below hC HB.out) hc (by omega)).mono ?_); rintro e w6 ⟨vo, rfl, ho, hb⟩; refine ⟨_, rfl, ?_⟩; have HO := zA ho; have GO := zA (fresh_ne ho K5.out); replace K3 := zB K3 hb; replace K5 := zB K5 hb; replace HB := zS HB hb; clear hb ho; obtain ⟨A2, c2, rfl⟩ := Kd.R_slice HO.out; obtain ⟨h0, h1, h2, _, _, _⟩ := zc3 K3; obtain ⟨_, _, _, _, _, _, _, _⟩ := zc4 K5))
    refine bodyPost_ret (results_list (rs := [.tmp 4, .cell 5 27, .tmp 6]) rfl (by simp) (.tmp (.cell G5 27 #[.int .i64 0, .int .i64 0, .string ⟨#[]⟩, .int .i64 0] (0, 0) _ rfl (zF K5) Try.underlying27 rfl (by kernel_rfl) (.tmp .nil)))) rfl ?_
    exact ⟨_, rfl, (Got.same HB0.out HR.out HB.out).st4 HB0.out.size GW5.out (own_ne_of HR.out GW5.out) (.int .i64 0) (.int .i64 0) (.string ⟨#[]⟩) (.int .i64 0)⟩
theorem rdo3_none {i k : Int} (hi : inB m i = false) (hB : Below w0.heap.size w0 w) (hR : Kd.R k27 27 w w0.heap.size (fun _ => True) v m) (hG : Good m) : Calls Try.prog 28 #[v, .agg #[.int .i64 3, .int .i64 i, .int .i64 k]] w fun e w' => ∃ v', e = .returned (.tuple #[v', gV z27, .int .i64 4]) ∧ Got w0 w w' v v' m := by
  obtain ⟨A, c, rfl, hc, hC⟩ := Kd.R_reads hR
  have hl := hG.len
  have hl63 := hC.2.1
  have HB := zA (Below.refl w.heap.size w)
  have HR := zA hR
  have HB0 := zA hB
  have HG := zA hG
  have hu27 := Try.underlying27
  have hu29 := Try.underlying29
  clear hR hB hG
  unfold inB at hi
  by_cases hi0 : 0 ≤ i
  · have hb0 : decide (0 ≤ i) = true := decide_eq_true hi0
    have hb1 : decide (i < (m.length : Int)) = false := by rw [hb0] at hi; simpa using hi
    clear hi hi0
    go_enter Try.func28, Try.ntmps28
    go_wp2_with (first | ((with_reducible refine gate_dst (N := 3) rfl ?_); refine zb (N := 3) (cs := #[.int .i64 3, .int .i64 i, .int .i64 k]) (t := 29) ?_; intro G3 hg w3 hbox hb; have K3 := zA hbox; have GW3 := zN HB hg; replace HB := zS HB hb; clear hb hbox hg; obtain ⟨h0, h1, h2, _, _, _⟩ := zc3 K3) | ((with_reducible refine gate_dst (N := 5) rfl ?_); refine zb (N := 5) (cs := #[.int .i64 0, .int .i64 0, .string ⟨#[]⟩, .int .i64 0]) (t := 27) ?_; intro G5 hg w5 hbox hb; have K5 := zA hbox; have GW5 := zN HB hg; replace K3 := zB K3 hb; replace HB := zS HB hb; clear hb hbox hg; obtain ⟨h0, h1, h2, _, _, _⟩ := zc3 K3; obtain ⟨_, _, _, _, _, _, _, _⟩ := zc4 K5) | ((with_reducible refine gate_callee (f := 16) rfl ?_); refine zg (some 20) Try.func16 #[.slice A m.length c] ?_; (with_reducible refine (copy_calls (Kd.C_below hC HB.out) hc (by omega)).mono ?_); rintro e w6 ⟨vo, rfl, ho, hb⟩; refine ⟨_, rfl, ?_⟩; have HO := zA ho; have GO := zA (fresh_ne ho K5.out); replace K3 := zB K3 hb; replace K5 := zB K5 hb; replace HB := zS HB hb; clear hb ho; obtain ⟨A2, c2, rfl⟩ := Kd.R_slice HO.out; obtain ⟨h0, h1, h2, _, _, _⟩ := zc3 K3; obtain ⟨_, _, _, _, _, _, _, _⟩ := zc4 K5))
    refine bodyPost_ret (results_list (rs := [.tmp 4, .cell 5 27, .tmp 6]) rfl (by simp) (.tmp (.cell G5 27 #[.int .i64 0, .int .i64 0, .string ⟨#[]⟩, .int .i64 0] (0, 0) _ rfl (zF K5) Try.underlying27 rfl (by kernel_rfl) (.tmp .nil)))) rfl ?_
    exact ⟨_, rfl, (Got.same HB0.out HR.out HB.out).st4 HB0.out.size GW5.out (own_ne_of HR.out GW5.out) (.int .i64 0) (.int .i64 0) (.string ⟨#[]⟩) (.int .i64 0)⟩
  · have hb0 : decide (0 ≤ i) = false := decide_eq_false hi0
    clear hi hi0
    go_enter Try.func28, Try.ntmps28
    go_wp2_with (first | ((with_reducible refine gate_dst (N := 3) rfl ?_); refine zb (N := 3) (cs := #[.int .i64 3, .int .i64 i, .int .i64 k]) (t := 29) ?_; intro G3 hg w3 hbox hb; have K3 := zA hbox; have GW3 := zN HB hg; replace HB := zS HB hb; clear hb hbox hg; obtain ⟨h0, h1, h2, _, _, _⟩ := zc3 K3) | ((with_reducible refine gate_dst (N := 5) rfl ?_); refine zb (N := 5) (cs := #[.int .i64 0, .int .i64 0, .string ⟨#[]⟩, .int .i64 0]) (t := 27) ?_; intro G5 hg w5 hbox hb; have K5 := zA hbox; have GW5 := zN HB hg; replace K3 := zB K3 hb; replace HB := zS HB hb; clear hb hbox hg; obtain ⟨h0, h1, h2, _, _, _⟩ := zc3 K3; obtain ⟨_, _, _, _, _, _, _, _⟩ := zc4 K5) | ((with_reducible refine gate_callee (f := 16) rfl ?_); refine zg (some 20) Try.func16 #[.slice A m.length c] ?_; (with_reducible refine (copy_calls (Kd.C_below hC HB.out) hc (by omega)).mono ?_); rintro e w6 ⟨vo, rfl, ho, hb⟩; refine ⟨_, rfl, ?_⟩; have HO := zA ho; have GO := zA (fresh_ne ho K5.out); replace K3 := zB K3 hb; replace K5 := zB K5 hb; replace HB := zS HB hb; clear hb ho; obtain ⟨A2, c2, rfl⟩ := Kd.R_slice HO.out; obtain ⟨h0, h1, h2, _, _, _⟩ := zc3 K3; obtain ⟨_, _, _, _, _, _, _, _⟩ := zc4 K5))
    refine bodyPost_ret (results_list (rs := [.tmp 4, .cell 5 27, .tmp 6]) rfl (by simp) (.tmp (.cell G5 27 #[.int .i64 0, .int .i64 0, .string ⟨#[]⟩, .int .i64 0] (0, 0) _ rfl (zF K5) Try.underlying27 rfl (by kernel_rfl) (.tmp .nil)))) rfl ?_
    exact ⟨_, rfl, (Got.same HB0.out HR.out HB.out).st4 HB0.out.size GW5.out (own_ne_of HR.out GW5.out) (.int .i64 0) (.int .i64 0) (.string ⟨#[]⟩) (.int .i64 0)⟩
theorem rdo4_none {i k : Int} (hi : inB m i = false) (hB : Below w0.heap.size w0 w) (hR : Kd.R k27 27 w w0.heap.size (fun _ => True) v m) (hG : Good m) : Calls Try.prog 28 #[v, .agg #[.int .i64 4, .int .i64 i, .int .i64 k]] w fun e w' => ∃ v', e = .returned (.tuple #[v', gV z27, .int .i64 4]) ∧ Got w0 w w' v v' m := by
  obtain ⟨A, c, rfl, hc, hC⟩ := Kd.R_reads hR
  have hl := hG.len
  have hl63 := hC.2.1
  have HB := zA (Below.refl w.heap.size w)
  have HR := zA hR
  have HB0 := zA hB
  have HG := zA hG
  have hu27 := Try.underlying27
  have hu29 := Try.underlying29
  clear hR hB hG
  unfold inB at hi
  by_cases hi0 : 0 ≤ i
  · have hb0 : decide (0 ≤ i) = true := decide_eq_true hi0
    have hb1 : decide (i < (m.length : Int)) = false := by rw [hb0] at hi; simpa using hi
    clear hi hi0
    go_enter Try.func28, Try.ntmps28
    go_wp2_with (first | ((with_reducible refine gate_dst (N := 3) rfl ?_); refine zb (N := 3) (cs := #[.int .i64 4, .int .i64 i, .int .i64 k]) (t := 29) ?_; intro G3 hg w3 hbox hb; have K3 := zA hbox; have GW3 := zN HB hg; replace HB := zS HB hb; clear hb hbox hg; obtain ⟨h0, h1, h2, _, _, _⟩ := zc3 K3) | ((with_reducible refine gate_dst (N := 5) rfl ?_); refine zb (N := 5) (cs := #[.int .i64 0, .int .i64 0, .string ⟨#[]⟩, .int .i64 0]) (t := 27) ?_; intro G5 hg w5 hbox hb; have K5 := zA hbox; have GW5 := zN HB hg; replace K3 := zB K3 hb; replace HB := zS HB hb; clear hb hbox hg; obtain ⟨h0, h1, h2, _, _, _⟩ := zc3 K3; obtain ⟨_, _, _, _, _, _, _, _⟩ := zc4 K5) | ((with_reducible refine gate_callee (f := 16) rfl ?_); refine zg (some 20) Try.func16 #[.slice A m.length c] ?_; (with_reducible refine (copy_calls (Kd.C_below hC HB.out) hc (by omega)).mono ?_); rintro e w6 ⟨vo, rfl, ho, hb⟩; refine ⟨_, rfl, ?_⟩; have HO := zA ho; have GO := zA (fresh_ne ho K5.out); replace K3 := zB K3 hb; replace K5 := zB K5 hb; replace HB := zS HB hb; clear hb ho; obtain ⟨A2, c2, rfl⟩ := Kd.R_slice HO.out; obtain ⟨h0, h1, h2, _, _, _⟩ := zc3 K3; obtain ⟨_, _, _, _, _, _, _, _⟩ := zc4 K5))
    refine bodyPost_ret (results_list (rs := [.tmp 4, .cell 5 27, .tmp 6]) rfl (by simp) (.tmp (.cell G5 27 #[.int .i64 0, .int .i64 0, .string ⟨#[]⟩, .int .i64 0] (0, 0) _ rfl (zF K5) Try.underlying27 rfl (by kernel_rfl) (.tmp .nil)))) rfl ?_
    exact ⟨_, rfl, (Got.same HB0.out HR.out HB.out).st4 HB0.out.size GW5.out (own_ne_of HR.out GW5.out) (.int .i64 0) (.int .i64 0) (.string ⟨#[]⟩) (.int .i64 0)⟩
  · have hb0 : decide (0 ≤ i) = false := decide_eq_false hi0
    clear hi hi0
    go_enter Try.func28, Try.ntmps28
    go_wp2_with (first | ((with_reducible refine gate_dst (N := 3) rfl ?_); refine zb (N := 3) (cs := #[.int .i64 4, .int .i64 i, .int .i64 k]) (t := 29) ?_; intro G3 hg w3 hbox hb; have K3 := zA hbox; have GW3 := zN HB hg; replace HB := zS HB hb; clear hb hbox hg; obtain ⟨h0, h1, h2, _, _, _⟩ := zc3 K3) | ((with_reducible refine gate_dst (N := 5) rfl ?_); refine zb (N := 5) (cs := #[.int .i64 0, .int .i64 0, .string ⟨#[]⟩, .int .i64 0]) (t := 27) ?_; intro G5 hg w5 hbox hb; have K5 := zA hbox; have GW5 := zN HB hg; replace K3 := zB K3 hb; replace HB := zS HB hb; clear hb hbox hg; obtain ⟨h0, h1, h2, _, _, _⟩ := zc3 K3; obtain ⟨_, _, _, _, _, _, _, _⟩ := zc4 K5) | ((with_reducible refine gate_callee (f := 16) rfl ?_); refine zg (some 20) Try.func16 #[.slice A m.length c] ?_; (with_reducible refine (copy_calls (Kd.C_below hC HB.out) hc (by omega)).mono ?_); rintro e w6 ⟨vo, rfl, ho, hb⟩; refine ⟨_, rfl, ?_⟩; have HO := zA ho; have GO := zA (fresh_ne ho K5.out); replace K3 := zB K3 hb; replace K5 := zB K5 hb; replace HB := zS HB hb; clear hb ho; obtain ⟨A2, c2, rfl⟩ := Kd.R_slice HO.out; obtain ⟨h0, h1, h2, _, _, _⟩ := zc3 K3; obtain ⟨_, _, _, _, _, _, _, _⟩ := zc4 K5))
    refine bodyPost_ret (results_list (rs := [.tmp 4, .cell 5 27, .tmp 6]) rfl (by simp) (.tmp (.cell G5 27 #[.int .i64 0, .int .i64 0, .string ⟨#[]⟩, .int .i64 0] (0, 0) _ rfl (zF K5) Try.underlying27 rfl (by kernel_rfl) (.tmp .nil)))) rfl ?_
    exact ⟨_, rfl, (Got.same HB0.out HR.out HB.out).st4 HB0.out.size GW5.out (own_ne_of HR.out GW5.out) (.int .i64 0) (.int .i64 0) (.string ⟨#[]⟩) (.int .i64 0)⟩
theorem rdo5_none {i k : Int} (hi : inB m i = false) (hB : Below w0.heap.size w0 w) (hR : Kd.R k27 27 w w0.heap.size (fun _ => True) v m) (hG : Good m) : Calls Try.prog 28 #[v, .agg #[.int .i64 5, .int .i64 i, .int .i64 k]] w fun e w' => ∃ v', e = .returned (.tuple #[v', gV z27, .int .i64 4]) ∧ Got w0 w w' v v' m := by
  obtain ⟨A, c, rfl, hc, hC⟩ := Kd.R_reads hR
  have hl := hG.len
  have hl63 := hC.2.1
  have HB := zA (Below.refl w.heap.size w)
  have HR := zA hR
  have HB0 := zA hB
  have HG := zA hG
  have hu27 := Try.underlying27
  have hu29 := Try.underlying29
  clear hR hB hG
  unfold inB at hi
  by_cases hi0 : 0 ≤ i
  · have hb0 : decide (0 ≤ i) = true := decide_eq_true hi0
    have hb1 : decide (i < (m.length : Int)) = false := by rw [hb0] at hi; simpa using hi
    clear hi hi0
    go_enter Try.func28, Try.ntmps28
    go_wp2_with (first | ((with_reducible refine gate_dst (N := 3) rfl ?_); refine zb (N := 3) (cs := #[.int .i64 5, .int .i64 i, .int .i64 k]) (t := 29) ?_; intro G3 hg w3 hbox hb; have K3 := zA hbox; have GW3 := zN HB hg; replace HB := zS HB hb; clear hb hbox hg; obtain ⟨h0, h1, h2, _, _, _⟩ := zc3 K3) | ((with_reducible refine gate_dst (N := 5) rfl ?_); refine zb (N := 5) (cs := #[.int .i64 0, .int .i64 0, .string ⟨#[]⟩, .int .i64 0]) (t := 27) ?_; intro G5 hg w5 hbox hb; have K5 := zA hbox; have GW5 := zN HB hg; replace K3 := zB K3 hb; replace HB := zS HB hb; clear hb hbox hg; obtain ⟨h0, h1, h2, _, _, _⟩ := zc3 K3; obtain ⟨_, _, _, _, _, _, _, _⟩ := zc4 K5) | ((with_reducible refine gate_callee (f := 16) rfl ?_); refine zg (some 20) Try.func16 #[.slice A m.length c] ?_; (with_reducible refine (copy_calls (Kd.C_below hC HB.out) hc (by omega)).mono ?_); rintro e w6 ⟨vo, rfl, ho, hb⟩; refine ⟨_, rfl, ?_⟩; have HO := zA ho; have GO := zA (fresh_ne ho K5.out); replace K3 := zB K3 hb; replace K5 := zB K5 hb; replace HB := zS HB hb; clear hb ho; obtain ⟨A2, c2, rfl⟩ := Kd.R_slice HO.out; obtain ⟨h0, h1, h2, _, _, _⟩ := zc3 K3; obtain ⟨_, _, _, _, _, _, _, _⟩ := zc4 K5))
    refine bodyPost_ret (results_list (rs := [.tmp 4, .cell 5 27, .tmp 6]) rfl (by simp) (.tmp (.cell G5 27 #[.int .i64 0, .int .i64 0, .string ⟨#[]⟩, .int .i64 0] (0, 0) _ rfl (zF K5) Try.underlying27 rfl (by kernel_rfl) (.tmp .nil)))) rfl ?_
    exact ⟨_, rfl, (Got.same HB0.out HR.out HB.out).st4 HB0.out.size GW5.out (own_ne_of HR.out GW5.out) (.int .i64 0) (.int .i64 0) (.string ⟨#[]⟩) (.int .i64 0)⟩
  · have hb0 : decide (0 ≤ i) = false := decide_eq_false hi0
    clear hi hi0
    go_enter Try.func28, Try.ntmps28
    go_wp2_with (first | ((with_reducible refine gate_dst (N := 3) rfl ?_); refine zb (N := 3) (cs := #[.int .i64 5, .int .i64 i, .int .i64 k]) (t := 29) ?_; intro G3 hg w3 hbox hb; have K3 := zA hbox; have GW3 := zN HB hg; replace HB := zS HB hb; clear hb hbox hg; obtain ⟨h0, h1, h2, _, _, _⟩ := zc3 K3) | ((with_reducible refine gate_dst (N := 5) rfl ?_); refine zb (N := 5) (cs := #[.int .i64 0, .int .i64 0, .string ⟨#[]⟩, .int .i64 0]) (t := 27) ?_; intro G5 hg w5 hbox hb; have K5 := zA hbox; have GW5 := zN HB hg; replace K3 := zB K3 hb; replace HB := zS HB hb; clear hb hbox hg; obtain ⟨h0, h1, h2, _, _, _⟩ := zc3 K3; obtain ⟨_, _, _, _, _, _, _, _⟩ := zc4 K5) | ((with_reducible refine gate_callee (f := 16) rfl ?_); refine zg (some 20) Try.func16 #[.slice A m.length c] ?_; (with_reducible refine (copy_calls (Kd.C_below hC HB.out) hc (by omega)).mono ?_); rintro e w6 ⟨vo, rfl, ho, hb⟩; refine ⟨_, rfl, ?_⟩; have HO := zA ho; have GO := zA (fresh_ne ho K5.out); replace K3 := zB K3 hb; replace K5 := zB K5 hb; replace HB := zS HB hb; clear hb ho; obtain ⟨A2, c2, rfl⟩ := Kd.R_slice HO.out; obtain ⟨h0, h1, h2, _, _, _⟩ := zc3 K3; obtain ⟨_, _, _, _, _, _, _, _⟩ := zc4 K5))
    refine bodyPost_ret (results_list (rs := [.tmp 4, .cell 5 27, .tmp 6]) rfl (by simp) (.tmp (.cell G5 27 #[.int .i64 0, .int .i64 0, .string ⟨#[]⟩, .int .i64 0] (0, 0) _ rfl (zF K5) Try.underlying27 rfl (by kernel_rfl) (.tmp .nil)))) rfl ?_
    exact ⟨_, rfl, (Got.same HB0.out HR.out HB.out).st4 HB0.out.size GW5.out (own_ne_of HR.out GW5.out) (.int .i64 0) (.int .i64 0) (.string ⟨#[]⟩) (.int .i64 0)⟩
end
end Go.Proofs.Ytpcipmhblknokaa.Ch
