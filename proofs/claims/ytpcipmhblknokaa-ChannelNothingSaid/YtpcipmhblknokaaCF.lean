/- Take, by hand. -/
import Derived.Test.YtpcipmhblknokaaCE
namespace Go.Proofs.Ytpcipmhblknokaa.Ch
open Go.RowKit Go.Proofs.Ytpcipmhblknokaa.XC Go.Proofs.YtpcipmhblknokaaW.PrintWords Go.Proofs.YtpcipmhblknokaaW.PrintLast Go.Proofs.YtpcipmhblknokaaW.PrintMore
attribute [local go_sem] max2_int min2_int max_two min_two max_three min_three max_four min_four   -- for this text's walks alone
set_option linter.unusedVariables false
set_option linter.unusedSimpArgs false
open List renaming setIfInBounds_toArray → xA, set_cons_zero → xB, set_cons_succ → xC
open Go.Proofs.YtpcipmhblknokaaW.PrintWords renaming blk_drewN → bN, blk_drew → bD, blk_alloc → bA, below_set → bS, blk_frozen → bF, blk_cell → bC, cell_far → cF, blk_far → bZ, blk_below → bB, pw_below_drewN → bwN, below_drew1 → bw1, below_alloc → bwA
open Go.Proofs.YtpcipmhblknokaaW.PrintZ
open Bool renaming true → T,false → F

theorem R_st4 {W : World} {base G : Nat} {P : Nat → Prop} {u : Value} {m : List S27} (h : Kd.R k27 27 W base P u m) (hne : some G ≠ u.ownBlock) (a b c d : Value) : Kd.R k27 27 ((((W.setCell ⟨G, 0, none⟩ a).setCell ⟨G, 1, none⟩ b).setCell ⟨G, 2, none⟩ c).setCell ⟨G, 3, none⟩ d) base P u m := by
  obtain ⟨h0, ho⟩ := R27.1 h
  have hne' := fun e => hne (Eq.symm e)
  exact R27.2 ⟨h0, ownsRow_setCell_other (ownsRow_setCell_other (ownsRow_setCell_other (ownsRow_setCell_other ho hne' a) hne' b) hne' c) hne' d⟩
section
variable {w : World} {base g : Nat} {P : Nat → Prop} {u : Value} {m : List S27}
theorem del_calls_i {i : Int} {n : Nat} (hR : Kd.R k27 27 w base P u m) (hi : n < m.length) (hl : m.length ≤ 9223372036854775807) (hin : i = n) :
    Calls Try.prog 35 #[u, .int .i64 i, .int .i64 (wrap64 (i + 1))] w fun e w' => ∃ v, e = .returned v ∧ Kd.R k27 27 w' base P v (m.eraseIdx n) ∧ v.ownBlock = u.ownBlock ∧ w.grownBy w' u.ownBlock := by
  subst hin
  rw [show wrap64 ((n : Int) + 1) = ((n + 1 : Nat) : Int) by unfold wrap64; omega]
  exact del_calls hR hi rfl
theorem take_none {i : Int} (hi : (decide (0 ≤ i) && decide (i < (m.length : Int))) = false) (F : Fl w base P g u m) : Calls Try.prog 20 #[.pointer (some ⟨g, 0, none⟩), .int .i64 i] w fun e w' => e = .returned (.tuple #[.agg #[.int .i64 0, .int .i64 0, .string ⟨#[]⟩, .int .i64 0], .int .i64 4]) ∧ Below w.heap.size w w' := by
  obtain ⟨A, c, rfl, hc, hC⟩ := Kd.R_reads F.row
  have hl63 := hC.2.1
  have HB := zA (Below.refl w.heap.size w)
  have K1 := zA F.blk
  have HT := zA hi
  have hu27 := Try.underlying27
  clear hi
  go_enter Try.func20, Try.ntmps20
  go_wp2_with (first | ((with_reducible refine gate_dst (N := 4) rfl ?_); refine zb (N := 4) (cs := #[.int .i64 0, .int .i64 0, .string ⟨#[]⟩, .int .i64 0]) (t := 27) ?_; intro G4 hg w1 hbox hb; have K4 := zA hbox; have GW4 := zN HB hg; replace K1 := zB K1 hb; replace HB := zS HB hb; clear hb hbox hg; obtain ⟨_, _, _, _, _, _, _, _⟩ := zc4 K4; obtain ⟨_, _, _, _⟩ := zc2 K1) | ((with_reducible refine gate_callee (f := 22) rfl ?_); refine zg (some 9) Try.func22 #[.pointer (some ⟨g, 0, none⟩)] ?_; (with_reducible refine (is_calls K1.out).mono ?_); rintro e w4 ⟨rfl, rfl⟩; refine ⟨_, rfl, ?_⟩) | ((with_reducible refine gate_callee (f := 34) rfl ?_); refine zg (some 15) Try.func34 #[.pointer (some ⟨g, 0, none⟩), .int .i64 i] ?_; (with_reducible refine (there_calls K1.out hl63 i).mono ?_); rintro e w5 ⟨rfl, rfl⟩; refine ⟨_, rfl, ?_⟩; rw [HT.out]))
  refine bodyPost_ret (results_list (rs := [.cell 4 27, .tmp 5]) rfl (by simp) (.cell G4 27 #[.int .i64 0, .int .i64 0, .string ⟨#[]⟩, .int .i64 0] (0, 0) _ rfl (zF K4) Try.underlying27 rfl (by kernel_rfl) (.tmp .nil))) rfl ?_
  exact ⟨rfl, zH HB⟩
theorem take_wait {n : Nat} (hn : n < m.length) (hw : 0 < (rd_T27 m n).f3) (F : Fl w base P g u m) : Calls Try.prog 20 #[.pointer (some ⟨g, 0, none⟩), .int .i64 (n : Int)] w fun e w' => e = .returned (.tuple #[.agg #[.int .i64 0, .int .i64 0, .string ⟨#[]⟩, .int .i64 0], .int .i64 1]) ∧ Below w.heap.size w w' := by
  obtain ⟨A, c, rfl, hc, hC⟩ := Kd.R_reads F.row
  have hl63 := hC.2.1
  have HB := zA (Below.refl w.heap.size w)
  have K1 := zA F.blk
  have hi : (decide (0 ≤ (n : Int)) && decide ((n : Int) < (m.length : Int))) = true := by simp; omega
  have HT := zA hi
  have hu27 := Try.underlying27
  obtain ⟨ad, rfl, x0, x1, x2, x3⟩ := at_T27 hC n (by omega) (by omega)
  have t3 : decide (0 < (rd_T27 m n).f3) = true := decide_eq_true hw
  have q1 : ((n : Int) < (m.length : Int)) = True := eq_true (by omega)
  have q0 : (0 ≤ (n : Int)) = True := eq_true (by omega)
  obtain ⟨i, hin⟩ : ∃ i : Int, i = n := ⟨_, rfl⟩
  rw [← hin] at x0 x1 x2 x3 t3 q1 q0 ⊢
  rw [← hin] at HT
  clear hi hin hw hn
  go_enter Try.func20, Try.ntmps20
  go_wp2_with (first | ((with_reducible refine gate_dst (N := 4) rfl ?_); refine zb (N := 4) (cs := #[.int .i64 0, .int .i64 0, .string ⟨#[]⟩, .int .i64 0]) (t := 27) ?_; intro G4 hg w1 hbox hb; have K4 := zA hbox; have GW4 := zN HB hg; replace K1 := zB K1 hb; replace HB := zS HB hb; replace x0 := zh HB x0; replace x1 := zh HB x1; replace x2 := zh HB x2; replace x3 := zh HB x3; clear hb hbox hg; obtain ⟨_, _, _, _, _, _, _, _⟩ := zc4 K4; obtain ⟨_, _, _, _⟩ := zc2 K1) | ((with_reducible refine gate_callee (f := 22) rfl ?_); refine zg (some 9) Try.func22 #[.pointer (some ⟨g, 0, none⟩)] ?_; (with_reducible refine (is_calls K1.out).mono ?_); rintro e w4 ⟨rfl, rfl⟩; refine ⟨_, rfl, ?_⟩) | ((with_reducible refine gate_callee (f := 34) rfl ?_); refine zg (some 15) Try.func34 #[.pointer (some ⟨g, 0, none⟩), .int .i64 i] ?_; (with_reducible refine (there_calls K1.out hl63 i).mono ?_); rintro e w5 ⟨rfl, rfl⟩; refine ⟨_, rfl, ?_⟩; rw [HT.out]))
  refine bodyPost_ret (results_list (rs := [.cell 4 27, .tmp 5]) rfl (by simp) (.cell G4 27 #[.int .i64 0, .int .i64 0, .string ⟨#[]⟩, .int .i64 0] (0, 0) _ rfl (zF K4) Try.underlying27 rfl (by kernel_rfl) (.tmp .nil))) rfl ?_
  exact ⟨rfl, zH HB⟩
theorem Fr.setCell {W : World} {b : Option Nat} (h : Fr w W g b) {p : Addr} (hp : p.block = g ∨ w.heap.size ≤ p.block) (v : Value) : Fr w (W.setCell p v) g b :=
  ⟨h.os, h.tape, h.output, by simp only [World.setCell, Array.size_modify]; exact h.size, fun k hk hkg hkb => by
    rw [Below.heap_setCell W p v k (by omega)]
    exact h.block k hk hkg hkb⟩
theorem Fr.of_grown {W W1 : World} {b : Option Nat} (hb : Below w.heap.size w W) (h : W.grownBy W1 b) : Fr w W1 g b :=
  ⟨h.os.trans hb.os, h.tape.trans hb.tape, h.output.trans hb.output, Nat.le_trans hb.size h.size, fun k hk _ hkb => (h.block k (Nat.lt_of_lt_of_le hk hb.size) hkb).trans (hb.block k hk)⟩
theorem take_end {w8 w9 : World} {G : Nat} {v : Value} {m' : List S27} (F : Fl w base P g u m) (HB : Below w.heap.size w w8) (K1 : w9.heap[g]? = some (.cells #[.bool true, u] 55 (0, 0))) (HV : Kd.R k27 27 w9 base P v m') (HG : w8.grownBy w9 u.ownBlock) (hG : w.heap.size ≤ G) (hvb : v.ownBlock = u.ownBlock) (a b c d : Value) :
    Fl (((((w9.setCell ⟨g, 1, none⟩ v).setCell ⟨G, 0, none⟩ a).setCell ⟨G, 1, none⟩ b).setCell ⟨G, 2, none⟩ c).setCell ⟨G, 3, none⟩ d) base P g v m' ∧ Fr w (((((w9.setCell ⟨g, 1, none⟩ v).setCell ⟨G, 0, none⟩ a).setCell ⟨G, 1, none⟩ b).setCell ⟨G, 2, none⟩ c).setCell ⟨G, 3, none⟩ d) g u.ownBlock := by
  have hg1 := blk_lt F.blk
  have hs1 := HB.size
  have hs2 := HG.size
  have hgG : g ≠ G := by omega
  have hvg : some g ≠ v.ownBlock := by rw [hvb]; exact own_ne (R27.1 F.row).2 F.blk (by decide)
  have hvG : some G ≠ v.ownBlock := by
    rw [hvb]
    intro e
    have := own_lt (R27.1 F.row).2 _ e.symm
    omega
  refine ⟨⟨?_, R_st4 ?_ hvG a b c d⟩, ((((Fr.of_grown HB HG).setCell (.inl rfl) v).setCell (.inr hG) a).setCell (.inr hG) b |>.setCell (.inr hG) c).setCell (.inr hG) d⟩
  · exact blk_far (blk_far (blk_far (blk_far ((blk_set K1 1 v).trans rfl) hgG a) hgG b) hgG c) hgG d
  · exact R27.2 ⟨(R27.1 HV).1, ownsRow_setCell_other (R27.1 HV).2 (fun e => hvg e.symm) v⟩
theorem take_yes {n : Nat} (hn : n < m.length) (hw : ¬ 0 < (rd_T27 m n).f3) (F : Fl w base P g u m) : Calls Try.prog 20 #[.pointer (some ⟨g, 0, none⟩), .int .i64 (n : Int)] w fun e w' => ∃ u', e = .returned (.tuple #[.agg #[.int .i64 (rd_T27 m n).f0, .int .i64 (rd_T27 m n).f1, .string (rd_T27 m n).f2, .int .i64 (rd_T27 m n).f3], .int .i64 0]) ∧ Fl w' base P g u' (m.eraseIdx n) ∧ Fr w w' g u.ownBlock ∧ u'.ownBlock = u.ownBlock := by
  obtain ⟨A, c, rfl, hc, hC⟩ := Kd.R_reads F.row
  have hl63 := hC.2.1
  have HB := zA (Below.refl w.heap.size w)
  have K1 := zA F.blk
  have HR := zA F.row
  have hlt := zA (own_lt (R27.1 F.row).2)
  have hi : (decide (0 ≤ (n : Int)) && decide ((n : Int) < (m.length : Int))) = true := by simp; omega
  have HT := zA hi
  have hu27 := Try.underlying27
  obtain ⟨ad, rfl, x0, x1, x2, x3⟩ := at_T27 hC n (by omega) (by omega)
  have t3 : decide (0 < (rd_T27 m n).f3) = false := decide_eq_false hw
  have q1 : ((n : Int) < (m.length : Int)) = True := eq_true (by omega)
  have q0 : (0 ≤ (n : Int)) = True := eq_true (by omega)
  obtain ⟨y, hy⟩ : ∃ y, y = rd_T27 m n := ⟨_, rfl⟩
  rw [← hy] at x0 x1 x2 x3 t3 ⊢
  obtain ⟨i, hin⟩ : ∃ i : Int, i = n := ⟨_, rfl⟩
  rw [← hin] at x0 x1 x2 x3 q1 q0 ⊢
  rw [← hin] at HT
  have HN := zA hin
  have HNN := zA hn
  clear hi hin hw hn hy
  go_enter Try.func20, Try.ntmps20
  go_wp2_with (first | ((with_reducible refine gate_dst (N := 4) rfl ?_); refine zb (N := 4) (cs := #[.int .i64 0, .int .i64 0, .string ⟨#[]⟩, .int .i64 0]) (t := 27) ?_; intro G4 hg w1 hbox hb; have K4 := zA hbox; have GW4 := zN HB hg; replace K1 := zB K1 hb; replace HR := zA (Kd.R_below HR.out hb); replace HB := zS HB hb; replace x0 := zh HB x0; replace x1 := zh HB x1; replace x2 := zh HB x2; replace x3 := zh HB x3; clear hb hbox hg; obtain ⟨_, _, _, _, _, _, _, _⟩ := zc4 K4; obtain ⟨_, _, _, _⟩ := zc2 K1) | ((with_reducible refine gate_callee (f := 22) rfl ?_); refine zg (some 9) Try.func22 #[.pointer (some ⟨g, 0, none⟩)] ?_; (with_reducible refine (is_calls K1.out).mono ?_); rintro e w4 ⟨rfl, rfl⟩; refine ⟨_, rfl, ?_⟩) | ((with_reducible refine gate_callee (f := 34) rfl ?_); refine zg (some 15) Try.func34 #[.pointer (some ⟨g, 0, none⟩), .int .i64 i] ?_; (with_reducible refine (there_calls K1.out hl63 i).mono ?_); rintro e w5 ⟨rfl, rfl⟩; refine ⟨_, rfl, ?_⟩; rw [HT.out]) | ((with_reducible refine gate_dst (N := 6) rfl ?_); refine zb (N := 6) (cs := #[.int .i64 0, .int .i64 0, .string ⟨#[]⟩, .int .i64 0]) (t := 27) ?_; intro G6 hg w6 hbox hb; have K6 := zA hbox; have GW6 := zN HB hg; have NB4_6 := zL K4 hg; have NB6_4 := zG K4 hg; replace K1 := zB K1 hb; replace K4 := zB K4 hb; replace HR := zA (Kd.R_below HR.out hb); replace HB := zS HB hb; clear hb hbox hg; obtain ⟨_, _, _, _, _, _, _, _⟩ := zc4 K6) | ((with_reducible refine gate_store (t := 27) (p := 6) rfl ?_); refine store_event (t := 27) (p := 6) (v := ?vo) (w1 := ((((w6.setCell ⟨G6, 0, none⟩ (.int .i64 y.f0)).setCell ⟨G6, 1, none⟩ (.int .i64 y.f1)).setCell ⟨G6, 2, none⟩ (.string y.f2)).setCell ⟨G6, 3, none⟩ (.int .i64 y.f3))) ?hg ?ho ?hn ?hr ?_; (case ho => rfl); (case hg => rfl); (case hn => rfl); (case hr => first|(go_simp;done)|(go_simp;rfl)); intro w8 hw; have NG6 : Aside0 (g ≠ G6) := ⟨fun e => by have := blk_lt F.blk; have := GW6.out; omega⟩; replace HR : Aside0 (Kd.R k27 27 w8 base P (.slice (some ad) m.length c) m) := ⟨by rw [hw]; exact R_st4 HR.out (fun e => by have := hlt.out _ e.symm; have := GW6.out; omega) _ _ _ _⟩; replace K1 := zV hw K1; replace K4 := zV hw K4; replace K6 := zVp hw (.cells #[.int .i64 y.f0, .int .i64 y.f1, .string y.f2, .int .i64 y.f3] 27 (0, 0)) K6; replace HB := zU hw HB; clear hw; obtain ⟨_, _, _, _⟩ := zc2 K1) | ((with_reducible refine gate_callee (f := 35) rfl ?_); refine zg (some 44) Try.func35 #[.slice (some ad) m.length c, .int .i64 i, .int .i64 (wrap64 (i + 1))] ?_; (with_reducible refine (del_calls_i HR.out HNN.out hl63 HN.out).mono ?_); rintro e w9 ⟨v, rfl, hv, hvb, hgr⟩; refine ⟨_, rfl, ?_⟩; have hne1 := own_ne (R27.1 HR.out).2 K1.out (by decide); have hne4 : some G4 ≠ (Value.slice (some ad) m.length c).ownBlock := (fun e => by have := hlt.out _ e.symm; have := GW4.out; omega); have hne6 : some G6 ≠ (Value.slice (some ad) m.length c).ownBlock := (fun e => by have := hlt.out _ e.symm; have := GW6.out; omega); replace K1 := zA (blk_grown K1.out hgr hne1); replace K4 := zA (blk_grown K4.out hgr hne4); replace K6 := zA (blk_grown K6.out hgr hne6); obtain ⟨A2, c2, rfl⟩ := Kd.R_slice hv; have HV := zA hv; have HVB := zA hvb; have HG := zA hgr; have HNE := zA (And.intro hne1 (And.intro hne4 hne6)); clear hv hvb hgr hne1 hne4 hne6 HR; obtain ⟨_, _, _, _⟩ := zc2 K1; obtain ⟨_, _, _, _, _, _, _, _⟩ := zc4 K6; obtain ⟨_, _, _, _, _, _, _, _⟩ := zc4 K4; have NG6b := NG6.out; have NG4b : g ≠ G4 := (fun e => by have := blk_lt F.blk; have := GW4.out; omega); have n1 := Ne.symm NG6b; have n2 := Ne.symm NG4b; have n3 := NB4_6.out; have n4 := NB6_4.out))
  have NB4_g : Aside0 (G4 ≠ g) := ⟨n2⟩
  refine bodyPost_ret (results_list (rs := [.cell 4 27, .tmp 5]) rfl (by simp) (.cell G4 27 #[.int .i64 y.f0, .int .i64 y.f1, .string y.f2, .int .i64 y.f3] (0, 0) _ rfl (zF K4) Try.underlying27 rfl (by kernel_rfl) (.tmp .nil))) rfl ?_
  obtain ⟨e1, e2⟩ := take_end F HB.out K1.out HV.out HG.out GW4.out HVB.out (.int .i64 y.f0) (.int .i64 y.f1) (.string y.f2) (.int .i64 y.f3)
  exact ⟨_, rfl, e1, e2, HVB.out⟩
end
end Go.Proofs.Ytpcipmhblknokaa.Ch
