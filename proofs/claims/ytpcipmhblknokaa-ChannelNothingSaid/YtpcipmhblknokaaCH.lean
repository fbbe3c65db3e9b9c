/- Ready, by hand. -/
import Derived.Test.YtpcipmhblknokaaCF
namespace Go.Proofs.Ytpcipmhblknokaa.Ch
open Go.RowKit Go.Proofs.Ytpcipmhblknokaa.XC Go.Proofs.YtpcipmhblknokaaW.PrintWords Go.Proofs.YtpcipmhblknokaaW.PrintLast Go.Proofs.YtpcipmhblknokaaW.PrintMore
attribute [local go_sem] max2_int min2_int max_two min_two max_three min_three max_four min_four   -- for this text's walks alone
set_option linter.unusedVariables false
set_option linter.unusedSimpArgs false
open List renaming setIfInBounds_toArray → xA, set_cons_zero → xB, set_cons_succ → xC
open Go.Proofs.YtpcipmhblknokaaW.PrintWords renaming blk_drewN → bN, blk_drew → bD, blk_alloc → bA, below_set → bS, blk_frozen → bF, blk_cell → bC, cell_far → cF, blk_far → bZ, blk_below → bB, pw_below_drewN → bwN, below_drew1 → bw1, below_alloc → bwA
open Go.Proofs.YtpcipmhblknokaaW.PrintZ
open Bool renaming true → T,false → F


def rdy (m : List S27) : Nat → List Int
  | 0 => []
  | n + 1 => if (rd_T27 m n).f3 = 0 then rdy m n ++ [(n : Int)] else rdy m n
theorem rdy_len (m : List S27) : ∀ n, (rdy m n).length ≤ n
  | 0 => Nat.le_refl _
  | n + 1 => by
    have := rdy_len m n
    unfold rdy
    split
    · rw [List.length_append]; simp; omega
    · omega
section
variable {w : World} {base g : Nat} {P : Nat → Prop} {u : Value} {m : List S27}
set_option maxHeartbeats 4000000 in
set_option maxRecDepth 100000 in
theorem ready_calls (F : Fl w base P g u m) (hl : m.length ≤ 65536) : Calls Try.prog 19 #[.pointer (some ⟨g, 0, none⟩)] w fun e w' => ∃ v, e = .returned v ∧ Kd.R (Kd.int .i64) 3 w' w.heap.size (fun _ => True) v (rdy m m.length) ∧ Below w.heap.size w w' := by
  obtain ⟨A, c, rfl, hc, hC⟩ := Kd.R_reads F.row
  have HB := zA (Below.refl w.heap.size w)
  have K1 := zA F.blk
  have hu27 := Try.underlying27
  go_enter Try.func19, Try.ntmps19
  go_wp2_with (first | ((with_reducible refine gate_callee (f := 22) rfl ?_); refine zg (some 7) Try.func22 #[.pointer (some ⟨g, 0, none⟩)] ?_; (with_reducible refine (is_calls K1.out).mono ?_); rintro e w4 ⟨rfl, hww⟩; replace hww := hww.symm; subst hww; refine ⟨_, rfl, ?_⟩; obtain ⟨_, _, _, _⟩ := zc2 K1))
  go_loopg [3, 14] (m.length + 1) (fun kq v3 v14 w' => ∃ n : Nat, v14 = .int .i64 n ∧ Aside0 (n ≤ m.length) ∧ Aside0 (kq + n = m.length + 1) ∧ Aside0 (Kd.R (Kd.int .i64) 3 w' w.heap.size (fun _ => True) v3 (rdy m n)) ∧ Aside0 (w'.heap[g]? = some (.cells #[.bool true, .slice A m.length c] 55 (0, 0))) ∧ Aside0 (Below w.heap.size w w'))
  case atStart => exact ⟨0, rfl, ⟨Nat.zero_le _⟩, ⟨by omega⟩, ⟨Kd.R_nil _ _ _ _ _⟩, ⟨z1 K1.1⟩, ⟨zH HB⟩⟩
  case round =>
    obtain ⟨n, rfl, HN, HQ, HO, K1, HB⟩ := hrel
    cases gk with
    | zero => exact absurd HQ.out (by have := HN.out; omega)
    | succ k1 =>
      by_cases c6 : n < m.length
      · have t1 : decide ((n : Int) < (m.length : Int)) = true := decide_eq_true (by omega)
        have q0 : (0 ≤ (n : Int)) = True := eq_true (by omega)
        have q1 : ((n : Int) < (m.length : Int)) = True := eq_true (by omega)
        obtain ⟨ad, ea, x0, x1, x2, x3⟩ := at_T27 hC n (by omega) (by omega)
        subst ea
        simp only [Int.toNat_natCast] at x0 x1 x2 x3
        replace x0 := zh HB x0; replace x1 := zh HB x1; replace x2 := zh HB x2; replace x3 := zh HB x3
        have hrl := rdy_len m n
        obtain ⟨_, _, _, _⟩ := zc2 K1
        obtain ⟨y, hy⟩ : ∃ y, y = rd_T27 m n := ⟨_, rfl⟩
        rw [← hy] at x0 x1 x2 x3
        by_cases c9 : y.f3 = 0
        · have c9b0 : ((y.f3) == 0) = true := beq_iff_eq.mpr c9
          have c9b1 : ((y.f3) != 0) = false := bne_eq_false_iff_eq.mpr c9
          have hr : rdy m (n + 1) = rdy m n ++ [(n : Int)] := if_pos (by rw [← hy]; exact c9)
          clear c9 hy
          go_wp2_with (first | ((with_reducible refine gate_dst (N := 5) rfl ?_); refine zb (N := 5) (cs := #[.int .i64 0, .int .i64 0, .string ⟨#[]⟩, .int .i64 0]) (t := 27) ?_; intro G5 hg w5 hbox hb; have NB1_5 := zL K1 hg; have NB5_1 := zG K1 hg; replace HO := zRb HO hb; replace K1 := zB K1 hb; have K5 := zA hbox; have GW5 := zN HB hg; replace HB := zS HB hb; clear hb hbox hg; obtain ⟨_, _, _, _, _, _, _, _⟩ := zc4 K5) | ((with_reducible refine gate_store (t := 27) (p := 5) rfl ?_); refine store_event (t := 27) (p := 5) (v := ?vo) (w1 := ((((w5.setCell ⟨G5, 0, none⟩ (.int .i64 y.f0)).setCell ⟨G5, 1, none⟩ (.int .i64 y.f1)).setCell ⟨G5, 2, none⟩ (.string y.f2)).setCell ⟨G5, 3, none⟩ (.int .i64 y.f3))) ?hg ?ho ?hn ?hr ?_; (case ho => rfl); (case hg => rfl); (case hn => rfl); (case hr => first|(go_simp;done)|(go_simp;rfl)); intro w8 hw; replace HO : Aside0 (Kd.R (Kd.int .i64) 3 w8 w.heap.size (fun _ => True) u3 (rdy m n)) := ⟨by rw [hw]; exact (zRf HO K5 (fun _ _ => trivial))⟩; replace K1 := zV hw K1; replace K5 := zVp hw (.cells #[.int .i64 y.f0, .int .i64 y.f1, .string y.f2, .int .i64 y.f3] 27 (0, 0)) K5; replace HB := zU hw HB; clear hw; obtain ⟨_, _, _, _, _, _, _, _⟩ := zc4 K5) | ((with_reducible refine gate_builtin (b := .append) (xs := #[.tmp 22, .tmp 24]) rfl ?_); at_builtin; refine Kd.R_append (Kd.int .i64) (w0 := w) w.heap.size rfl (.tmp 22) (.tmp 24) 52 3 (.int .i64 0) 8 rfl Try.underlying52 info3 rfl (by decide) (by omega) u3 (rdy m n) (n : Int) [.int .i64 n] (fun _ => True) (fun _ => False) rfl rfl ?aP (fun _ hk => hk.elim) ?aF ?aO ?aB ?aS ?aL ?_; (case aP => exact rfl); (case aB => exact (zH HB)); (case aF => exact (fun _ _ => trivial)); (case aO => exact HO.out); (case aS => exact (zW HB)); (case aL => have := hrl; omega); intro v257 w17 ho hb hg hat; replace K1 := zA (blk_grown K1.out hg (Kd.R_ne HO.out K1.out (by decide))); replace HB := zA hb; have HO2 := zA ho; clear HO; clear ho hb hg hat))
          go_roundg k1
          case measure => omega
          case rel => exact ⟨n + 1, by rw [Int.natCast_add]; rfl, ⟨c6⟩, ⟨by have := HQ.out; omega⟩, ⟨by rw [hr]; exact HO2.out⟩, ⟨K1.out⟩, ⟨HB.out⟩⟩
        · have c9b0 : ((y.f3) == 0) = false := beq_eq_false_iff_ne.mpr c9
          have c9b1 : ((y.f3) != 0) = true := bne_iff_ne.mpr c9
          have hr : rdy m (n + 1) = rdy m n := if_neg (by rw [← hy]; exact c9)
          clear c9 hy
          go_wp2_with (first | ((with_reducible refine gate_dst (N := 5) rfl ?_); refine zb (N := 5) (cs := #[.int .i64 0, .int .i64 0, .string ⟨#[]⟩, .int .i64 0]) (t := 27) ?_; intro G5 hg w5 hbox hb; have NB1_5 := zL K1 hg; have NB5_1 := zG K1 hg; replace HO := zRb HO hb; replace K1 := zB K1 hb; have K5 := zA hbox; have GW5 := zN HB hg; replace HB := zS HB hb; clear hb hbox hg; obtain ⟨_, _, _, _, _, _, _, _⟩ := zc4 K5) | ((with_reducible refine gate_store (t := 27) (p := 5) rfl ?_); refine store_event (t := 27) (p := 5) (v := ?vo) (w1 := ((((w5.setCell ⟨G5, 0, none⟩ (.int .i64 y.f0)).setCell ⟨G5, 1, none⟩ (.int .i64 y.f1)).setCell ⟨G5, 2, none⟩ (.string y.f2)).setCell ⟨G5, 3, none⟩ (.int .i64 y.f3))) ?hg ?ho ?hn ?hr ?_; (case ho => rfl); (case hg => rfl); (case hn => rfl); (case hr => first|(go_simp;done)|(go_simp;rfl)); intro w8 hw; replace HO : Aside0 (Kd.R (Kd.int .i64) 3 w8 w.heap.size (fun _ => True) u3 (rdy m n)) := ⟨by rw [hw]; exact (zRf HO K5 (fun _ _ => trivial))⟩; replace K1 := zV hw K1; replace K5 := zVp hw (.cells #[.int .i64 y.f0, .int .i64 y.f1, .string y.f2, .int .i64 y.f3] 27 (0, 0)) K5; replace HB := zU hw HB; clear hw; obtain ⟨_, _, _, _, _, _, _, _⟩ := zc4 K5))
          go_roundg k1
          case measure => omega
          case rel => exact ⟨n + 1, by rw [Int.natCast_add]; rfl, ⟨c6⟩, ⟨by have := HQ.out; omega⟩, ⟨by rw [hr]; exact HO.out⟩, ⟨K1.out⟩, ⟨HB.out⟩⟩
      · have t1 : decide ((n : Int) < (m.length : Int)) = false := decide_eq_false (by omega)
        have t2 : decide (n < m.length) = false := decide_eq_false c6
        have hnn : n = m.length := by have := HN.out; omega
        have HNN := zA hnn
        clear c6 hnn
        go_wp2
        go_ret
        exact ⟨_, rfl, by rw [← HNN.out]; exact HO.out, HB.out⟩
end
end Go.Proofs.Ytpcipmhblknokaa.Ch
