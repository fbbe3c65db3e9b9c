/- GaugeKeeps: whatever samples a gauge is fed, it stays in bounds, and its cost is a weight. -/
import Derived.Test.YtajejidnidomgaaSGaugeKeeps
import Derived.Test.YtajejidnidomgaaGK
namespace Go.Proofs.Ytajejidnidomgaa.Pure
open Go.RowKit Go.Proofs.YtajejidnidomgaaW.PrintWords Go.Proofs.Ytajejidnidomgaa.XG Go.Proofs.Ytajejidnidomgaa.GA

theorem rd_lt {l : List Nat} (hl : ∀ x ∈ l, x < 18446744073709551616) (i : Int) : rdOf (0 : Nat) l i < 18446744073709551616 := by
  unfold rdOf
  rw [List.getD_eq_getElem?_getD]
  cases h : l[i.toNat]? with
  | none => simp
  | some x => exact hl x (List.mem_of_getElem? h)
theorem keeps {l : List Nat} (hl : ∀ x ∈ l, x < 18446744073709551616) (hb : l.length * 8 ≤ 140737488351232) (d : Nat) : ∀ (i n : Int) (m v : Nat), 0 ≤ i → i + d = l.length → n ≤ 9223372036854775807 → m < 18446744073709551616 → v < 18446744073709551616 →
    beaconlaw05_GaugeKeeps.l0 (d + 1) l i n m v = some true := by
  induction d with
  | zero =>
    intro i n m v h0 hd hn hm hv
    rw [beaconlaw05_GaugeKeeps.l0, if_neg (by omega), awake_f]
    rfl
  | succ d ih =>
    intro i n m v h0 hd hn hm hv
    have hw : wrap64 (i + 1) = i + 1 := by unfold wrap64; omega
    have ha := rd_lt hl i
    rw [beaconlaw05_GaugeKeeps.l0, if_pos (by omega), if_pos h0, feed_f hn hm hv ha, Option.bind_some, hw]
    by_cases h1 : May n m v
    · rw [if_pos h1]
      by_cases h2 : MayS (rdOf (0 : Nat) l i)
      · rw [if_pos h2]
        have hs : rdOf (0 : Nat) l i % 9223372036854775808 < 9218868437227405312 := by unfold MayS at h2; omega
        obtain ⟨f1, f2, f3⟩ := fed_may hn h1 hs
        generalize Fed n m v (rdOf (0 : Nat) l i % 9223372036854775808) = F at *
        obtain ⟨n', m', v'⟩ := F
        simp only at f1 f2 f3 ⊢
        obtain ⟨c1, c2, c3, c4⟩ := cost_f f1 (by omega)
        have hm' := f1.2.1
        have hv' := f1.2.2.1
        have hR := (round_f c3).2
        rw [if_pos trivial, c4, Option.bind_some, check_f (by omega) (by omega), Option.bind_some, if_pos f1, if_pos rfl]
        simp only [if_true]
        have lt := weight_lt hR
        obtain ⟨c, _, w2, w3⟩ := weight_f (a := Rd (fadd m' (fmul v' 4616189618054758400))) (by omega)
        rw [w2, Option.bind_some, if_pos (w3.2 hR)]
        exact ih _ _ _ _ (by omega) (by omega) f3 (by omega) (by omega)
      · rw [if_neg h2]
        simp only
        rw [if_neg (by decide)]
        exact ih _ _ _ _ (by omega) (by omega) hn hm hv
    · rw [if_neg h1]
      simp only
      rw [if_neg (by decide)]
      exact ih _ _ _ _ (by omega) (by omega) hn hm hv
theorem GaugeKeeps : Go.Proofs.Ytajejidnidomgaa.XG.GaugeKeeps.Pure := by
  rintro ⟨n, m, v⟩ l ⟨⟨_, hn⟩, hm, hv⟩ ⟨hb, hl⟩
  exact ⟨l.length + 1, keeps hl hb l.length 0 n m v (by omega) (by omega) hn hm hv⟩
end Go.Proofs.Ytajejidnidomgaa.Pure
