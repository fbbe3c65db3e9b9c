/- GaugeHolds: Hold answers as the reference's over any two floats, and holds what it gave. -/
import Derived.Test.YtajejidnidomgaaSGaugeHolds
import Derived.Test.YtajejidnidomgaaGW
namespace Go.Proofs.Ytajejidnidomgaa.Pure
open Go.RowKit Go.Proofs.YtajejidnidomgaaW.PrintWords Go.Proofs.Ytajejidnidomgaa.XG Go.Proofs.Ytajejidnidomgaa.GA

theorem GaugeHolds : Go.Proofs.Ytajejidnidomgaa.XG.GaugeHolds.Pure := by
  intro a b ha hb
  refine ⟨2, ?_⟩
  obtain ⟨e, r, h1, h2⟩ := hold_f (k := 1) ha hb
  unfold beaconlaw05_GaugeHolds.f
  rw [e, h1]
  simp only [Option.bind_some, if_true]
  rw [same_f]
  simp only [Option.bind_some, decide_true, Bool.not_true, beaconlaw05_GaugeHolds.j0]
  rw [if_neg (by decide)]
  rcases h2 with rfl | ⟨wa, wb, rfl⟩
  · simp only
    rw [if_neg (by decide), awake_f]
    rfl
  · simp only [if_true]
    have wh : IsW (Held a b) := by unfold Held; split <;> assumption
    have lt := weight_lt wh
    obtain ⟨e', r', h1', h2'⟩ := hold_f (k := 0) (a := Held a b) (b := Held a b) (by omega) (by omega)
    rw [e', h1', Option.bind_some]
    have hr : r' = (Held a b, 0) := by
      rcases h2' with h | ⟨_, _, h⟩
      · exfalso
        obtain ⟨c, g1, g2, g3⟩ := weight_f (a := Held a b) (by omega)
        subst h
        unfold beaconref05_Hold.f at h1'
        rw [g2] at h1'
        simp only [Option.bind_some, beaconref05_Hold.j0] at h1'
        rw [if_pos (g3.2 wh)] at h1'
        have hn : (c != 0) = false := by simp [g3.2 wh]
        rw [hn, if_neg (by decide)] at h1'
        revert h1'
        repeat' split
        all_goals simp
      · rw [h, held_self]
    subst hr
    simp only [if_true]
    rw [feq_pos (by omega) (by omega)]
    simp [awake_f]
end Go.Proofs.Ytajejidnidomgaa.Pure
