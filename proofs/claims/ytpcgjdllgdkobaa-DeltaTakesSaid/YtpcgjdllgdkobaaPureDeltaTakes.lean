/- DeltaTakes: whatever numbers adverts come with, what is fresh and what is acknowledged is as the document defines it. -/
import Derived.Test.YtpcgjdllgdkobaaDA
import Derived.Test.YtpcgjdllgdkobaaSDeltaTakes
namespace Go.Proofs.Ytpcgjdllgdkobaa.Pure
open Go.RowKit Go.Proofs.YtpcgjdllgdkobaaW.PrintWords Go.Proofs.Ytpcgjdllgdkobaa.XD Go.Proofs.Ytpcgjdllgdkobaa.ZD

theorem take_some (x s : Int) : ∃ r, delta_Take.f x s = some r ∧ beaconref14_Take.f x s = some r := by
  have h : beaconref14_Take.f x s = delta_Take.f x s := rfl
  rw [h]
  unfold delta_Take.f
  by_cases h1 : x < 18446744073709551615
  · by_cases h2 : s = IntKind.u64.wrap (x + 1)
    · exact ⟨_, by rw [if_pos h1, if_pos h2], by rw [if_pos h1, if_pos h2]⟩
    · by_cases h3 : s ≥ 1
      · exact ⟨_, by rw [if_pos h1, if_neg h2, if_pos h3], by rw [if_pos h1, if_neg h2, if_pos h3]⟩
      · exact ⟨_, by rw [if_pos h1, if_neg h2, if_neg h3], by rw [if_pos h1, if_neg h2, if_neg h3]⟩
  · by_cases h3 : s ≥ 1
    · exact ⟨_, by rw [if_neg h1, if_pos h3], by rw [if_neg h1, if_pos h3]⟩
    · exact ⟨_, by rw [if_neg h1, if_neg h3], by rw [if_neg h1, if_neg h3]⟩
theorem takes_loop (l : List Int) (hl : l.length ≤ 1152921504606846976) : ∀ (d n : Nat) (x : Int), n + d = l.length → beaconlaw14_DeltaTakes.l0 (20 + d + 1) l n x x = some true := by
  intro d
  induction d with
  | zero =>
    intro n x hn
    have h : ¬ ((n : Int) < (l.length : Int)) := by omega
    simp only [beaconlaw14_DeltaTakes.l0]
    rw [if_neg h, awake_small]
    rfl
  | succ d ih =>
    intro n x hn
    have h : (n : Int) < (l.length : Int) := by omega
    have h0 : (0 : Int) ≤ (n : Int) := by omega
    obtain ⟨r, h1, h2⟩ := take_some x (rd l (n : Int))
    have hw : wrap64 ((n : Int) + 1) = ((n + 1 : Nat) : Int) := by unfold wrap64; omega
    rw [show 20 + (d + 1) + 1 = (20 + d + 1) + 1 by omega]
    simp only [beaconlaw14_DeltaTakes.l0]
    rw [if_pos h, if_pos h0, h1, h2, hw]
    simp only [Option.bind_some, if_true, bne_self_eq_false, Bool.false_eq_true, if_false]
    exact ih (n + 1) r.1 (by omega)
theorem DeltaTakes : Go.Proofs.Ytpcgjdllgdkobaa.XD.DeltaTakes.Pure := by
  intro a l _ h
  refine ⟨20 + l.length + 1, ?_⟩
  exact takes_loop l (by have := h.1; omega) l.length 0 a.f0 (by omega)

end Go.Proofs.Ytpcgjdllgdkobaa.Pure
