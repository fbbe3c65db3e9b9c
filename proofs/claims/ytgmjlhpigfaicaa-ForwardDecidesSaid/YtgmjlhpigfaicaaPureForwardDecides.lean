/- ForwardDecides: what a router does with any packet is what the reference does; so is the error of that step. -/
import Derived.Test.YtgmjlhpigfaicaaSForwardDecides
import Derived.Test.YtgmjlhpigfaicaaFA
namespace Go.Proofs.Ytgmjlhpigfaicaa.Pure
open Go.RowKit Go.Proofs.YtgmjlhpigfaicaaW.PrintWords Go.Proofs.Ytgmjlhpigfaicaa.XF

theorem code_both (q0 q1 q2 q3 q4 q5 q6 q7 q8 q9 : Int) (q10 : ByteArray) (q11 q12 : Int) (q13 : ByteArray) : ∃ r, forward_Code.f q0 q1 q2 q3 q4 q5 q6 q7 q8 q9 q10 q11 q12 q13 = some r ∧ beaconref19_Code.f q0 q1 q2 q3 q4 q5 q6 q7 q8 q9 q10 q11 q12 q13 = some r := by
  unfold forward_Code.f beaconref19_Code.f
  repeat' (first | exact ⟨_, rfl, rfl⟩ | split)
theorem same_self (q0 q1 q2 q3 q4 q5 q6 q7 q8 q9 : Int) (q10 : ByteArray) (q11 q12 : Int) (q13 : ByteArray) : beaconlaw19_same.f q0 q1 q2 q3 q4 q5 q6 q7 q8 q9 q10 q11 q12 q13 q0 q1 q2 q3 q4 q5 q6 q7 q8 q9 q10 q11 q12 q13 = some true := by
  simp [beaconlaw19_same.f, beaconref06_SamePacket.f]
theorem ForwardDecides : Go.Proofs.Ytgmjlhpigfaicaa.XF.ForwardDecides.Pure := by
  rintro self ⟨l, b⟩ p hself ⟨⟨hl0, _⟩, _⟩ hp
  have hl : l.length ≤ 2932031007401 := by
    have h : l.length * 48 ≤ 140737488351232 := hl0
    omega
  have hs : p.f8.size ≤ 140737488351232 := hp.2.2.2.2.2.2.2.2.1
  refine ⟨40 + (4 * l.length + 60), ?_⟩
  obtain ⟨r, h1, h2⟩ := decide_both self l b hl (40 + (4 * l.length + 60)) (by omega) p.f0 p.f1 p.f2 p.f3 p.f4 p.f5 p.f6 p.f7 p.f8 p.f9 p.f10 p.f11 hs
  show beaconlaw19_ForwardDecides.f (40 + (4 * l.length + 60)) self l b p.f0 p.f1 p.f2 p.f3 p.f4 p.f5 p.f6 p.f7 p.f8 p.f9 p.f10 p.f11 = some true
  unfold beaconlaw19_ForwardDecides.f
  rw [ownR l b (by omega) _ (by omega), Option.bind_some]
  show (forward_Decide.f _ self l b _ _ _ _ _ _ _ _ _ _ _ _).bind _ = _
  rw [h1, h2, Option.bind_some, Option.bind_some, if_pos rfl, same_self, Option.bind_some, if_pos rfl]
  obtain ⟨c, hc1, hc2⟩ := code_both r.1 r.2.1 r.2.2.1 r.2.2.2.1 r.2.2.2.2.1 r.2.2.2.2.2.1 r.2.2.2.2.2.2.1 r.2.2.2.2.2.2.2.1 r.2.2.2.2.2.2.2.2.1 r.2.2.2.2.2.2.2.2.2.1 r.2.2.2.2.2.2.2.2.2.2.1 r.2.2.2.2.2.2.2.2.2.2.2.1 r.2.2.2.2.2.2.2.2.2.2.2.2.1 r.2.2.2.2.2.2.2.2.2.2.2.2.2.1
  rw [hc1, hc2, Option.bind_some, Option.bind_some, if_pos rfl, awake_f]
  rfl
end Go.Proofs.Ytgmjlhpigfaicaa.Pure
