/- ForwardCodes: the error of any step is the reference's, and the layer answers its fixed question. -/
import Derived.Test.YtgmjlhpigfaicaaSForwardCodes
namespace Go.Proofs.Ytgmjlhpigfaicaa.Pure
open Go.RowKit Go.Proofs.YtgmjlhpigfaicaaW.PrintWords Go.Proofs.Ytgmjlhpigfaicaa.XF

theorem awake_codes : beaconlaw19_awake.f 40 = some true := by decide +kernel
theorem ForwardCodes : Go.Proofs.Ytgmjlhpigfaicaa.XF.ForwardCodes.Pure := by
  intro a ha
  refine ⟨40, ?_⟩
  unfold beaconlaw19_ForwardCodes.f
  have e : ∀ (q0 q1 q2 q3 q4 q5 q6 q7 q8 q9 : Int) (q10 : ByteArray) (q11 q12 : Int) (q13 : ByteArray), ∃ r, forward_Code.f q0 q1 q2 q3 q4 q5 q6 q7 q8 q9 q10 q11 q12 q13 = some r ∧ beaconref19_Code.f q0 q1 q2 q3 q4 q5 q6 q7 q8 q9 q10 q11 q12 q13 = some r := by
    intro q0 q1 q2 q3 q4 q5 q6 q7 q8 q9 q10 q11 q12 q13
    unfold forward_Code.f beaconref19_Code.f
    repeat' (first | exact ⟨_, rfl, rfl⟩ | split)
  obtain ⟨r, h1, h2⟩ := e _ _ _ _ _ _ _ _ _ _ _ _ _ _
  rw [h1, h2, Option.bind_some, Option.bind_some, if_pos rfl, awake_codes]
  rfl
end Go.Proofs.Ytgmjlhpigfaicaa.Pure
