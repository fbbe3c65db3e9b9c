/- What all laws of the layer delta need: the small question of their own is answered. -/
import Derived.Test.YtpcgjdllgdkobaaXDx13
namespace Go.Proofs.Ytpcgjdllgdkobaa.Pure
open Go.RowKit Go.Proofs.YtpcgjdllgdkobaaW.PrintWords Go.Proofs.Ytpcgjdllgdkobaa.XD Go.Proofs.Ytpcgjdllgdkobaa.ZD

theorem list1 : delta_list.f 19 [(⟨1, 1, 4611686018427387904, 0, 0⟩ : S61)] = some true := by decide +kernel
theorem list2 : delta_list.f 19 [(⟨1, 1, 4613937818241073152, 0, 0⟩ : S61)] = some true := by decide +kernel
theorem diff1 : delta_diff.f [(⟨1, 1, 4611686018427387904, 0, 0⟩ : S61)] [(⟨1, 1, 4613937818241073152, 0, 0⟩ : S61)] = some [(⟨1, 1, 4613937818241073152, 0, 0⟩ : S61)] := by
  have hf : ¬ (fbits 4611686018427387904 = fbits 4613937818241073152) := by unfold fbits; decide
  simp [delta_diff.f, diffL, ahB, sameB, hf]
theorem awake19 : beaconlaw14_awake.f 19 = some true := by
  unfold beaconlaw14_awake.f delta_Diff.f
  rw [list1, list2]
  simp only [Option.bind_some, if_true]
  rw [diff1]
  decide +kernel
theorem awake_small : beaconlaw14_awake.f 20 = some true := beaconlaw14_awake.mono _ _ awake19

end Go.Proofs.Ytpcgjdllgdkobaa.Pure
