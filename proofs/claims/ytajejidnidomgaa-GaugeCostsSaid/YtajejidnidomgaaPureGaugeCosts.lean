/- GaugeCosts: any gauge's cost is the reference's, bit by bit. -/
import Derived.Test.YtajejidnidomgaaSGaugeCosts
import Derived.Test.YtajejidnidomgaaGR
namespace Go.Proofs.Ytajejidnidomgaa.Pure
open Go.RowKit Go.Proofs.YtajejidnidomgaaW.PrintWords Go.Proofs.Ytajejidnidomgaa.XG Go.Proofs.Ytajejidnidomgaa.GA

theorem cost_same {k : Nat} {n : Int} {m v : Nat} (hm : m < 18446744073709551616) (hv : v < 18446744073709551616) (hk : 8388620 ≤ k) : gauge_Cost.f n m v = beaconref05_Cost.f k n m v ∧ ∃ r, beaconref05_Cost.f k n m v = some r := by
  by_cases h : May n m v
  · by_cases hn : n = 0
    · obtain ⟨k, rfl⟩ : ∃ q, k = q + 1 := ⟨k - 1, by omega⟩
      unfold gauge_Cost.f beaconref05_Cost.f
      rw [check_f hm hv, rcheck_f hm hv, Option.bind_some, Option.bind_some, if_pos h, if_pos rfl, if_pos hn, if_pos rfl, if_pos hn]
      exact ⟨rfl, _, rfl⟩
    · rw [(cost_f h hn).2.2.2, rcost_f h hn hk]
      exact ⟨rfl, _, rfl⟩
  · obtain ⟨k, rfl⟩ : ∃ q, k = q + 1 := ⟨k - 1, by omega⟩
    unfold gauge_Cost.f beaconref05_Cost.f
    rw [check_f hm hv, rcheck_f hm hv, Option.bind_some, Option.bind_some, if_neg h, if_neg (by decide), if_neg (by decide)]
    exact ⟨rfl, _, rfl⟩
theorem GaugeCosts : Go.Proofs.Ytajejidnidomgaa.XG.GaugeCosts.Pure := by
  rintro ⟨n, m, v⟩ ⟨_, hm, hv⟩
  refine ⟨8388620, ?_⟩
  obtain ⟨e, r, hr⟩ := cost_same (k := 8388620) (n := n) hm hv (Nat.le_refl _)
  unfold beaconlaw05_GaugeCosts.f
  simp only
  rw [e, hr, Option.bind_some, Option.bind_some, if_pos rfl, same_f, Option.bind_some, if_pos (by simp), awake_f]
  rfl
end Go.Proofs.Ytajejidnidomgaa.Pure
