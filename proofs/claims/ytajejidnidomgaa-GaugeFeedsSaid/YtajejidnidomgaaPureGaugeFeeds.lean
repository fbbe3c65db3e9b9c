/- GaugeFeeds: the program's Feed and Check of any gauge and any sample are the reference's, bit by bit; for every gauge and every float64. -/
import Derived.Test.YtajejidnidomgaaSGaugeFeeds
import Derived.Test.YtajejidnidomgaaGA
namespace Go.Proofs.Ytajejidnidomgaa.Pure
open Go.RowKit Go.Proofs.YtajejidnidomgaaW.PrintWords Go.Proofs.Ytajejidnidomgaa.XG Go.Proofs.Ytajejidnidomgaa.GA

theorem GaugeFeeds : Go.Proofs.Ytajejidnidomgaa.XG.GaugeFeeds.Pure := by
  rintro ⟨n, m, v⟩ a ⟨⟨_, hn⟩, hm, hv⟩ ha
  refine ⟨1, ?_⟩
  unfold beaconlaw05_GaugeFeeds.f
  rw [feed_f hn hm hv ha, Option.bind_some, rfeed_f (k := 0) hn hm hv ha, Option.bind_some, if_pos rfl, gsame_f, Option.bind_some]
  rw [if_pos (by simp), check_f hm hv, Option.bind_some, rcheck_f (k := 0) hm hv, Option.bind_some, if_pos rfl, awake_f, Option.bind_some]
end Go.Proofs.Ytajejidnidomgaa.Pure
