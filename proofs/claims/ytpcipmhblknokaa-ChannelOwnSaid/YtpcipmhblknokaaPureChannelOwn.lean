import Derived.Test.YtpcipmhblknokaaSChannelOwn
namespace Go.Proofs.Ytpcipmhblknokaa.Pure
open Go.RowKit Go.Proofs.YtpcipmhblknokaaW.PrintWords Go.Proofs.Ytpcipmhblknokaa.XC

theorem ChannelOwn : Go.Proofs.Ytpcipmhblknokaa.XC.ChannelOwn.Pure := by
  intro a0 h
  unfold beaconlaw11_ChannelOwn.f
  exact if_pos (by omega)

end Go.Proofs.Ytpcipmhblknokaa.Pure
