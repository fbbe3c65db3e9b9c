/- Go functions of this seat as Lean functions, with proofs that the calls come to them. (Written by xprint.py, a program of this session, over the kit's print.) -/
import Derived.Test.YtpcipmhblknokaaXCx0
import Derived.Test.YtpcipmhblknokaaCL
namespace Go.Proofs.Ytpcipmhblknokaa.XC
open Go.RowKit Go.Proofs.YtpcipmhblknokaaW.PrintWords Go.Proofs.YtpcipmhblknokaaW.PrintLast Go.Proofs.YtpcipmhblknokaaW.PrintMore
attribute [local go_sem] max2_int min2_int max_two min_two max_three min_three max_four min_four   -- for this text's walks alone
set_option linter.unusedVariables false
set_option linter.unusedSimpArgs false
open List renaming setIfInBounds_toArray → xA, set_cons_zero → xB, set_cons_succ → xC
open Go.Proofs.YtpcipmhblknokaaW.PrintWords renaming blk_drewN → bN, blk_drew → bD, blk_alloc → bA, below_set → bS, blk_frozen → bF, blk_cell → bC, cell_far → cF, blk_far → bZ, blk_below → bB, pw_below_drewN → bwN, below_drew1 → bw1, below_alloc → bwA
open Go.Proofs.YtpcipmhblknokaaW.PrintZ
open Bool renaming true → T,false → F

/-! ### beaconlaw11_ChannelOwn: function 7 -/
def beaconlaw11_ChannelOwn.f (l0 : List S27) : Option Bool := if l0.length < 3518437208883 then some true else none
theorem beaconlaw11_ChannelOwn.calls (A0 : Option Addr) (c0 : Nat) (l0 : List S27) (r : Bool) (w : World) (hr0 : Kd.C k27 w A0 l0.length l0) (hc0 : l0.length ≤ c0) (h : beaconlaw11_ChannelOwn.f l0 = some r) (hr_ : r = true) :
  Calls Try.prog 7 #[.slice A0 l0.length c0] w fun e w' => e = .returned (.bool r) ∧ Below w.heap.size w w':=by
 subst hr_;unfold beaconlaw11_ChannelOwn.f at h
 split at h
 ·rename_i hb
  exact Go.Proofs.Ytpcipmhblknokaa.Ch.own_calls hr0 hc0 hb
 ·cases h

end Go.Proofs.Ytpcipmhblknokaa.XC
