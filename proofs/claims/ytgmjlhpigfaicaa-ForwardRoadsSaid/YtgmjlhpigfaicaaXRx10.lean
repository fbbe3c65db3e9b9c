/- Go functions of this seat as Lean functions, with proofs that the calls come to them. (Written by xprint.py, a program of this session, over the kit's print.) -/
import Derived.Test.YtgmjlhpigfaicaaXRx0
import Derived.Test.YtgmjlhpigfaicaaMW
namespace Go.Proofs.Ytgmjlhpigfaicaa.XR
open Go.RowKit Go.Proofs.YtgmjlhpigfaicaaW.PrintWords Go.Proofs.YtgmjlhpigfaicaaW.PrintLast Go.Proofs.YtgmjlhpigfaicaaW.PrintMore
attribute [local go_sem] max2_int min2_int max_two min_two max_three min_three max_four min_four   -- for this text's walks alone
set_option linter.unusedVariables false
set_option linter.unusedSimpArgs false
open List renaming setIfInBounds_toArray → xA, set_cons_zero → xB, set_cons_succ → xC
open Go.Proofs.YtgmjlhpigfaicaaW.PrintWords renaming blk_drewN → bN, blk_drew → bD, blk_alloc → bA, below_set → bS, blk_frozen → bF, blk_cell → bC, cell_far → cF, blk_far → bZ, blk_below → bB, pw_below_drewN → bwN, below_drew1 → bw1, below_alloc → bwA
open Go.Proofs.YtgmjlhpigfaicaaW.PrintZ
open Bool renaming true → T,false → F

/-! ### fake_lk: a look-up in a map whose n-th key was stored with n -/
def fake_lk.f (l0 : List Int) (a1 : Int) : Option (Int × Bool) := if Go.Proofs.Ytgmjlhpigfaicaa.MapW.okKey a1 = true then some (Go.Proofs.Ytgmjlhpigfaicaa.MapW.idxI l0 a1, Go.Proofs.Ytgmjlhpigfaicaa.MapW.hasI l0 a1) else none

end Go.Proofs.Ytgmjlhpigfaicaa.XR
