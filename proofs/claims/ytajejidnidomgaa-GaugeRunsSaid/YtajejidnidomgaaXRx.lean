/- Go functions of this seat as Lean functions, with proofs that the calls come to them. (Written by xprint.py, a program of this session, over the kit's print.) -/
import Derived.Test.YtajejidnidomgaaXRx0
import Derived.Test.YtajejidnidomgaaXRx1
import Derived.Test.YtajejidnidomgaaXRx2
import Derived.Test.YtajejidnidomgaaXRx3
import Derived.Test.YtajejidnidomgaaXRx4
import Derived.Test.YtajejidnidomgaaXRx5
import Derived.Test.YtajejidnidomgaaXRx6
import Derived.Test.YtajejidnidomgaaXRx7
import Derived.Test.YtajejidnidomgaaXRx8
namespace Go.Proofs.Ytajejidnidomgaa.XR
open Go.RowKit Go.Proofs.YtajejidnidomgaaW.PrintWords Go.Proofs.YtajejidnidomgaaW.PrintLast Go.Proofs.YtajejidnidomgaaW.PrintMore
attribute [local go_sem] max2_int min2_int max_two min_two max_three min_three max_four min_four   -- for this text's walks alone
set_option linter.unusedVariables false
set_option linter.unusedSimpArgs false

end Go.Proofs.Ytajejidnidomgaa.XR
