-- Written by a program of this session (wip/ep), out of the translation. Lean checks it.
import Derived.Test.YtboefhiobafijaaPFnExactActRightx0
import Derived.Test.YtboefhiobafijaaPFnExactActRightx1
import Derived.Test.YtboefhiobafijaaPFnExactActRightx2
import Derived.Test.YtboefhiobafijaaPFnExactActRightx3
namespace Go.Proofs.Ytboefhiobafijaa.PFnExactActRight
open Go.RowKit Go.Proofs.YtboefhiobafijaaW.PrintWords Go.Proofs.YtboefhiobafijaaW.PrintLast Go.Proofs.YtboefhiobafijaaW.PrintMore
attribute [local go_sem] max2_int min2_int max_two min_two max_three min_three max_four min_four   -- for this text's walks alone
set_option linter.unusedVariables false
set_option linter.unusedSimpArgs false

end Go.Proofs.Ytboefhiobafijaa.PFnExactActRight
