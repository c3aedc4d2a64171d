-- Written by a program of this session (wip/ep), out of the translation. Lean checks it.
import Derived.Test.YtkpbfnbdknlghaaPFnExactRouteReadx0
import Derived.Test.YtkpbfnbdknlghaaPFnExactRouteReadx1
import Derived.Test.YtkpbfnbdknlghaaPFnExactRouteReadx2
import Derived.Test.YtkpbfnbdknlghaaPFnExactRouteReadx3
import Derived.Test.YtkpbfnbdknlghaaPFnExactRouteReadx4
import Derived.Test.YtkpbfnbdknlghaaPFnExactRouteReadx5
import Derived.Test.YtkpbfnbdknlghaaPFnExactRouteReadx6
import Derived.Test.YtkpbfnbdknlghaaPFnExactRouteReadx7
import Derived.Test.YtkpbfnbdknlghaaPFnExactRouteReadx8
namespace Go.Proofs.Ytkpbfnbdknlghaa.PFnExactRouteRead
open Go.RowKit Go.Proofs.YtkpbfnbdknlghaaW.PrintWords Go.Proofs.YtkpbfnbdknlghaaW.PrintLast Go.Proofs.YtkpbfnbdknlghaaW.PrintMore
attribute [local go_sem] max2_int min2_int max_two min_two max_three min_three max_four min_four   -- for this text's walks alone
set_option linter.unusedVariables false
set_option linter.unusedSimpArgs false

end Go.Proofs.Ytkpbfnbdknlghaa.PFnExactRouteRead
