-- Written by a program of this session (wip/ep), out of the translation. Lean checks it.
import Derived.Test.YtkbhdiambabnnaaPFnExactRibRightx0
import Derived.Test.YtkbhdiambabnnaaPFnExactRibRightx1
import Derived.Test.YtkbhdiambabnnaaPFnExactRibRightx2
import Derived.Test.YtkbhdiambabnnaaPFnExactRibRightx3
import Derived.Test.YtkbhdiambabnnaaPFnExactRibRightx4
import Derived.Test.YtkbhdiambabnnaaPFnExactRibRightx5
import Derived.Test.YtkbhdiambabnnaaPFnExactRibRightx6
import Derived.Test.YtkbhdiambabnnaaPFnExactRibRightx7
namespace Go.Proofs.Ytkbhdiambabnnaa.PFnExactRibRight
open Go.RowKit Go.Proofs.YtkbhdiambabnnaaW.PrintWords Go.Proofs.YtkbhdiambabnnaaW.PrintLast Go.Proofs.YtkbhdiambabnnaaW.PrintMore
attribute [local go_sem] max2_int min2_int max_two min_two max_three min_three max_four min_four   -- for this text's walks alone
set_option linter.unusedVariables false
set_option linter.unusedSimpArgs false

end Go.Proofs.Ytkbhdiambabnnaa.PFnExactRibRight
