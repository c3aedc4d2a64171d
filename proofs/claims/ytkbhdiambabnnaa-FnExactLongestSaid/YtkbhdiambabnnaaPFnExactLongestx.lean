-- Written by a program of this session (wip/ep), out of the translation. Lean checks it.
import Derived.Test.YtkbhdiambabnnaaPFnExactLongestx0
import Derived.Test.YtkbhdiambabnnaaPFnExactLongestx1
import Derived.Test.YtkbhdiambabnnaaPFnExactLongestx2
import Derived.Test.YtkbhdiambabnnaaPFnExactLongestx3
import Derived.Test.YtkbhdiambabnnaaPFnExactLongestx4
import Derived.Test.YtkbhdiambabnnaaPFnExactLongestx5
import Derived.Test.YtkbhdiambabnnaaPFnExactLongestx6
import Derived.Test.YtkbhdiambabnnaaPFnExactLongestx7
import Derived.Test.YtkbhdiambabnnaaPFnExactLongestx8
import Derived.Test.YtkbhdiambabnnaaPFnExactLongestx9
import Derived.Test.YtkbhdiambabnnaaPFnExactLongestx10
namespace Go.Proofs.Ytkbhdiambabnnaa.PFnExactLongest
open Go.RowKit Go.Proofs.YtkbhdiambabnnaaW.PrintWords Go.Proofs.YtkbhdiambabnnaaW.PrintLast Go.Proofs.YtkbhdiambabnnaaW.PrintMore
attribute [local go_sem] max2_int min2_int max_two min_two max_three min_three max_four min_four   -- for this text's walks alone
set_option linter.unusedVariables false
set_option linter.unusedSimpArgs false

end Go.Proofs.Ytkbhdiambabnnaa.PFnExactLongest
