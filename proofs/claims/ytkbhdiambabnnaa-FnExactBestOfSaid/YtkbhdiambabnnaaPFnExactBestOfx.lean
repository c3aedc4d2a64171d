-- Written by a program of this session (wip/ep), out of the translation. Lean checks it.
import Derived.Test.YtkbhdiambabnnaaPFnExactBestOfx0
import Derived.Test.YtkbhdiambabnnaaPFnExactBestOfx1
import Derived.Test.YtkbhdiambabnnaaPFnExactBestOfx2
import Derived.Test.YtkbhdiambabnnaaPFnExactBestOfx3
import Derived.Test.YtkbhdiambabnnaaPFnExactBestOfx4
import Derived.Test.YtkbhdiambabnnaaPFnExactBestOfx5
import Derived.Test.YtkbhdiambabnnaaPFnExactBestOfx6
import Derived.Test.YtkbhdiambabnnaaPFnExactBestOfx7
namespace Go.Proofs.Ytkbhdiambabnnaa.PFnExactBestOf
open Go.RowKit Go.Proofs.YtkbhdiambabnnaaW.PrintWords Go.Proofs.YtkbhdiambabnnaaW.PrintLast Go.Proofs.YtkbhdiambabnnaaW.PrintMore
attribute [local go_sem] max2_int min2_int max_two min_two max_three min_three max_four min_four   -- for this text's walks alone
set_option linter.unusedVariables false
set_option linter.unusedSimpArgs false

end Go.Proofs.Ytkbhdiambabnnaa.PFnExactBestOf
