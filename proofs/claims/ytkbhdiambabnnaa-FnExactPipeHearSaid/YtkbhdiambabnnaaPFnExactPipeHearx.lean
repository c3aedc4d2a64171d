-- Written by a program of this session (wip/ep), out of the translation. Lean checks it.
import Derived.Test.YtkbhdiambabnnaaPFnExactPipeHearx0
import Derived.Test.YtkbhdiambabnnaaPFnExactPipeHearx1
import Derived.Test.YtkbhdiambabnnaaPFnExactPipeHearx2
import Derived.Test.YtkbhdiambabnnaaPFnExactPipeHearx3
import Derived.Test.YtkbhdiambabnnaaPFnExactPipeHearx4
import Derived.Test.YtkbhdiambabnnaaPFnExactPipeHearx5
import Derived.Test.YtkbhdiambabnnaaPFnExactPipeHearx6
import Derived.Test.YtkbhdiambabnnaaPFnExactPipeHearx7
namespace Go.Proofs.Ytkbhdiambabnnaa.PFnExactPipeHear
open Go.RowKit Go.Proofs.YtkbhdiambabnnaaW.PrintWords Go.Proofs.YtkbhdiambabnnaaW.PrintLast Go.Proofs.YtkbhdiambabnnaaW.PrintMore
attribute [local go_sem] max2_int min2_int max_two min_two max_three min_three max_four min_four   -- for this text's walks alone
set_option linter.unusedVariables false
set_option linter.unusedSimpArgs false

end Go.Proofs.Ytkbhdiambabnnaa.PFnExactPipeHear
