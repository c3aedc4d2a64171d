-- Written by a program of this session (wip/ep), out of the translation. Lean checks it.
import Derived.Test.YtkbhdiambabnnaaPFnSealx0
import Derived.Test.YtkbhdiambabnnaaPFnSealx1
import Derived.Test.YtkbhdiambabnnaaPFnSealx2
import Derived.Test.YtkbhdiambabnnaaPFnSealx3
namespace Go.Proofs.Ytkbhdiambabnnaa.PFnSeal
open Go.RowKit Go.Proofs.YtkbhdiambabnnaaW.PrintWords Go.Proofs.YtkbhdiambabnnaaW.PrintLast Go.Proofs.YtkbhdiambabnnaaW.PrintMore
attribute [local go_sem] max2_int min2_int max_two min_two max_three min_three max_four min_four   -- for this text's walks alone
set_option linter.unusedVariables false
set_option linter.unusedSimpArgs false

end Go.Proofs.Ytkbhdiambabnnaa.PFnSeal
