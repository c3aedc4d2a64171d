-- Written by a program of this session (wip/ep), out of the translation. Lean checks it.
import Derived.Test.YtkpbfnbdknlghaaPFnExactDumpOfx0
import Derived.Test.YtkpbfnbdknlghaaPFnExactDumpOfx1
import Derived.Test.YtkpbfnbdknlghaaPFnExactDumpOfx2
import Derived.Test.YtkpbfnbdknlghaaPFnExactDumpOfx3
import Derived.Test.YtkpbfnbdknlghaaPFnExactDumpOfx4
import Derived.Test.YtkpbfnbdknlghaaPFnExactDumpOfx5
import Derived.Test.YtkpbfnbdknlghaaPFnExactDumpOfx6
import Derived.Test.YtkpbfnbdknlghaaPFnExactDumpOfx7
import Derived.Test.YtkpbfnbdknlghaaPFnExactDumpOfx8
import Derived.Test.YtkpbfnbdknlghaaPFnExactDumpOfx9
namespace Go.Proofs.Ytkpbfnbdknlghaa.PFnExactDumpOf
open Go.RowKit Go.Proofs.YtkpbfnbdknlghaaW.PrintWords Go.Proofs.YtkpbfnbdknlghaaW.PrintLast Go.Proofs.YtkpbfnbdknlghaaW.PrintMore
attribute [local go_sem] max2_int min2_int max_two min_two max_three min_three max_four min_four   -- for this text's walks alone
set_option linter.unusedVariables false
set_option linter.unusedSimpArgs false

end Go.Proofs.Ytkpbfnbdknlghaa.PFnExactDumpOf
