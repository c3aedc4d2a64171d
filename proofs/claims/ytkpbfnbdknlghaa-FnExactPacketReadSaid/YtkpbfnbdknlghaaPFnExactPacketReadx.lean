-- Written by a program of this session (wip/ep), out of the translation. Lean checks it.
import Derived.Test.YtkpbfnbdknlghaaPFnExactPacketReadx0
import Derived.Test.YtkpbfnbdknlghaaPFnExactPacketReadx1
import Derived.Test.YtkpbfnbdknlghaaPFnExactPacketReadx2
import Derived.Test.YtkpbfnbdknlghaaPFnExactPacketReadx3
import Derived.Test.YtkpbfnbdknlghaaPFnExactPacketReadx4
import Derived.Test.YtkpbfnbdknlghaaPFnExactPacketReadx5
import Derived.Test.YtkpbfnbdknlghaaPFnExactPacketReadx6
import Derived.Test.YtkpbfnbdknlghaaPFnExactPacketReadx7
import Derived.Test.YtkpbfnbdknlghaaPFnExactPacketReadx8
import Derived.Test.YtkpbfnbdknlghaaPFnExactPacketReadx9
import Derived.Test.YtkpbfnbdknlghaaPFnExactPacketReadx10
namespace Go.Proofs.Ytkpbfnbdknlghaa.PFnExactPacketRead
open Go.RowKit Go.Proofs.YtkpbfnbdknlghaaW.PrintWords Go.Proofs.YtkpbfnbdknlghaaW.PrintLast Go.Proofs.YtkpbfnbdknlghaaW.PrintMore
attribute [local go_sem] max2_int min2_int max_two min_two max_three min_three max_four min_four   -- for this text's walks alone
set_option linter.unusedVariables false
set_option linter.unusedSimpArgs false

end Go.Proofs.Ytkpbfnbdknlghaa.PFnExactPacketRead
