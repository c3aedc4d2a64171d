-- Written by a program of this session (wip/ep), out of the translation. Lean checks it.
import Derived.Test.YtkpbfnbdknlghaaPFnExactNoteReadx0
import Derived.Test.YtkpbfnbdknlghaaPFnExactNoteReadx1
import Derived.Test.YtkpbfnbdknlghaaPFnExactNoteReadx2
import Derived.Test.YtkpbfnbdknlghaaPFnExactNoteReadx3
import Derived.Test.YtkpbfnbdknlghaaPFnExactNoteReadx4
import Derived.Test.YtkpbfnbdknlghaaPFnExactNoteReadx5
import Derived.Test.YtkpbfnbdknlghaaPFnExactNoteReadx6
import Derived.Test.YtkpbfnbdknlghaaPFnExactNoteReadx7
import Derived.Test.YtkpbfnbdknlghaaPFnExactNoteReadx8
import Derived.Test.YtkpbfnbdknlghaaPFnExactNoteReadx9
import Derived.Test.YtkpbfnbdknlghaaPFnExactNoteReadx10
import Derived.Test.YtkpbfnbdknlghaaPFnExactNoteReadx11
namespace Go.Proofs.Ytkpbfnbdknlghaa.PFnExactNoteRead
open Go.RowKit Go.Proofs.YtkpbfnbdknlghaaW.PrintWords Go.Proofs.YtkpbfnbdknlghaaW.PrintLast Go.Proofs.YtkpbfnbdknlghaaW.PrintMore
attribute [local go_sem] max2_int min2_int max_two min_two max_three min_three max_four min_four   -- for this text's walks alone
set_option linter.unusedVariables false
set_option linter.unusedSimpArgs false

end Go.Proofs.Ytkpbfnbdknlghaa.PFnExactNoteRead
