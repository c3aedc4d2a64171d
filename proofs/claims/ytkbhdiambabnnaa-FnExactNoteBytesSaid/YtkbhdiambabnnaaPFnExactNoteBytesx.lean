-- Written by a program of this session (wip/ep), out of the translation. Lean checks it.
import Derived.Test.YtkbhdiambabnnaaPFnExactNoteBytesx0
import Derived.Test.YtkbhdiambabnnaaPFnExactNoteBytesx1
import Derived.Test.YtkbhdiambabnnaaPFnExactNoteBytesx2
import Derived.Test.YtkbhdiambabnnaaPFnExactNoteBytesx3
import Derived.Test.YtkbhdiambabnnaaPFnExactNoteBytesx4
import Derived.Test.YtkbhdiambabnnaaPFnExactNoteBytesx5
import Derived.Test.YtkbhdiambabnnaaPFnExactNoteBytesx6
import Derived.Test.YtkbhdiambabnnaaPFnExactNoteBytesx7
namespace Go.Proofs.Ytkbhdiambabnnaa.PFnExactNoteBytes
open Go.RowKit Go.Proofs.YtkbhdiambabnnaaW.PrintWords Go.Proofs.YtkbhdiambabnnaaW.PrintLast Go.Proofs.YtkbhdiambabnnaaW.PrintMore
attribute [local go_sem] max2_int min2_int max_two min_two max_three min_three max_four min_four   -- for this text's walks alone
set_option linter.unusedVariables false
set_option linter.unusedSimpArgs false

end Go.Proofs.Ytkbhdiambabnnaa.PFnExactNoteBytes
