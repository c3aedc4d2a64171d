-- Written by a program of this session (wip/ep), out of the translation. Lean checks it.
import Derived.Test.YtkpbfnbdknlghaaProg
import Derived.Below
import Derived.Deep.Draws
import Derived.Deep.AppendLies
import Derived.Maps.AppendAt
import Derived.OwnWalk
import Derived.Laws.BytesArg
import Derived.Laws.MakeOwn
import Derived.Laws.OwnMore
import Derived.Deep.OwnRows
import Derived.Tactics
import Derived.Lib.ConvBytes
import Derived.Laws.Slices
import Derived.WalkKit
import Derived.KernelRfl
import Derived.RowKit3
import Derived.Deep.LoopGhost
import Derived.Deep.QuietTactic
import Derived.BigQuiet
import Derived.WideLaws
import Derived.Deep.DeepCutAuto
import Derived.Deep.CutBlock
import Derived.Deep.RegionHeld3
import Derived.Laws.Rows
import Derived.Lib.AppendStr
import Derived.ArgAppend
import Derived.Laws.IdiomCopy
import Derived.OrdersHeld
import Derived.Laws.BitsLemmas
import Derived.RowKit
import Derived.Test.YtkpbfnbdknlghaaWWords
import Derived.Test.YtkpbfnbdknlghaaWLast
import Derived.Test.YtkpbfnbdknlghaaWTab
import Derived.Test.YtkpbfnbdknlghaaWFour
import Derived.Test.YtkpbfnbdknlghaaWQPut
import Derived.Test.YtkpbfnbdknlghaaWApart
import Derived.Test.YtkpbfnbdknlghaaWArr
import Derived.Test.YtkpbfnbdknlghaaWZeros
import Derived.Test.YtkpbfnbdknlghaaWFoot
import Derived.Test.YtkpbfnbdknlghaaWKept
import Derived.Test.YtkpbfnbdknlghaaWShare
import Derived.Test.YtkpbfnbdknlghaaWN
import Derived.Test.YtkpbfnbdknlghaaWFootNe
import Derived.Test.YtkpbfnbdknlghaaWAt
import Derived.Test.YtkpbfnbdknlghaaWEqStruct
import Derived.Test.YtkpbfnbdknlghaaWRepsOne
import Derived.Test.YtkpbfnbdknlghaaWInv
import Derived.Test.YtkpbfnbdknlghaaWInvWords
import Derived.Test.YtkpbfnbdknlghaaWGuard
import Derived.Test.YtkpbfnbdknlghaaWNEv
import Derived.Test.YtkpbfnbdknlghaaWMore
namespace Go.Proofs.Ytkpbfnbdknlghaa.PFnExactPacketRead
open Go.RowKit Go.Proofs.YtkpbfnbdknlghaaW.PrintWords Go.Proofs.YtkpbfnbdknlghaaW.PrintLast Go.Proofs.YtkpbfnbdknlghaaW.PrintMore
attribute [local go_sem] max2_int min2_int max_two min_two max_three min_three max_four min_four   -- for this text's walks alone
set_option linter.unusedVariables false
set_option linter.unusedSimpArgs false



def errW : Option Int → Value
  | none => .nilIface
  | some c => .iface 0 (.int .i64 c)
theorem errW_none : errW none = .nilIface := rfl
theorem errW_some (c : Int) : errW (some c) = .iface 0 (.int .i64 c) := rfl

theorem info5 : (Try.prog.info? 5).map (fun i => (i.zero, i.size, i.bytes)) = some (some (.int .u8 0), 1, 1) := by kernel_rfl
-- the values' own types

end Go.Proofs.Ytkpbfnbdknlghaa.PFnExactPacketRead
