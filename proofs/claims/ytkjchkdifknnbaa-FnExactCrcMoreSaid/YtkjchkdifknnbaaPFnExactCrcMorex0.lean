-- Written by a program of this session (wip/ep), out of the translation. Lean checks it.
import Derived.Test.YtkjchkdifknnbaaProg
import Derived.Below
import Derived.Deep.Draws
import Derived.Deep.AppendLies
import Derived.Maps.AppendAt
import Derived.OwnWalk
import Derived.Laws.BytesArg
import Derived.Laws.MakeOwn
import Derived.Laws.OwnMore
import Derived.Deep.OwnRows
import Derived.Tactics
import Derived.Lib.ConvBytes
import Derived.Laws.Slices
import Derived.WalkKit
import Derived.KernelRfl
import Derived.RowKit3
import Derived.Deep.LoopGhost
import Derived.Deep.QuietTactic
import Derived.BigQuiet
import Derived.WideLaws
import Derived.Deep.DeepCutAuto
import Derived.Deep.CutBlock
import Derived.Deep.RegionHeld3
import Derived.Laws.Rows
import Derived.Lib.AppendStr
import Derived.ArgAppend
import Derived.Laws.IdiomCopy
import Derived.OrdersHeld
import Derived.Laws.BitsLemmas
import Derived.RowKit
import Derived.Test.YtkjchkdifknnbaaWWords
import Derived.Test.YtkjchkdifknnbaaWLast
import Derived.Test.YtkjchkdifknnbaaWTab
import Derived.Test.YtkjchkdifknnbaaWFour
import Derived.Test.YtkjchkdifknnbaaWQPut
import Derived.Test.YtkjchkdifknnbaaWApart
import Derived.Test.YtkjchkdifknnbaaWArr
import Derived.Test.YtkjchkdifknnbaaWZeros
import Derived.Test.YtkjchkdifknnbaaWFoot
import Derived.Test.YtkjchkdifknnbaaWKept
import Derived.Test.YtkjchkdifknnbaaWShare
import Derived.Test.YtkjchkdifknnbaaWN
import Derived.Test.YtkjchkdifknnbaaWFootNe
import Derived.Test.YtkjchkdifknnbaaWAt
import Derived.Test.YtkjchkdifknnbaaWEqStruct
import Derived.Test.YtkjchkdifknnbaaWRepsOne
import Derived.Test.YtkjchkdifknnbaaWInv
import Derived.Test.YtkjchkdifknnbaaWInvWords
import Derived.Test.YtkjchkdifknnbaaWGuard
import Derived.Test.YtkjchkdifknnbaaWNEv
import Derived.Test.YtkjchkdifknnbaaWMore
namespace Go.Proofs.Ytkjchkdifknnbaa.PFnExactCrcMore
open Go.RowKit Go.Proofs.YtkjchkdifknnbaaW.PrintWords Go.Proofs.YtkjchkdifknnbaaW.PrintLast Go.Proofs.YtkjchkdifknnbaaW.PrintMore
attribute [local go_sem] max2_int min2_int max_two min_two max_three min_three max_four min_four   -- for this text's walks alone
set_option linter.unusedVariables false
set_option linter.unusedSimpArgs false



def errW : Option Int → Value
  | none => .nilIface
  | some c => .iface 0 (.int .i64 c)
theorem errW_none : errW none = .nilIface := rfl
theorem errW_some (c : Int) : errW (some c) = .iface 0 (.int .i64 c) := rfl

-- the values' own types

end Go.Proofs.Ytkjchkdifknnbaa.PFnExactCrcMore
