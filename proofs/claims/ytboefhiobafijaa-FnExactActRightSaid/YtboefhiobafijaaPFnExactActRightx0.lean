-- Written by a program of this session (wip/ep), out of the translation. Lean checks it.
import Derived.Test.YtboefhiobafijaaProg
import Derived.Below
import Derived.Deep.Draws
import Derived.Deep.AppendLies
import Derived.Maps.AppendAt
import Derived.OwnWalk
import Derived.Laws.BytesArg
import Derived.Laws.MakeOwn
import Derived.Laws.OwnMore
import Derived.Deep.OwnRows
import Derived.Tactics
import Derived.Lib.ConvBytes
import Derived.Laws.Slices
import Derived.WalkKit
import Derived.KernelRfl
import Derived.RowKit3
import Derived.Deep.LoopGhost
import Derived.Deep.QuietTactic
import Derived.BigQuiet
import Derived.WideLaws
import Derived.Deep.DeepCutAuto
import Derived.Deep.CutBlock
import Derived.Deep.RegionHeld3
import Derived.Laws.Rows
import Derived.Lib.AppendStr
import Derived.ArgAppend
import Derived.Laws.IdiomCopy
import Derived.OrdersHeld
import Derived.Laws.BitsLemmas
import Derived.RowKit
import Derived.Test.YtboefhiobafijaaWWords
import Derived.Test.YtboefhiobafijaaWLast
import Derived.Test.YtboefhiobafijaaWTab
import Derived.Test.YtboefhiobafijaaWFour
import Derived.Test.YtboefhiobafijaaWQPut
import Derived.Test.YtboefhiobafijaaWApart
import Derived.Test.YtboefhiobafijaaWArr
import Derived.Test.YtboefhiobafijaaWZeros
import Derived.Test.YtboefhiobafijaaWFoot
import Derived.Test.YtboefhiobafijaaWKept
import Derived.Test.YtboefhiobafijaaWShare
import Derived.Test.YtboefhiobafijaaWN
import Derived.Test.YtboefhiobafijaaWFootNe
import Derived.Test.YtboefhiobafijaaWAt
import Derived.Test.YtboefhiobafijaaWEqStruct
import Derived.Test.YtboefhiobafijaaWRepsOne
import Derived.Test.YtboefhiobafijaaWInv
import Derived.Test.YtboefhiobafijaaWInvWords
import Derived.Test.YtboefhiobafijaaWGuard
import Derived.Test.YtboefhiobafijaaWNEv
import Derived.Test.YtboefhiobafijaaWMore
namespace Go.Proofs.Ytboefhiobafijaa.PFnExactActRight
open Go.RowKit Go.Proofs.YtboefhiobafijaaW.PrintWords Go.Proofs.YtboefhiobafijaaW.PrintLast Go.Proofs.YtboefhiobafijaaW.PrintMore
attribute [local go_sem] max2_int min2_int max_two min_two max_three min_three max_four min_four   -- for this text's walks alone
set_option linter.unusedVariables false
set_option linter.unusedSimpArgs false



def errW : Option Int → Value
  | none => .nilIface
  | some c => .iface 0 (.int .i64 c)
theorem errW_none : errW none = .nilIface := rfl
theorem errW_some (c : Int) : errW (some c) = .iface 0 (.int .i64 c) := rfl

theorem info2 : (Try.prog.info? 2).map (fun i => (i.zero, i.size, i.bytes)) = some (some (.int .i64 0), 1, 8) := by kernel_rfl
-- the values' own types

end Go.Proofs.Ytboefhiobafijaa.PFnExactActRight
