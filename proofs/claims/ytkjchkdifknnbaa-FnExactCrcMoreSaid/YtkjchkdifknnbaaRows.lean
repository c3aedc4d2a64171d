/-
  No cell of these rows narrows 'for every input' (looked for: loops, veiled, ifaces, maps, wideKeys, modest, calm, conditions, laid).
  DERIVED. THE GIVEN ROWS OF THIS SEAT. 12 by the template 'for every input the law returns true; each argument reads behind the call as it read before'; 0 by the template 'total and deterministic' (their statements: YtkjchkdifknnbaaTotals.lean).
  GIVEN WITH THE SEED: the statements are not yours to turn. If you find one false, say at which input.
  Laid BY PROGRAM, IN A SANDBOX (cutbox-rows.mjs): the forced cells as the released guide's own fill.sh prints them over the translation 0a6ffb4218cd0d9a… (all of the seat's roots in one cut). By AI agents, Wed Nov 11 2026. No macro, syntax, notation, axiom, sorry.
-/
import Derived.Test.YtkjchkdifknnbaaChecked
import GoSem.Claim
import GoSem.ClaimJoined
import GoSem.ClaimMapViews
import Derived.JoinedTies
import Derived.KernelRfl
namespace Go.Proofs.Ytkjchkdifknnbaa
/- THE CELL 'sum', in the pinned program and in every row, IS THE sha256 OF THE DUMP (.gsa) THAT YtkjchkdifknnbaaProg.lean LOADS. Nothing in Lean hashes anything: it is a label: what it is worth is what the hold of that sum in a sandbox is worth. -/
noncomputable def Try.pinned : Pinned := { name := "ytkjchkdifknnbaa", sum := "0a6ffb4218cd0d9a78dfd641e89ed6910c120e88e44d5ed25c95dbf5e46b9241", checked := Try.checked }
namespace Rows
def none {H : Type} : Left H := { results := [], args := [] }

/-- 'laws.FnExactConstants': WHATEVER THE INPUT: true; the input reads as it did. -/
def fnExactConstantsSpec : ChangeSpec := { name := "fnExactConstants", fn := fun _ => fun
  | [] => { results := [.lit (.bool true)], args := [] }
  | _ => none }
def fnExactConstantsRow : OpenClaim := { program := "ytkjchkdifknnbaa", sum := "0a6ffb4218cd0d9a78dfd641e89ed6910c120e88e44d5ed25c95dbf5e46b9241", func := "loop.example/g00667/laws.FnExactConstants", spec := "fnExactConstants", apart := false }
def FnExactConstantsSaid : Prop := fnExactConstantsRow.holds Try.pinned (OpenSpec.ofChange fnExactConstantsSpec)

/-- ITS FALSE NEIGHBOUR: 'it returns false'. Refute it at one input. -/
def fnExactConstantsWrong : ChangeSpec := { name := "fnExactConstants", fn := fun _ => fun
  | [] => { results := [.lit (.bool false)], args := [] }
  | _ => none }
def FnExactConstantsWrongFalsely : Prop := fnExactConstantsRow.holds Try.pinned (OpenSpec.ofChange fnExactConstantsWrong)

/-- 'laws.FnExactIsGroup': WHATEVER THE INPUT: true; the input reads as it did. -/
def fnExactIsGroupSpec : ChangeSpec := { name := "fnExactIsGroup", fn := fun _ => fun
  | [d] => { results := [.lit (.bool true)], args := [d] }
  | _ => none }
def fnExactIsGroupRow : OpenClaim := { program := "ytkjchkdifknnbaa", sum := "0a6ffb4218cd0d9a78dfd641e89ed6910c120e88e44d5ed25c95dbf5e46b9241", func := "loop.example/g00667/laws.FnExactIsGroup", spec := "fnExactIsGroup", apart := false }
def FnExactIsGroupSaid : Prop := fnExactIsGroupRow.holds Try.pinned (OpenSpec.ofChange fnExactIsGroupSpec)

/-- ITS FALSE NEIGHBOUR: 'it returns false'. Refute it at one input. -/
def fnExactIsGroupWrong : ChangeSpec := { name := "fnExactIsGroup", fn := fun _ => fun
  | [d] => { results := [.lit (.bool false)], args := [d] }
  | _ => none }
def FnExactIsGroupWrongFalsely : Prop := fnExactIsGroupRow.holds Try.pinned (OpenSpec.ofChange fnExactIsGroupWrong)

/-- 'laws.FnExactRangeRight': WHATEVER THE INPUT: true; the input reads as it did. -/
def fnExactRangeRightSpec : ChangeSpec := { name := "fnExactRangeRight", fn := fun _ => fun
  | [d] => { results := [.lit (.bool true)], args := [d] }
  | _ => none }
def fnExactRangeRightRow : OpenClaim := { program := "ytkjchkdifknnbaa", sum := "0a6ffb4218cd0d9a78dfd641e89ed6910c120e88e44d5ed25c95dbf5e46b9241", func := "loop.example/g00667/laws.FnExactRangeRight", spec := "fnExactRangeRight", apart := false }
def FnExactRangeRightSaid : Prop := fnExactRangeRightRow.holds Try.pinned (OpenSpec.ofChange fnExactRangeRightSpec)

/-- ITS FALSE NEIGHBOUR: 'it returns false'. Refute it at one input. -/
def fnExactRangeRightWrong : ChangeSpec := { name := "fnExactRangeRight", fn := fun _ => fun
  | [d] => { results := [.lit (.bool false)], args := [d] }
  | _ => none }
def FnExactRangeRightWrongFalsely : Prop := fnExactRangeRightRow.holds Try.pinned (OpenSpec.ofChange fnExactRangeRightWrong)

/-- 'laws.FnExactPutNum': WHATEVER THE INPUT: true; the input reads as it did. -/
def fnExactPutNumSpec : ChangeSpec := { name := "fnExactPutNum", fn := fun _ => fun
  | [d] => { results := [.lit (.bool true)], args := [d] }
  | _ => none }
def fnExactPutNumRow : OpenClaim := { program := "ytkjchkdifknnbaa", sum := "0a6ffb4218cd0d9a78dfd641e89ed6910c120e88e44d5ed25c95dbf5e46b9241", func := "loop.example/g00667/laws.FnExactPutNum", spec := "fnExactPutNum", apart := false }
def FnExactPutNumSaid : Prop := fnExactPutNumRow.holds Try.pinned (OpenSpec.ofChange fnExactPutNumSpec)

/-- ITS FALSE NEIGHBOUR: 'it returns false'. Refute it at one input. -/
def fnExactPutNumWrong : ChangeSpec := { name := "fnExactPutNum", fn := fun _ => fun
  | [d] => { results := [.lit (.bool false)], args := [d] }
  | _ => none }
def FnExactPutNumWrongFalsely : Prop := fnExactPutNumRow.holds Try.pinned (OpenSpec.ofChange fnExactPutNumWrong)

/-- 'laws.FnExactCovers': WHATEVER THE INPUT: true; the input reads as it did. -/
def fnExactCoversSpec : ChangeSpec := { name := "fnExactCovers", fn := fun _ => fun
  | [d1, d2] => { results := [.lit (.bool true)], args := [d1, d2] }
  | _ => none }
def fnExactCoversRow : OpenClaim := { program := "ytkjchkdifknnbaa", sum := "0a6ffb4218cd0d9a78dfd641e89ed6910c120e88e44d5ed25c95dbf5e46b9241", func := "loop.example/g00667/laws.FnExactCovers", spec := "fnExactCovers", apart := false }
def FnExactCoversSaid : Prop := fnExactCoversRow.holds Try.pinned (OpenSpec.ofChange fnExactCoversSpec)

/-- ITS FALSE NEIGHBOUR: 'it returns false'. Refute it at one input. -/
def fnExactCoversWrong : ChangeSpec := { name := "fnExactCovers", fn := fun _ => fun
  | [d1, d2] => { results := [.lit (.bool false)], args := [d1, d2] }
  | _ => none }
def FnExactCoversWrongFalsely : Prop := fnExactCoversRow.holds Try.pinned (OpenSpec.ofChange fnExactCoversWrong)

/-- 'laws.FnExactPacketRight': WHATEVER THE INPUT: true; the input reads as it did. -/
def fnExactPacketRightSpec : ChangeSpec := { name := "fnExactPacketRight", fn := fun _ => fun
  | [d] => { results := [.lit (.bool true)], args := [d] }
  | _ => none }
def fnExactPacketRightRow : OpenClaim := { program := "ytkjchkdifknnbaa", sum := "0a6ffb4218cd0d9a78dfd641e89ed6910c120e88e44d5ed25c95dbf5e46b9241", func := "loop.example/g00667/laws.FnExactPacketRight", spec := "fnExactPacketRight", apart := false }
def FnExactPacketRightSaid : Prop := fnExactPacketRightRow.holds Try.pinned (OpenSpec.ofChange fnExactPacketRightSpec)

/-- ITS FALSE NEIGHBOUR: 'it returns false'. Refute it at one input. -/
def fnExactPacketRightWrong : ChangeSpec := { name := "fnExactPacketRight", fn := fun _ => fun
  | [d] => { results := [.lit (.bool false)], args := [d] }
  | _ => none }
def FnExactPacketRightWrongFalsely : Prop := fnExactPacketRightRow.holds Try.pinned (OpenSpec.ofChange fnExactPacketRightWrong)

/-- 'laws.FnExactVxBytes': WHATEVER THE INPUT: true; the input reads as it did. -/
def fnExactVxBytesSpec : ChangeSpec := { name := "fnExactVxBytes", fn := fun _ => fun
  | [d1, d2] => { results := [.lit (.bool true)], args := [d1, d2] }
  | _ => none }
def fnExactVxBytesRow : OpenClaim := { program := "ytkjchkdifknnbaa", sum := "0a6ffb4218cd0d9a78dfd641e89ed6910c120e88e44d5ed25c95dbf5e46b9241", func := "loop.example/g00667/laws.FnExactVxBytes", spec := "fnExactVxBytes", apart := false }
def FnExactVxBytesSaid : Prop := fnExactVxBytesRow.holds Try.pinned (OpenSpec.ofChange fnExactVxBytesSpec)

/-- ITS FALSE NEIGHBOUR: 'it returns false'. Refute it at one input. -/
def fnExactVxBytesWrong : ChangeSpec := { name := "fnExactVxBytes", fn := fun _ => fun
  | [d1, d2] => { results := [.lit (.bool false)], args := [d1, d2] }
  | _ => none }
def FnExactVxBytesWrongFalsely : Prop := fnExactVxBytesRow.holds Try.pinned (OpenSpec.ofChange fnExactVxBytesWrong)

/-- 'laws.FnExactPutText': WHATEVER THE INPUT: true; the input reads as it did. -/
def fnExactPutTextSpec : ChangeSpec := { name := "fnExactPutText", fn := fun _ => fun
  | [d] => { results := [.lit (.bool true)], args := [d] }
  | _ => none }
def fnExactPutTextRow : OpenClaim := { program := "ytkjchkdifknnbaa", sum := "0a6ffb4218cd0d9a78dfd641e89ed6910c120e88e44d5ed25c95dbf5e46b9241", func := "loop.example/g00667/laws.FnExactPutText", spec := "fnExactPutText", apart := false }
def FnExactPutTextSaid : Prop := fnExactPutTextRow.holds Try.pinned (OpenSpec.ofChange fnExactPutTextSpec)

/-- ITS FALSE NEIGHBOUR: 'it returns false'. Refute it at one input. -/
def fnExactPutTextWrong : ChangeSpec := { name := "fnExactPutText", fn := fun _ => fun
  | [d] => { results := [.lit (.bool false)], args := [d] }
  | _ => none }
def FnExactPutTextWrongFalsely : Prop := fnExactPutTextRow.holds Try.pinned (OpenSpec.ofChange fnExactPutTextWrong)

/-- 'laws.FnExactCrcMore': WHATEVER THE INPUT: true; the input reads as it did. -/
def fnExactCrcMoreSpec : ChangeSpec := { name := "fnExactCrcMore", fn := fun _ => fun
  | [d1, d2] => { results := [.lit (.bool true)], args := [d1, d2] }
  | _ => none }
def fnExactCrcMoreRow : OpenClaim := { program := "ytkjchkdifknnbaa", sum := "0a6ffb4218cd0d9a78dfd641e89ed6910c120e88e44d5ed25c95dbf5e46b9241", func := "loop.example/g00667/laws.FnExactCrcMore", spec := "fnExactCrcMore", apart := false }
def FnExactCrcMoreSaid : Prop := fnExactCrcMoreRow.holds Try.pinned (OpenSpec.ofChange fnExactCrcMoreSpec)

/-- ITS FALSE NEIGHBOUR: 'it returns false'. Refute it at one input. -/
def fnExactCrcMoreWrong : ChangeSpec := { name := "fnExactCrcMore", fn := fun _ => fun
  | [d1, d2] => { results := [.lit (.bool false)], args := [d1, d2] }
  | _ => none }
def FnExactCrcMoreWrongFalsely : Prop := fnExactCrcMoreRow.holds Try.pinned (OpenSpec.ofChange fnExactCrcMoreWrong)

/-- 'laws.FnExactCrc': WHATEVER THE INPUT: true; the input reads as it did. -/
def fnExactCrcSpec : ChangeSpec := { name := "fnExactCrc", fn := fun _ => fun
  | [d] => { results := [.lit (.bool true)], args := [d] }
  | _ => none }
def fnExactCrcRow : OpenClaim := { program := "ytkjchkdifknnbaa", sum := "0a6ffb4218cd0d9a78dfd641e89ed6910c120e88e44d5ed25c95dbf5e46b9241", func := "loop.example/g00667/laws.FnExactCrc", spec := "fnExactCrc", apart := false }
def FnExactCrcSaid : Prop := fnExactCrcRow.holds Try.pinned (OpenSpec.ofChange fnExactCrcSpec)

/-- ITS FALSE NEIGHBOUR: 'it returns false'. Refute it at one input. -/
def fnExactCrcWrong : ChangeSpec := { name := "fnExactCrc", fn := fun _ => fun
  | [d] => { results := [.lit (.bool false)], args := [d] }
  | _ => none }
def FnExactCrcWrongFalsely : Prop := fnExactCrcRow.holds Try.pinned (OpenSpec.ofChange fnExactCrcWrong)

/-- 'laws.FnExactKeyOf': WHATEVER THE INPUT: true; the input reads as it did. -/
def fnExactKeyOfSpec : ChangeSpec := { name := "fnExactKeyOf", fn := fun _ => fun
  | [d] => { results := [.lit (.bool true)], args := [d] }
  | _ => none }
def fnExactKeyOfRow : OpenClaim := { program := "ytkjchkdifknnbaa", sum := "0a6ffb4218cd0d9a78dfd641e89ed6910c120e88e44d5ed25c95dbf5e46b9241", func := "loop.example/g00667/laws.FnExactKeyOf", spec := "fnExactKeyOf", apart := false }
def FnExactKeyOfSaid : Prop := fnExactKeyOfRow.holds Try.pinned (OpenSpec.ofChange fnExactKeyOfSpec)

/-- ITS FALSE NEIGHBOUR: 'it returns false'. Refute it at one input. -/
def fnExactKeyOfWrong : ChangeSpec := { name := "fnExactKeyOf", fn := fun _ => fun
  | [d] => { results := [.lit (.bool false)], args := [d] }
  | _ => none }
def FnExactKeyOfWrongFalsely : Prop := fnExactKeyOfRow.holds Try.pinned (OpenSpec.ofChange fnExactKeyOfWrong)

/-- 'laws.FnExactRouteRight': WHATEVER THE INPUT: true; the input reads as it did. -/
def fnExactRouteRightSpec : ChangeSpec := { name := "fnExactRouteRight", fn := fun _ => fun
  | [d] => { results := [.lit (.bool true)], args := [d] }
  | _ => none }
def fnExactRouteRightRow : OpenClaim := { program := "ytkjchkdifknnbaa", sum := "0a6ffb4218cd0d9a78dfd641e89ed6910c120e88e44d5ed25c95dbf5e46b9241", func := "loop.example/g00667/laws.FnExactRouteRight", spec := "fnExactRouteRight", apart := false }
def FnExactRouteRightSaid : Prop := fnExactRouteRightRow.holds Try.pinned (OpenSpec.ofChange fnExactRouteRightSpec)

/-- ITS FALSE NEIGHBOUR: 'it returns false'. Refute it at one input. -/
def fnExactRouteRightWrong : ChangeSpec := { name := "fnExactRouteRight", fn := fun _ => fun
  | [d] => { results := [.lit (.bool false)], args := [d] }
  | _ => none }
def FnExactRouteRightWrongFalsely : Prop := fnExactRouteRightRow.holds Try.pinned (OpenSpec.ofChange fnExactRouteRightWrong)

/- THE SECOND FORM. 'bulk': how many values and letters a reading holds, each counted each time it is reached (what is shared counts as often as it is met; a slice's spare places count too). A statement '..UptoSaid' is the law's where the arguments, and the package variables that the reading takes, are together of bulk at most 1048576: NARROWER than '..Said'. Prove '..Said' where nothing that the law and all that it calls make is longer than what came in: it says more and counts as full. Else prove '..UptoSaid'. A law counts once. -/
mutual
def uptoBulk {H : Type} : DataW H → Nat
  | .lit (.string bytes) => bytes.length + 1
  | .lit _ => 1
  | .nil => 1
  | .ptr d => uptoBulk d + 1
  | .slice elems spare => uptoBulkAll elems + uptoBulkAll spare + 1
  | .agg parts => uptoBulkAll parts + 1
  | .iface _ d => uptoBulk d + 1
  | .map entries => uptoBulkEntries entries + 1
  | .held _ => 1
def uptoBulkAll {H : Type} : List (DataW H) → Nat
  | [] => 0
  | d :: r => uptoBulk d + uptoBulkAll r
def uptoBulkEntries {H : Type} : List (Lit × DataW H) → Nat
  | [] => 0
  | x :: r => uptoBulkEntry x + uptoBulkEntries r
def uptoBulkEntry {H : Type} : Lit × DataW H → Nat
  | (.string bytes, d) => bytes.length + uptoBulk d + 1
  | (_, d) => uptoBulk d + 1
 end
def uptoSmall : (H : Type) → List (DataW H) → Bool := fun _ ds => decide (uptoBulkAll ds ≤ 1048576)
def OpenSpec.upto (s : _root_.Go.ChangeSpec) : _root_.Go.OpenSpec := { _root_.Go.OpenSpec.ofChange s with cond := some uptoSmall }

/-- 'laws.FnExactConstants', WHERE WHAT IT READS IS OF BULK AT MOST 1048576: true; the input reads as it did. -/
def fnExactConstantsUptoRow : OpenClaim := { program := "ytkjchkdifknnbaa", sum := "0a6ffb4218cd0d9a78dfd641e89ed6910c120e88e44d5ed25c95dbf5e46b9241", func := "loop.example/g00667/laws.FnExactConstants", spec := "fnExactConstants", apart := false, narrowed := true }
def FnExactConstantsUptoSaid : Prop := fnExactConstantsUptoRow.holds Try.pinned (OpenSpec.upto fnExactConstantsSpec)

/-- 'laws.FnExactIsGroup', WHERE WHAT IT READS IS OF BULK AT MOST 1048576: true; the input reads as it did. -/
def fnExactIsGroupUptoRow : OpenClaim := { program := "ytkjchkdifknnbaa", sum := "0a6ffb4218cd0d9a78dfd641e89ed6910c120e88e44d5ed25c95dbf5e46b9241", func := "loop.example/g00667/laws.FnExactIsGroup", spec := "fnExactIsGroup", apart := false, narrowed := true }
def FnExactIsGroupUptoSaid : Prop := fnExactIsGroupUptoRow.holds Try.pinned (OpenSpec.upto fnExactIsGroupSpec)

/-- 'laws.FnExactRangeRight', WHERE WHAT IT READS IS OF BULK AT MOST 1048576: true; the input reads as it did. -/
def fnExactRangeRightUptoRow : OpenClaim := { program := "ytkjchkdifknnbaa", sum := "0a6ffb4218cd0d9a78dfd641e89ed6910c120e88e44d5ed25c95dbf5e46b9241", func := "loop.example/g00667/laws.FnExactRangeRight", spec := "fnExactRangeRight", apart := false, narrowed := true }
def FnExactRangeRightUptoSaid : Prop := fnExactRangeRightUptoRow.holds Try.pinned (OpenSpec.upto fnExactRangeRightSpec)

/-- 'laws.FnExactPutNum', WHERE WHAT IT READS IS OF BULK AT MOST 1048576: true; the input reads as it did. -/
def fnExactPutNumUptoRow : OpenClaim := { program := "ytkjchkdifknnbaa", sum := "0a6ffb4218cd0d9a78dfd641e89ed6910c120e88e44d5ed25c95dbf5e46b9241", func := "loop.example/g00667/laws.FnExactPutNum", spec := "fnExactPutNum", apart := false, narrowed := true }
def FnExactPutNumUptoSaid : Prop := fnExactPutNumUptoRow.holds Try.pinned (OpenSpec.upto fnExactPutNumSpec)

/-- 'laws.FnExactCovers', WHERE WHAT IT READS IS OF BULK AT MOST 1048576: true; the input reads as it did. -/
def fnExactCoversUptoRow : OpenClaim := { program := "ytkjchkdifknnbaa", sum := "0a6ffb4218cd0d9a78dfd641e89ed6910c120e88e44d5ed25c95dbf5e46b9241", func := "loop.example/g00667/laws.FnExactCovers", spec := "fnExactCovers", apart := false, narrowed := true }
def FnExactCoversUptoSaid : Prop := fnExactCoversUptoRow.holds Try.pinned (OpenSpec.upto fnExactCoversSpec)

/-- 'laws.FnExactPacketRight', WHERE WHAT IT READS IS OF BULK AT MOST 1048576: true; the input reads as it did. -/
def fnExactPacketRightUptoRow : OpenClaim := { program := "ytkjchkdifknnbaa", sum := "0a6ffb4218cd0d9a78dfd641e89ed6910c120e88e44d5ed25c95dbf5e46b9241", func := "loop.example/g00667/laws.FnExactPacketRight", spec := "fnExactPacketRight", apart := false, narrowed := true }
def FnExactPacketRightUptoSaid : Prop := fnExactPacketRightUptoRow.holds Try.pinned (OpenSpec.upto fnExactPacketRightSpec)

/-- 'laws.FnExactVxBytes', WHERE WHAT IT READS IS OF BULK AT MOST 1048576: true; the input reads as it did. -/
def fnExactVxBytesUptoRow : OpenClaim := { program := "ytkjchkdifknnbaa", sum := "0a6ffb4218cd0d9a78dfd641e89ed6910c120e88e44d5ed25c95dbf5e46b9241", func := "loop.example/g00667/laws.FnExactVxBytes", spec := "fnExactVxBytes", apart := false, narrowed := true }
def FnExactVxBytesUptoSaid : Prop := fnExactVxBytesUptoRow.holds Try.pinned (OpenSpec.upto fnExactVxBytesSpec)

/-- 'laws.FnExactPutText', WHERE WHAT IT READS IS OF BULK AT MOST 1048576: true; the input reads as it did. -/
def fnExactPutTextUptoRow : OpenClaim := { program := "ytkjchkdifknnbaa", sum := "0a6ffb4218cd0d9a78dfd641e89ed6910c120e88e44d5ed25c95dbf5e46b9241", func := "loop.example/g00667/laws.FnExactPutText", spec := "fnExactPutText", apart := false, narrowed := true }
def FnExactPutTextUptoSaid : Prop := fnExactPutTextUptoRow.holds Try.pinned (OpenSpec.upto fnExactPutTextSpec)

/-- 'laws.FnExactCrcMore', WHERE WHAT IT READS IS OF BULK AT MOST 1048576: true; the input reads as it did. -/
def fnExactCrcMoreUptoRow : OpenClaim := { program := "ytkjchkdifknnbaa", sum := "0a6ffb4218cd0d9a78dfd641e89ed6910c120e88e44d5ed25c95dbf5e46b9241", func := "loop.example/g00667/laws.FnExactCrcMore", spec := "fnExactCrcMore", apart := false, narrowed := true }
def FnExactCrcMoreUptoSaid : Prop := fnExactCrcMoreUptoRow.holds Try.pinned (OpenSpec.upto fnExactCrcMoreSpec)

/-- 'laws.FnExactCrc', WHERE WHAT IT READS IS OF BULK AT MOST 1048576: true; the input reads as it did. -/
def fnExactCrcUptoRow : OpenClaim := { program := "ytkjchkdifknnbaa", sum := "0a6ffb4218cd0d9a78dfd641e89ed6910c120e88e44d5ed25c95dbf5e46b9241", func := "loop.example/g00667/laws.FnExactCrc", spec := "fnExactCrc", apart := false, narrowed := true }
def FnExactCrcUptoSaid : Prop := fnExactCrcUptoRow.holds Try.pinned (OpenSpec.upto fnExactCrcSpec)

/-- 'laws.FnExactKeyOf', WHERE WHAT IT READS IS OF BULK AT MOST 1048576: true; the input reads as it did. -/
def fnExactKeyOfUptoRow : OpenClaim := { program := "ytkjchkdifknnbaa", sum := "0a6ffb4218cd0d9a78dfd641e89ed6910c120e88e44d5ed25c95dbf5e46b9241", func := "loop.example/g00667/laws.FnExactKeyOf", spec := "fnExactKeyOf", apart := false, narrowed := true }
def FnExactKeyOfUptoSaid : Prop := fnExactKeyOfUptoRow.holds Try.pinned (OpenSpec.upto fnExactKeyOfSpec)

/-- 'laws.FnExactRouteRight', WHERE WHAT IT READS IS OF BULK AT MOST 1048576: true; the input reads as it did. -/
def fnExactRouteRightUptoRow : OpenClaim := { program := "ytkjchkdifknnbaa", sum := "0a6ffb4218cd0d9a78dfd641e89ed6910c120e88e44d5ed25c95dbf5e46b9241", func := "loop.example/g00667/laws.FnExactRouteRight", spec := "fnExactRouteRight", apart := false, narrowed := true }
def FnExactRouteRightUptoSaid : Prop := fnExactRouteRightUptoRow.holds Try.pinned (OpenSpec.upto fnExactRouteRightSpec)

end Rows
end Go.Proofs.Ytkjchkdifknnbaa
