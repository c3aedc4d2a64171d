/-
  No cell of these rows narrows 'for every input' (looked for: loops, veiled, ifaces, maps, wideKeys, modest, calm, conditions, laid).
  DERIVED. THE GIVEN ROWS OF THIS SEAT. 12 by the template 'for every input the law returns true; each argument reads behind the call as it read before'; 0 by the template 'total and deterministic' (their statements: YtboefhiobafijaaTotals.lean).
  GIVEN WITH THE SEED: the statements are not yours to turn. If you find one false, say at which input.
  Laid BY PROGRAM, IN A SANDBOX (cutbox-rows.mjs): the forced cells as the released guide's own fill.sh prints them over the translation 8aeae171ac299784… (all of the seat's roots in one cut). By AI agents, Wed Nov 11 2026. No macro, syntax, notation, axiom, sorry.
-/
import Derived.Test.YtboefhiobafijaaChecked
import GoSem.Claim
import GoSem.ClaimJoined
import GoSem.ClaimMapViews
import Derived.JoinedTies
import Derived.KernelRfl
namespace Go.Proofs.Ytboefhiobafijaa
/- THE CELL 'sum', in the pinned program and in every row, IS THE sha256 OF THE DUMP (.gsa) THAT YtboefhiobafijaaProg.lean LOADS. Nothing in Lean hashes anything: it is a label: what it is worth is what the hold of that sum in a sandbox is worth. -/
noncomputable def Try.pinned : Pinned := { name := "ytboefhiobafijaa", sum := "8aeae171ac299784dcc589eca9f97888a5ca320f3d7785ffe9f6791877c80d56", checked := Try.checked }
namespace Rows
def none {H : Type} : Left H := { results := [], args := [] }

/-- 'laws.FnExactSeal': WHATEVER THE INPUT: true; the input reads as it did. -/
def fnExactSealSpec : ChangeSpec := { name := "fnExactSeal", fn := fun _ => fun
  | [d] => { results := [.lit (.bool true)], args := [d] }
  | _ => none }
def fnExactSealRow : OpenClaim := { program := "ytboefhiobafijaa", sum := "8aeae171ac299784dcc589eca9f97888a5ca320f3d7785ffe9f6791877c80d56", func := "loop.example/g00667/laws.FnExactSeal", spec := "fnExactSeal", apart := false }
def FnExactSealSaid : Prop := fnExactSealRow.holds Try.pinned (OpenSpec.ofChange fnExactSealSpec)

/-- ITS FALSE NEIGHBOUR: 'it returns false'. Refute it at one input. -/
def fnExactSealWrong : ChangeSpec := { name := "fnExactSeal", fn := fun _ => fun
  | [d] => { results := [.lit (.bool false)], args := [d] }
  | _ => none }
def FnExactSealWrongFalsely : Prop := fnExactSealRow.holds Try.pinned (OpenSpec.ofChange fnExactSealWrong)

/-- 'laws.FnExactEthRead': WHATEVER THE INPUT: true; the input reads as it did. -/
def fnExactEthReadSpec : ChangeSpec := { name := "fnExactEthRead", fn := fun _ => fun
  | [d] => { results := [.lit (.bool true)], args := [d] }
  | _ => none }
def fnExactEthReadRow : OpenClaim := { program := "ytboefhiobafijaa", sum := "8aeae171ac299784dcc589eca9f97888a5ca320f3d7785ffe9f6791877c80d56", func := "loop.example/g00667/laws.FnExactEthRead", spec := "fnExactEthRead", apart := false }
def FnExactEthReadSaid : Prop := fnExactEthReadRow.holds Try.pinned (OpenSpec.ofChange fnExactEthReadSpec)

/-- ITS FALSE NEIGHBOUR: 'it returns false'. Refute it at one input. -/
def fnExactEthReadWrong : ChangeSpec := { name := "fnExactEthRead", fn := fun _ => fun
  | [d] => { results := [.lit (.bool false)], args := [d] }
  | _ => none }
def FnExactEthReadWrongFalsely : Prop := fnExactEthReadRow.holds Try.pinned (OpenSpec.ofChange fnExactEthReadWrong)

/-- 'laws.FnExactBetter': WHATEVER THE INPUT: true; the input reads as it did. -/
def fnExactBetterSpec : ChangeSpec := { name := "fnExactBetter", fn := fun _ => fun
  | [d1, d2] => { results := [.lit (.bool true)], args := [d1, d2] }
  | _ => none }
def fnExactBetterRow : OpenClaim := { program := "ytboefhiobafijaa", sum := "8aeae171ac299784dcc589eca9f97888a5ca320f3d7785ffe9f6791877c80d56", func := "loop.example/g00667/laws.FnExactBetter", spec := "fnExactBetter", apart := false }
def FnExactBetterSaid : Prop := fnExactBetterRow.holds Try.pinned (OpenSpec.ofChange fnExactBetterSpec)

/-- ITS FALSE NEIGHBOUR: 'it returns false'. Refute it at one input. -/
def fnExactBetterWrong : ChangeSpec := { name := "fnExactBetter", fn := fun _ => fun
  | [d1, d2] => { results := [.lit (.bool false)], args := [d1, d2] }
  | _ => none }
def FnExactBetterWrongFalsely : Prop := fnExactBetterRow.holds Try.pinned (OpenSpec.ofChange fnExactBetterWrong)

/-- 'laws.FnExactUnseal': WHATEVER THE INPUT: true; the input reads as it did. -/
def fnExactUnsealSpec : ChangeSpec := { name := "fnExactUnseal", fn := fun _ => fun
  | [d] => { results := [.lit (.bool true)], args := [d] }
  | _ => none }
def fnExactUnsealRow : OpenClaim := { program := "ytboefhiobafijaa", sum := "8aeae171ac299784dcc589eca9f97888a5ca320f3d7785ffe9f6791877c80d56", func := "loop.example/g00667/laws.FnExactUnseal", spec := "fnExactUnseal", apart := false }
def FnExactUnsealSaid : Prop := fnExactUnsealRow.holds Try.pinned (OpenSpec.ofChange fnExactUnsealSpec)

/-- ITS FALSE NEIGHBOUR: 'it returns false'. Refute it at one input. -/
def fnExactUnsealWrong : ChangeSpec := { name := "fnExactUnseal", fn := fun _ => fun
  | [d] => { results := [.lit (.bool false)], args := [d] }
  | _ => none }
def FnExactUnsealWrongFalsely : Prop := fnExactUnsealRow.holds Try.pinned (OpenSpec.ofChange fnExactUnsealWrong)

/-- 'laws.FnExactGetNum': WHATEVER THE INPUT: true; the input reads as it did. -/
def fnExactGetNumSpec : ChangeSpec := { name := "fnExactGetNum", fn := fun _ => fun
  | [d1, d2] => { results := [.lit (.bool true)], args := [d1, d2] }
  | _ => none }
def fnExactGetNumRow : OpenClaim := { program := "ytboefhiobafijaa", sum := "8aeae171ac299784dcc589eca9f97888a5ca320f3d7785ffe9f6791877c80d56", func := "loop.example/g00667/laws.FnExactGetNum", spec := "fnExactGetNum", apart := false }
def FnExactGetNumSaid : Prop := fnExactGetNumRow.holds Try.pinned (OpenSpec.ofChange fnExactGetNumSpec)

/-- ITS FALSE NEIGHBOUR: 'it returns false'. Refute it at one input. -/
def fnExactGetNumWrong : ChangeSpec := { name := "fnExactGetNum", fn := fun _ => fun
  | [d1, d2] => { results := [.lit (.bool false)], args := [d1, d2] }
  | _ => none }
def FnExactGetNumWrongFalsely : Prop := fnExactGetNumRow.holds Try.pinned (OpenSpec.ofChange fnExactGetNumWrong)

/-- 'laws.FnExactNoteRight': WHATEVER THE INPUT: true; the input reads as it did. -/
def fnExactNoteRightSpec : ChangeSpec := { name := "fnExactNoteRight", fn := fun _ => fun
  | [d] => { results := [.lit (.bool true)], args := [d] }
  | _ => none }
def fnExactNoteRightRow : OpenClaim := { program := "ytboefhiobafijaa", sum := "8aeae171ac299784dcc589eca9f97888a5ca320f3d7785ffe9f6791877c80d56", func := "loop.example/g00667/laws.FnExactNoteRight", spec := "fnExactNoteRight", apart := false }
def FnExactNoteRightSaid : Prop := fnExactNoteRightRow.holds Try.pinned (OpenSpec.ofChange fnExactNoteRightSpec)

/-- ITS FALSE NEIGHBOUR: 'it returns false'. Refute it at one input. -/
def fnExactNoteRightWrong : ChangeSpec := { name := "fnExactNoteRight", fn := fun _ => fun
  | [d] => { results := [.lit (.bool false)], args := [d] }
  | _ => none }
def FnExactNoteRightWrongFalsely : Prop := fnExactNoteRightRow.holds Try.pinned (OpenSpec.ofChange fnExactNoteRightWrong)

/-- 'laws.FnExactVxRead': WHATEVER THE INPUT: true; the input reads as it did. -/
def fnExactVxReadSpec : ChangeSpec := { name := "fnExactVxRead", fn := fun _ => fun
  | [d] => { results := [.lit (.bool true)], args := [d] }
  | _ => none }
def fnExactVxReadRow : OpenClaim := { program := "ytboefhiobafijaa", sum := "8aeae171ac299784dcc589eca9f97888a5ca320f3d7785ffe9f6791877c80d56", func := "loop.example/g00667/laws.FnExactVxRead", spec := "fnExactVxRead", apart := false }
def FnExactVxReadSaid : Prop := fnExactVxReadRow.holds Try.pinned (OpenSpec.ofChange fnExactVxReadSpec)

/-- ITS FALSE NEIGHBOUR: 'it returns false'. Refute it at one input. -/
def fnExactVxReadWrong : ChangeSpec := { name := "fnExactVxRead", fn := fun _ => fun
  | [d] => { results := [.lit (.bool false)], args := [d] }
  | _ => none }
def FnExactVxReadWrongFalsely : Prop := fnExactVxReadRow.holds Try.pinned (OpenSpec.ofChange fnExactVxReadWrong)

/-- 'laws.FnExactRouteBytes': WHATEVER THE INPUT: true; the input reads as it did. -/
def fnExactRouteBytesSpec : ChangeSpec := { name := "fnExactRouteBytes", fn := fun _ => fun
  | [d] => { results := [.lit (.bool true)], args := [d] }
  | _ => none }
def fnExactRouteBytesRow : OpenClaim := { program := "ytboefhiobafijaa", sum := "8aeae171ac299784dcc589eca9f97888a5ca320f3d7785ffe9f6791877c80d56", func := "loop.example/g00667/laws.FnExactRouteBytes", spec := "fnExactRouteBytes", apart := false }
def FnExactRouteBytesSaid : Prop := fnExactRouteBytesRow.holds Try.pinned (OpenSpec.ofChange fnExactRouteBytesSpec)

/-- ITS FALSE NEIGHBOUR: 'it returns false'. Refute it at one input. -/
def fnExactRouteBytesWrong : ChangeSpec := { name := "fnExactRouteBytes", fn := fun _ => fun
  | [d] => { results := [.lit (.bool false)], args := [d] }
  | _ => none }
def FnExactRouteBytesWrongFalsely : Prop := fnExactRouteBytesRow.holds Try.pinned (OpenSpec.ofChange fnExactRouteBytesWrong)

/-- 'laws.FnExactPipeRight': WHATEVER THE INPUT: true; the input reads as it did. -/
def fnExactPipeRightSpec : ChangeSpec := { name := "fnExactPipeRight", fn := fun _ => fun
  | [d] => { results := [.lit (.bool true)], args := [d] }
  | _ => none }
def fnExactPipeRightRow : OpenClaim := { program := "ytboefhiobafijaa", sum := "8aeae171ac299784dcc589eca9f97888a5ca320f3d7785ffe9f6791877c80d56", func := "loop.example/g00667/laws.FnExactPipeRight", spec := "fnExactPipeRight", unfollowed := true, recurses := true, apart := false }
def FnExactPipeRightSaid : Prop := fnExactPipeRightRow.holds Try.pinned (OpenSpec.ofChange fnExactPipeRightSpec)

/-- ITS FALSE NEIGHBOUR: 'it returns false'. Refute it at one input. -/
def fnExactPipeRightWrong : ChangeSpec := { name := "fnExactPipeRight", fn := fun _ => fun
  | [d] => { results := [.lit (.bool false)], args := [d] }
  | _ => none }
def FnExactPipeRightWrongFalsely : Prop := fnExactPipeRightRow.holds Try.pinned (OpenSpec.ofChange fnExactPipeRightWrong)

/-- 'laws.FnExactGetText': WHATEVER THE INPUT: true; the input reads as it did. -/
def fnExactGetTextSpec : ChangeSpec := { name := "fnExactGetText", fn := fun _ => fun
  | [d1, d2] => { results := [.lit (.bool true)], args := [d1, d2] }
  | _ => none }
def fnExactGetTextRow : OpenClaim := { program := "ytboefhiobafijaa", sum := "8aeae171ac299784dcc589eca9f97888a5ca320f3d7785ffe9f6791877c80d56", func := "loop.example/g00667/laws.FnExactGetText", spec := "fnExactGetText", apart := false }
def FnExactGetTextSaid : Prop := fnExactGetTextRow.holds Try.pinned (OpenSpec.ofChange fnExactGetTextSpec)

/-- ITS FALSE NEIGHBOUR: 'it returns false'. Refute it at one input. -/
def fnExactGetTextWrong : ChangeSpec := { name := "fnExactGetText", fn := fun _ => fun
  | [d1, d2] => { results := [.lit (.bool false)], args := [d1, d2] }
  | _ => none }
def FnExactGetTextWrongFalsely : Prop := fnExactGetTextRow.holds Try.pinned (OpenSpec.ofChange fnExactGetTextWrong)

/-- 'laws.FnExactActRight': WHATEVER THE INPUT: true; the input reads as it did. -/
def fnExactActRightSpec : ChangeSpec := { name := "fnExactActRight", fn := fun _ => fun
  | [d] => { results := [.lit (.bool true)], args := [d] }
  | _ => none }
def fnExactActRightRow : OpenClaim := { program := "ytboefhiobafijaa", sum := "8aeae171ac299784dcc589eca9f97888a5ca320f3d7785ffe9f6791877c80d56", func := "loop.example/g00667/laws.FnExactActRight", spec := "fnExactActRight", unfollowed := true, recurses := true, apart := false }
def FnExactActRightSaid : Prop := fnExactActRightRow.holds Try.pinned (OpenSpec.ofChange fnExactActRightSpec)

/-- ITS FALSE NEIGHBOUR: 'it returns false'. Refute it at one input. -/
def fnExactActRightWrong : ChangeSpec := { name := "fnExactActRight", fn := fun _ => fun
  | [d] => { results := [.lit (.bool false)], args := [d] }
  | _ => none }
def FnExactActRightWrongFalsely : Prop := fnExactActRightRow.holds Try.pinned (OpenSpec.ofChange fnExactActRightWrong)

/-- 'laws.FnExactRangesRight': WHATEVER THE INPUT: true; the input reads as it did. -/
def fnExactRangesRightSpec : ChangeSpec := { name := "fnExactRangesRight", fn := fun _ => fun
  | [d] => { results := [.lit (.bool true)], args := [d] }
  | _ => none }
def fnExactRangesRightRow : OpenClaim := { program := "ytboefhiobafijaa", sum := "8aeae171ac299784dcc589eca9f97888a5ca320f3d7785ffe9f6791877c80d56", func := "loop.example/g00667/laws.FnExactRangesRight", spec := "fnExactRangesRight", apart := false }
def FnExactRangesRightSaid : Prop := fnExactRangesRightRow.holds Try.pinned (OpenSpec.ofChange fnExactRangesRightSpec)

/-- ITS FALSE NEIGHBOUR: 'it returns false'. Refute it at one input. -/
def fnExactRangesRightWrong : ChangeSpec := { name := "fnExactRangesRight", fn := fun _ => fun
  | [d] => { results := [.lit (.bool false)], args := [d] }
  | _ => none }
def FnExactRangesRightWrongFalsely : Prop := fnExactRangesRightRow.holds Try.pinned (OpenSpec.ofChange fnExactRangesRightWrong)

/- THE SECOND FORM. 'bulk': how many values and letters a reading holds, each counted each time it is reached (what is shared counts as often as it is met; a slice's spare places count too). A statement '..UptoSaid' is the law's where the arguments, and the package variables that the reading takes, are together of bulk at most 1048576: NARROWER than '..Said'. Prove '..Said' where nothing that the law and all that it calls make is longer than what came in: it says more and counts as full. Else prove '..UptoSaid'. A law counts once. -/
mutual
def uptoBulk {H : Type} : DataW H → Nat
  | .lit (.string bytes) => bytes.length + 1
  | .lit _ => 1
  | .nil => 1
  | .ptr d => uptoBulk d + 1
  | .slice elems spare => uptoBulkAll elems + uptoBulkAll spare + 1
  | .agg parts => uptoBulkAll parts + 1
  | .iface _ d => uptoBulk d + 1
  | .map entries => uptoBulkEntries entries + 1
  | .held _ => 1
def uptoBulkAll {H : Type} : List (DataW H) → Nat
  | [] => 0
  | d :: r => uptoBulk d + uptoBulkAll r
def uptoBulkEntries {H : Type} : List (Lit × DataW H) → Nat
  | [] => 0
  | x :: r => uptoBulkEntry x + uptoBulkEntries r
def uptoBulkEntry {H : Type} : Lit × DataW H → Nat
  | (.string bytes, d) => bytes.length + uptoBulk d + 1
  | (_, d) => uptoBulk d + 1
 end
def uptoSmall : (H : Type) → List (DataW H) → Bool := fun _ ds => decide (uptoBulkAll ds ≤ 1048576)
def OpenSpec.upto (s : _root_.Go.ChangeSpec) : _root_.Go.OpenSpec := { _root_.Go.OpenSpec.ofChange s with cond := some uptoSmall }

/-- 'laws.FnExactSeal', WHERE WHAT IT READS IS OF BULK AT MOST 1048576: true; the input reads as it did. -/
def fnExactSealUptoRow : OpenClaim := { program := "ytboefhiobafijaa", sum := "8aeae171ac299784dcc589eca9f97888a5ca320f3d7785ffe9f6791877c80d56", func := "loop.example/g00667/laws.FnExactSeal", spec := "fnExactSeal", apart := false, narrowed := true }
def FnExactSealUptoSaid : Prop := fnExactSealUptoRow.holds Try.pinned (OpenSpec.upto fnExactSealSpec)

/-- 'laws.FnExactEthRead', WHERE WHAT IT READS IS OF BULK AT MOST 1048576: true; the input reads as it did. -/
def fnExactEthReadUptoRow : OpenClaim := { program := "ytboefhiobafijaa", sum := "8aeae171ac299784dcc589eca9f97888a5ca320f3d7785ffe9f6791877c80d56", func := "loop.example/g00667/laws.FnExactEthRead", spec := "fnExactEthRead", apart := false, narrowed := true }
def FnExactEthReadUptoSaid : Prop := fnExactEthReadUptoRow.holds Try.pinned (OpenSpec.upto fnExactEthReadSpec)

/-- 'laws.FnExactBetter', WHERE WHAT IT READS IS OF BULK AT MOST 1048576: true; the input reads as it did. -/
def fnExactBetterUptoRow : OpenClaim := { program := "ytboefhiobafijaa", sum := "8aeae171ac299784dcc589eca9f97888a5ca320f3d7785ffe9f6791877c80d56", func := "loop.example/g00667/laws.FnExactBetter", spec := "fnExactBetter", apart := false, narrowed := true }
def FnExactBetterUptoSaid : Prop := fnExactBetterUptoRow.holds Try.pinned (OpenSpec.upto fnExactBetterSpec)

/-- 'laws.FnExactUnseal', WHERE WHAT IT READS IS OF BULK AT MOST 1048576: true; the input reads as it did. -/
def fnExactUnsealUptoRow : OpenClaim := { program := "ytboefhiobafijaa", sum := "8aeae171ac299784dcc589eca9f97888a5ca320f3d7785ffe9f6791877c80d56", func := "loop.example/g00667/laws.FnExactUnseal", spec := "fnExactUnseal", apart := false, narrowed := true }
def FnExactUnsealUptoSaid : Prop := fnExactUnsealUptoRow.holds Try.pinned (OpenSpec.upto fnExactUnsealSpec)

/-- 'laws.FnExactGetNum', WHERE WHAT IT READS IS OF BULK AT MOST 1048576: true; the input reads as it did. -/
def fnExactGetNumUptoRow : OpenClaim := { program := "ytboefhiobafijaa", sum := "8aeae171ac299784dcc589eca9f97888a5ca320f3d7785ffe9f6791877c80d56", func := "loop.example/g00667/laws.FnExactGetNum", spec := "fnExactGetNum", apart := false, narrowed := true }
def FnExactGetNumUptoSaid : Prop := fnExactGetNumUptoRow.holds Try.pinned (OpenSpec.upto fnExactGetNumSpec)

/-- 'laws.FnExactNoteRight', WHERE WHAT IT READS IS OF BULK AT MOST 1048576: true; the input reads as it did. -/
def fnExactNoteRightUptoRow : OpenClaim := { program := "ytboefhiobafijaa", sum := "8aeae171ac299784dcc589eca9f97888a5ca320f3d7785ffe9f6791877c80d56", func := "loop.example/g00667/laws.FnExactNoteRight", spec := "fnExactNoteRight", apart := false, narrowed := true }
def FnExactNoteRightUptoSaid : Prop := fnExactNoteRightUptoRow.holds Try.pinned (OpenSpec.upto fnExactNoteRightSpec)

/-- 'laws.FnExactVxRead', WHERE WHAT IT READS IS OF BULK AT MOST 1048576: true; the input reads as it did. -/
def fnExactVxReadUptoRow : OpenClaim := { program := "ytboefhiobafijaa", sum := "8aeae171ac299784dcc589eca9f97888a5ca320f3d7785ffe9f6791877c80d56", func := "loop.example/g00667/laws.FnExactVxRead", spec := "fnExactVxRead", apart := false, narrowed := true }
def FnExactVxReadUptoSaid : Prop := fnExactVxReadUptoRow.holds Try.pinned (OpenSpec.upto fnExactVxReadSpec)

/-- 'laws.FnExactRouteBytes', WHERE WHAT IT READS IS OF BULK AT MOST 1048576: true; the input reads as it did. -/
def fnExactRouteBytesUptoRow : OpenClaim := { program := "ytboefhiobafijaa", sum := "8aeae171ac299784dcc589eca9f97888a5ca320f3d7785ffe9f6791877c80d56", func := "loop.example/g00667/laws.FnExactRouteBytes", spec := "fnExactRouteBytes", apart := false, narrowed := true }
def FnExactRouteBytesUptoSaid : Prop := fnExactRouteBytesUptoRow.holds Try.pinned (OpenSpec.upto fnExactRouteBytesSpec)

/-- 'laws.FnExactPipeRight', WHERE WHAT IT READS IS OF BULK AT MOST 1048576: true; the input reads as it did. -/
def fnExactPipeRightUptoRow : OpenClaim := { program := "ytboefhiobafijaa", sum := "8aeae171ac299784dcc589eca9f97888a5ca320f3d7785ffe9f6791877c80d56", func := "loop.example/g00667/laws.FnExactPipeRight", spec := "fnExactPipeRight", unfollowed := true, recurses := true, apart := false, narrowed := true }
def FnExactPipeRightUptoSaid : Prop := fnExactPipeRightUptoRow.holds Try.pinned (OpenSpec.upto fnExactPipeRightSpec)

/-- 'laws.FnExactGetText', WHERE WHAT IT READS IS OF BULK AT MOST 1048576: true; the input reads as it did. -/
def fnExactGetTextUptoRow : OpenClaim := { program := "ytboefhiobafijaa", sum := "8aeae171ac299784dcc589eca9f97888a5ca320f3d7785ffe9f6791877c80d56", func := "loop.example/g00667/laws.FnExactGetText", spec := "fnExactGetText", apart := false, narrowed := true }
def FnExactGetTextUptoSaid : Prop := fnExactGetTextUptoRow.holds Try.pinned (OpenSpec.upto fnExactGetTextSpec)

/-- 'laws.FnExactActRight', WHERE WHAT IT READS IS OF BULK AT MOST 1048576: true; the input reads as it did. -/
def fnExactActRightUptoRow : OpenClaim := { program := "ytboefhiobafijaa", sum := "8aeae171ac299784dcc589eca9f97888a5ca320f3d7785ffe9f6791877c80d56", func := "loop.example/g00667/laws.FnExactActRight", spec := "fnExactActRight", unfollowed := true, recurses := true, apart := false, narrowed := true }
def FnExactActRightUptoSaid : Prop := fnExactActRightUptoRow.holds Try.pinned (OpenSpec.upto fnExactActRightSpec)

/-- 'laws.FnExactRangesRight', WHERE WHAT IT READS IS OF BULK AT MOST 1048576: true; the input reads as it did. -/
def fnExactRangesRightUptoRow : OpenClaim := { program := "ytboefhiobafijaa", sum := "8aeae171ac299784dcc589eca9f97888a5ca320f3d7785ffe9f6791877c80d56", func := "loop.example/g00667/laws.FnExactRangesRight", spec := "fnExactRangesRight", apart := false, narrowed := true }
def FnExactRangesRightUptoSaid : Prop := fnExactRangesRightUptoRow.holds Try.pinned (OpenSpec.upto fnExactRangesRightSpec)

end Rows
end Go.Proofs.Ytboefhiobafijaa
