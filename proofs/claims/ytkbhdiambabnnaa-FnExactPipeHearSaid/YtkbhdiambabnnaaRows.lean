/-
  No cell of these rows narrows 'for every input' (looked for: loops, veiled, ifaces, maps, wideKeys, modest, calm, conditions, laid).
  DERIVED. THE GIVEN ROWS OF THIS SEAT. 12 by the template 'for every input the law returns true; each argument reads behind the call as it read before'; 0 by the template 'total and deterministic' (their statements: YtkbhdiambabnnaaTotals.lean).
  GIVEN WITH THE SEED: the statements are not yours to turn. If you find one false, say at which input.
  Laid BY PROGRAM, IN A SANDBOX (cutbox-rows.mjs): the forced cells as the released guide's own fill.sh prints them over the translation 1a6fbdfe4c499cbc… (all of the seat's roots in one cut). By AI agents, Wed Nov 11 2026. No macro, syntax, notation, axiom, sorry.
-/
import Derived.Test.YtkbhdiambabnnaaChecked
import GoSem.Claim
import GoSem.ClaimJoined
import GoSem.ClaimMapViews
import Derived.JoinedTies
import Derived.KernelRfl
namespace Go.Proofs.Ytkbhdiambabnnaa
/- THE CELL 'sum', in the pinned program and in every row, IS THE sha256 OF THE DUMP (.gsa) THAT YtkbhdiambabnnaaProg.lean LOADS. Nothing in Lean hashes anything: it is a label: what it is worth is what the hold of that sum in a sandbox is worth. -/
noncomputable def Try.pinned : Pinned := { name := "ytkbhdiambabnnaa", sum := "1a6fbdfe4c499cbcfadd3264e2fa2c90dd87e0c96b85ed1ab07bfb134065d9fe", checked := Try.checked }
namespace Rows
def none {H : Type} : Left H := { results := [], args := [] }

/-- 'laws.FnExactPipeNew': WHATEVER THE INPUT: true; the input reads as it did. -/
def fnExactPipeNewSpec : ChangeSpec := { name := "fnExactPipeNew", fn := fun _ => fun
  | [d] => { results := [.lit (.bool true)], args := [d] }
  | _ => none }
def fnExactPipeNewRow : OpenClaim := { program := "ytkbhdiambabnnaa", sum := "1a6fbdfe4c499cbcfadd3264e2fa2c90dd87e0c96b85ed1ab07bfb134065d9fe", func := "loop.example/g00667/laws.FnExactPipeNew", spec := "fnExactPipeNew", apart := false }
def FnExactPipeNewSaid : Prop := fnExactPipeNewRow.holds Try.pinned (OpenSpec.ofChange fnExactPipeNewSpec)

/-- ITS FALSE NEIGHBOUR: 'it returns false'. Refute it at one input. -/
def fnExactPipeNewWrong : ChangeSpec := { name := "fnExactPipeNew", fn := fun _ => fun
  | [d] => { results := [.lit (.bool false)], args := [d] }
  | _ => none }
def FnExactPipeNewWrongFalsely : Prop := fnExactPipeNewRow.holds Try.pinned (OpenSpec.ofChange fnExactPipeNewWrong)

/-- 'laws.FnExactPacketBytes': WHATEVER THE INPUT: true; the input reads as it did. -/
def fnExactPacketBytesSpec : ChangeSpec := { name := "fnExactPacketBytes", fn := fun _ => fun
  | [d] => { results := [.lit (.bool true)], args := [d] }
  | _ => none }
def fnExactPacketBytesRow : OpenClaim := { program := "ytkbhdiambabnnaa", sum := "1a6fbdfe4c499cbcfadd3264e2fa2c90dd87e0c96b85ed1ab07bfb134065d9fe", func := "loop.example/g00667/laws.FnExactPacketBytes", spec := "fnExactPacketBytes", apart := false }
def FnExactPacketBytesSaid : Prop := fnExactPacketBytesRow.holds Try.pinned (OpenSpec.ofChange fnExactPacketBytesSpec)

/-- ITS FALSE NEIGHBOUR: 'it returns false'. Refute it at one input. -/
def fnExactPacketBytesWrong : ChangeSpec := { name := "fnExactPacketBytes", fn := fun _ => fun
  | [d] => { results := [.lit (.bool false)], args := [d] }
  | _ => none }
def FnExactPacketBytesWrongFalsely : Prop := fnExactPacketBytesRow.holds Try.pinned (OpenSpec.ofChange fnExactPacketBytesWrong)

/-- 'laws.FnNums': WHATEVER THE INPUT: true; the input reads as it did. -/
def fnNumsSpec : ChangeSpec := { name := "fnNums", fn := fun _ => fun
  | [d1, d2] => { results := [.lit (.bool true)], args := [d1, d2] }
  | _ => none }
def fnNumsRow : OpenClaim := { program := "ytkbhdiambabnnaa", sum := "1a6fbdfe4c499cbcfadd3264e2fa2c90dd87e0c96b85ed1ab07bfb134065d9fe", func := "loop.example/g00667/laws.FnNums", spec := "fnNums", apart := false }
def FnNumsSaid : Prop := fnNumsRow.holds Try.pinned (OpenSpec.ofChange fnNumsSpec)

/-- ITS FALSE NEIGHBOUR: 'it returns false'. Refute it at one input. -/
def fnNumsWrong : ChangeSpec := { name := "fnNums", fn := fun _ => fun
  | [d1, d2] => { results := [.lit (.bool false)], args := [d1, d2] }
  | _ => none }
def FnNumsWrongFalsely : Prop := fnNumsRow.holds Try.pinned (OpenSpec.ofChange fnNumsWrong)

/-- 'laws.FnSeal': WHATEVER THE INPUT: true; the input reads as it did. -/
def fnSealSpec : ChangeSpec := { name := "fnSeal", fn := fun _ => fun
  | [d1, d2] => { results := [.lit (.bool true)], args := [d1, d2] }
  | _ => none }
def fnSealRow : OpenClaim := { program := "ytkbhdiambabnnaa", sum := "1a6fbdfe4c499cbcfadd3264e2fa2c90dd87e0c96b85ed1ab07bfb134065d9fe", func := "loop.example/g00667/laws.FnSeal", spec := "fnSeal", apart := false }
def FnSealSaid : Prop := fnSealRow.holds Try.pinned (OpenSpec.ofChange fnSealSpec)

/-- ITS FALSE NEIGHBOUR: 'it returns false'. Refute it at one input. -/
def fnSealWrong : ChangeSpec := { name := "fnSeal", fn := fun _ => fun
  | [d1, d2] => { results := [.lit (.bool false)], args := [d1, d2] }
  | _ => none }
def FnSealWrongFalsely : Prop := fnSealRow.holds Try.pinned (OpenSpec.ofChange fnSealWrong)

/-- 'laws.FnExactBestOf': WHATEVER THE INPUT: true; the input reads as it did. -/
def fnExactBestOfSpec : ChangeSpec := { name := "fnExactBestOf", fn := fun _ => fun
  | [d1, d2, d3] => { results := [.lit (.bool true)], args := [d1, d2, d3] }
  | _ => none }
def fnExactBestOfRow : OpenClaim := { program := "ytkbhdiambabnnaa", sum := "1a6fbdfe4c499cbcfadd3264e2fa2c90dd87e0c96b85ed1ab07bfb134065d9fe", func := "loop.example/g00667/laws.FnExactBestOf", spec := "fnExactBestOf", apart := false }
def FnExactBestOfSaid : Prop := fnExactBestOfRow.holds Try.pinned (OpenSpec.ofChange fnExactBestOfSpec)

/-- ITS FALSE NEIGHBOUR: 'it returns false'. Refute it at one input. -/
def fnExactBestOfWrong : ChangeSpec := { name := "fnExactBestOf", fn := fun _ => fun
  | [d1, d2, d3] => { results := [.lit (.bool false)], args := [d1, d2, d3] }
  | _ => none }
def FnExactBestOfWrongFalsely : Prop := fnExactBestOfRow.holds Try.pinned (OpenSpec.ofChange fnExactBestOfWrong)

/-- 'laws.FnExactNoteBytes': WHATEVER THE INPUT: true; the input reads as it did. -/
def fnExactNoteBytesSpec : ChangeSpec := { name := "fnExactNoteBytes", fn := fun _ => fun
  | [d] => { results := [.lit (.bool true)], args := [d] }
  | _ => none }
def fnExactNoteBytesRow : OpenClaim := { program := "ytkbhdiambabnnaa", sum := "1a6fbdfe4c499cbcfadd3264e2fa2c90dd87e0c96b85ed1ab07bfb134065d9fe", func := "loop.example/g00667/laws.FnExactNoteBytes", spec := "fnExactNoteBytes", apart := false }
def FnExactNoteBytesSaid : Prop := fnExactNoteBytesRow.holds Try.pinned (OpenSpec.ofChange fnExactNoteBytesSpec)

/-- ITS FALSE NEIGHBOUR: 'it returns false'. Refute it at one input. -/
def fnExactNoteBytesWrong : ChangeSpec := { name := "fnExactNoteBytes", fn := fun _ => fun
  | [d] => { results := [.lit (.bool false)], args := [d] }
  | _ => none }
def FnExactNoteBytesWrongFalsely : Prop := fnExactNoteBytesRow.holds Try.pinned (OpenSpec.ofChange fnExactNoteBytesWrong)

/-- 'laws.FnExactLongest': WHATEVER THE INPUT: true; the input reads as it did. -/
def fnExactLongestSpec : ChangeSpec := { name := "fnExactLongest", fn := fun _ => fun
  | [d1, d2] => { results := [.lit (.bool true)], args := [d1, d2] }
  | _ => none }
def fnExactLongestRow : OpenClaim := { program := "ytkbhdiambabnnaa", sum := "1a6fbdfe4c499cbcfadd3264e2fa2c90dd87e0c96b85ed1ab07bfb134065d9fe", func := "loop.example/g00667/laws.FnExactLongest", spec := "fnExactLongest", apart := false }
def FnExactLongestSaid : Prop := fnExactLongestRow.holds Try.pinned (OpenSpec.ofChange fnExactLongestSpec)

/-- ITS FALSE NEIGHBOUR: 'it returns false'. Refute it at one input. -/
def fnExactLongestWrong : ChangeSpec := { name := "fnExactLongest", fn := fun _ => fun
  | [d1, d2] => { results := [.lit (.bool false)], args := [d1, d2] }
  | _ => none }
def FnExactLongestWrongFalsely : Prop := fnExactLongestRow.holds Try.pinned (OpenSpec.ofChange fnExactLongestWrong)

/-- 'laws.FnExactPipeReset': WHATEVER THE INPUT: true; the input reads as it did. -/
def fnExactPipeResetSpec : ChangeSpec := { name := "fnExactPipeReset", fn := fun _ => fun
  | [d1, d2] => { results := [.lit (.bool true)], args := [d1, d2] }
  | _ => none }
def fnExactPipeResetRow : OpenClaim := { program := "ytkbhdiambabnnaa", sum := "1a6fbdfe4c499cbcfadd3264e2fa2c90dd87e0c96b85ed1ab07bfb134065d9fe", func := "loop.example/g00667/laws.FnExactPipeReset", spec := "fnExactPipeReset", unfollowed := true, recurses := true, apart := false }
def FnExactPipeResetSaid : Prop := fnExactPipeResetRow.holds Try.pinned (OpenSpec.ofChange fnExactPipeResetSpec)

/-- ITS FALSE NEIGHBOUR: 'it returns false'. Refute it at one input. -/
def fnExactPipeResetWrong : ChangeSpec := { name := "fnExactPipeReset", fn := fun _ => fun
  | [d1, d2] => { results := [.lit (.bool false)], args := [d1, d2] }
  | _ => none }
def FnExactPipeResetWrongFalsely : Prop := fnExactPipeResetRow.holds Try.pinned (OpenSpec.ofChange fnExactPipeResetWrong)

/-- 'laws.FnExactRibRight': WHATEVER THE INPUT: true; the input reads as it did. -/
def fnExactRibRightSpec : ChangeSpec := { name := "fnExactRibRight", fn := fun _ => fun
  | [d] => { results := [.lit (.bool true)], args := [d] }
  | _ => none }
def fnExactRibRightRow : OpenClaim := { program := "ytkbhdiambabnnaa", sum := "1a6fbdfe4c499cbcfadd3264e2fa2c90dd87e0c96b85ed1ab07bfb134065d9fe", func := "loop.example/g00667/laws.FnExactRibRight", spec := "fnExactRibRight", apart := false }
def FnExactRibRightSaid : Prop := fnExactRibRightRow.holds Try.pinned (OpenSpec.ofChange fnExactRibRightSpec)

/-- ITS FALSE NEIGHBOUR: 'it returns false'. Refute it at one input. -/
def fnExactRibRightWrong : ChangeSpec := { name := "fnExactRibRight", fn := fun _ => fun
  | [d] => { results := [.lit (.bool false)], args := [d] }
  | _ => none }
def FnExactRibRightWrongFalsely : Prop := fnExactRibRightRow.holds Try.pinned (OpenSpec.ofChange fnExactRibRightWrong)

/-- 'laws.FnExactPipeSend': WHATEVER THE INPUT: true; the input reads as it did. -/
def fnExactPipeSendSpec : ChangeSpec := { name := "fnExactPipeSend", fn := fun _ => fun
  | [d] => { results := [.lit (.bool true)], args := [d] }
  | _ => none }
def fnExactPipeSendRow : OpenClaim := { program := "ytkbhdiambabnnaa", sum := "1a6fbdfe4c499cbcfadd3264e2fa2c90dd87e0c96b85ed1ab07bfb134065d9fe", func := "loop.example/g00667/laws.FnExactPipeSend", spec := "fnExactPipeSend", unfollowed := true, recurses := true, apart := false }
def FnExactPipeSendSaid : Prop := fnExactPipeSendRow.holds Try.pinned (OpenSpec.ofChange fnExactPipeSendSpec)

/-- ITS FALSE NEIGHBOUR: 'it returns false'. Refute it at one input. -/
def fnExactPipeSendWrong : ChangeSpec := { name := "fnExactPipeSend", fn := fun _ => fun
  | [d] => { results := [.lit (.bool false)], args := [d] }
  | _ => none }
def FnExactPipeSendWrongFalsely : Prop := fnExactPipeSendRow.holds Try.pinned (OpenSpec.ofChange fnExactPipeSendWrong)

/-- 'laws.FnExactPipePut': WHATEVER THE INPUT: true; the input reads as it did. -/
def fnExactPipePutSpec : ChangeSpec := { name := "fnExactPipePut", fn := fun _ => fun
  | [d1, d2] => { results := [.lit (.bool true)], args := [d1, d2] }
  | _ => none }
def fnExactPipePutRow : OpenClaim := { program := "ytkbhdiambabnnaa", sum := "1a6fbdfe4c499cbcfadd3264e2fa2c90dd87e0c96b85ed1ab07bfb134065d9fe", func := "loop.example/g00667/laws.FnExactPipePut", spec := "fnExactPipePut", unfollowed := true, recurses := true, apart := false }
def FnExactPipePutSaid : Prop := fnExactPipePutRow.holds Try.pinned (OpenSpec.ofChange fnExactPipePutSpec)

/-- ITS FALSE NEIGHBOUR: 'it returns false'. Refute it at one input. -/
def fnExactPipePutWrong : ChangeSpec := { name := "fnExactPipePut", fn := fun _ => fun
  | [d1, d2] => { results := [.lit (.bool false)], args := [d1, d2] }
  | _ => none }
def FnExactPipePutWrongFalsely : Prop := fnExactPipePutRow.holds Try.pinned (OpenSpec.ofChange fnExactPipePutWrong)

/-- 'laws.FnExactPipeHear': WHATEVER THE INPUT: true; the input reads as it did. -/
def fnExactPipeHearSpec : ChangeSpec := { name := "fnExactPipeHear", fn := fun _ => fun
  | [d1, d2] => { results := [.lit (.bool true)], args := [d1, d2] }
  | _ => none }
def fnExactPipeHearRow : OpenClaim := { program := "ytkbhdiambabnnaa", sum := "1a6fbdfe4c499cbcfadd3264e2fa2c90dd87e0c96b85ed1ab07bfb134065d9fe", func := "loop.example/g00667/laws.FnExactPipeHear", spec := "fnExactPipeHear", unfollowed := true, recurses := true, apart := false }
def FnExactPipeHearSaid : Prop := fnExactPipeHearRow.holds Try.pinned (OpenSpec.ofChange fnExactPipeHearSpec)

/-- ITS FALSE NEIGHBOUR: 'it returns false'. Refute it at one input. -/
def fnExactPipeHearWrong : ChangeSpec := { name := "fnExactPipeHear", fn := fun _ => fun
  | [d1, d2] => { results := [.lit (.bool false)], args := [d1, d2] }
  | _ => none }
def FnExactPipeHearWrongFalsely : Prop := fnExactPipeHearRow.holds Try.pinned (OpenSpec.ofChange fnExactPipeHearWrong)

/- THE SECOND FORM. 'bulk': how many values and letters a reading holds, each counted each time it is reached (what is shared counts as often as it is met; a slice's spare places count too). A statement '..UptoSaid' is the law's where the arguments, and the package variables that the reading takes, are together of bulk at most 1048576: NARROWER than '..Said'. Prove '..Said' where nothing that the law and all that it calls make is longer than what came in: it says more and counts as full. Else prove '..UptoSaid'. A law counts once. -/
mutual
def uptoBulk {H : Type} : DataW H → Nat
  | .lit (.string bytes) => bytes.length + 1
  | .lit _ => 1
  | .nil => 1
  | .ptr d => uptoBulk d + 1
  | .slice elems spare => uptoBulkAll elems + uptoBulkAll spare + 1
  | .agg parts => uptoBulkAll parts + 1
  | .iface _ d => uptoBulk d + 1
  | .map entries => uptoBulkEntries entries + 1
  | .held _ => 1
def uptoBulkAll {H : Type} : List (DataW H) → Nat
  | [] => 0
  | d :: r => uptoBulk d + uptoBulkAll r
def uptoBulkEntries {H : Type} : List (Lit × DataW H) → Nat
  | [] => 0
  | x :: r => uptoBulkEntry x + uptoBulkEntries r
def uptoBulkEntry {H : Type} : Lit × DataW H → Nat
  | (.string bytes, d) => bytes.length + uptoBulk d + 1
  | (_, d) => uptoBulk d + 1
 end
def uptoSmall : (H : Type) → List (DataW H) → Bool := fun _ ds => decide (uptoBulkAll ds ≤ 1048576)
def OpenSpec.upto (s : _root_.Go.ChangeSpec) : _root_.Go.OpenSpec := { _root_.Go.OpenSpec.ofChange s with cond := some uptoSmall }

/-- 'laws.FnExactPipeNew', WHERE WHAT IT READS IS OF BULK AT MOST 1048576: true; the input reads as it did. -/
def fnExactPipeNewUptoRow : OpenClaim := { program := "ytkbhdiambabnnaa", sum := "1a6fbdfe4c499cbcfadd3264e2fa2c90dd87e0c96b85ed1ab07bfb134065d9fe", func := "loop.example/g00667/laws.FnExactPipeNew", spec := "fnExactPipeNew", apart := false, narrowed := true }
def FnExactPipeNewUptoSaid : Prop := fnExactPipeNewUptoRow.holds Try.pinned (OpenSpec.upto fnExactPipeNewSpec)

/-- 'laws.FnExactPacketBytes', WHERE WHAT IT READS IS OF BULK AT MOST 1048576: true; the input reads as it did. -/
def fnExactPacketBytesUptoRow : OpenClaim := { program := "ytkbhdiambabnnaa", sum := "1a6fbdfe4c499cbcfadd3264e2fa2c90dd87e0c96b85ed1ab07bfb134065d9fe", func := "loop.example/g00667/laws.FnExactPacketBytes", spec := "fnExactPacketBytes", apart := false, narrowed := true }
def FnExactPacketBytesUptoSaid : Prop := fnExactPacketBytesUptoRow.holds Try.pinned (OpenSpec.upto fnExactPacketBytesSpec)

/-- 'laws.FnNums', WHERE WHAT IT READS IS OF BULK AT MOST 1048576: true; the input reads as it did. -/
def fnNumsUptoRow : OpenClaim := { program := "ytkbhdiambabnnaa", sum := "1a6fbdfe4c499cbcfadd3264e2fa2c90dd87e0c96b85ed1ab07bfb134065d9fe", func := "loop.example/g00667/laws.FnNums", spec := "fnNums", apart := false, narrowed := true }
def FnNumsUptoSaid : Prop := fnNumsUptoRow.holds Try.pinned (OpenSpec.upto fnNumsSpec)

/-- 'laws.FnSeal', WHERE WHAT IT READS IS OF BULK AT MOST 1048576: true; the input reads as it did. -/
def fnSealUptoRow : OpenClaim := { program := "ytkbhdiambabnnaa", sum := "1a6fbdfe4c499cbcfadd3264e2fa2c90dd87e0c96b85ed1ab07bfb134065d9fe", func := "loop.example/g00667/laws.FnSeal", spec := "fnSeal", apart := false, narrowed := true }
def FnSealUptoSaid : Prop := fnSealUptoRow.holds Try.pinned (OpenSpec.upto fnSealSpec)

/-- 'laws.FnExactBestOf', WHERE WHAT IT READS IS OF BULK AT MOST 1048576: true; the input reads as it did. -/
def fnExactBestOfUptoRow : OpenClaim := { program := "ytkbhdiambabnnaa", sum := "1a6fbdfe4c499cbcfadd3264e2fa2c90dd87e0c96b85ed1ab07bfb134065d9fe", func := "loop.example/g00667/laws.FnExactBestOf", spec := "fnExactBestOf", apart := false, narrowed := true }
def FnExactBestOfUptoSaid : Prop := fnExactBestOfUptoRow.holds Try.pinned (OpenSpec.upto fnExactBestOfSpec)

/-- 'laws.FnExactNoteBytes', WHERE WHAT IT READS IS OF BULK AT MOST 1048576: true; the input reads as it did. -/
def fnExactNoteBytesUptoRow : OpenClaim := { program := "ytkbhdiambabnnaa", sum := "1a6fbdfe4c499cbcfadd3264e2fa2c90dd87e0c96b85ed1ab07bfb134065d9fe", func := "loop.example/g00667/laws.FnExactNoteBytes", spec := "fnExactNoteBytes", apart := false, narrowed := true }
def FnExactNoteBytesUptoSaid : Prop := fnExactNoteBytesUptoRow.holds Try.pinned (OpenSpec.upto fnExactNoteBytesSpec)

/-- 'laws.FnExactLongest', WHERE WHAT IT READS IS OF BULK AT MOST 1048576: true; the input reads as it did. -/
def fnExactLongestUptoRow : OpenClaim := { program := "ytkbhdiambabnnaa", sum := "1a6fbdfe4c499cbcfadd3264e2fa2c90dd87e0c96b85ed1ab07bfb134065d9fe", func := "loop.example/g00667/laws.FnExactLongest", spec := "fnExactLongest", apart := false, narrowed := true }
def FnExactLongestUptoSaid : Prop := fnExactLongestUptoRow.holds Try.pinned (OpenSpec.upto fnExactLongestSpec)

/-- 'laws.FnExactPipeReset', WHERE WHAT IT READS IS OF BULK AT MOST 1048576: true; the input reads as it did. -/
def fnExactPipeResetUptoRow : OpenClaim := { program := "ytkbhdiambabnnaa", sum := "1a6fbdfe4c499cbcfadd3264e2fa2c90dd87e0c96b85ed1ab07bfb134065d9fe", func := "loop.example/g00667/laws.FnExactPipeReset", spec := "fnExactPipeReset", unfollowed := true, recurses := true, apart := false, narrowed := true }
def FnExactPipeResetUptoSaid : Prop := fnExactPipeResetUptoRow.holds Try.pinned (OpenSpec.upto fnExactPipeResetSpec)

/-- 'laws.FnExactRibRight', WHERE WHAT IT READS IS OF BULK AT MOST 1048576: true; the input reads as it did. -/
def fnExactRibRightUptoRow : OpenClaim := { program := "ytkbhdiambabnnaa", sum := "1a6fbdfe4c499cbcfadd3264e2fa2c90dd87e0c96b85ed1ab07bfb134065d9fe", func := "loop.example/g00667/laws.FnExactRibRight", spec := "fnExactRibRight", apart := false, narrowed := true }
def FnExactRibRightUptoSaid : Prop := fnExactRibRightUptoRow.holds Try.pinned (OpenSpec.upto fnExactRibRightSpec)

/-- 'laws.FnExactPipeSend', WHERE WHAT IT READS IS OF BULK AT MOST 1048576: true; the input reads as it did. -/
def fnExactPipeSendUptoRow : OpenClaim := { program := "ytkbhdiambabnnaa", sum := "1a6fbdfe4c499cbcfadd3264e2fa2c90dd87e0c96b85ed1ab07bfb134065d9fe", func := "loop.example/g00667/laws.FnExactPipeSend", spec := "fnExactPipeSend", unfollowed := true, recurses := true, apart := false, narrowed := true }
def FnExactPipeSendUptoSaid : Prop := fnExactPipeSendUptoRow.holds Try.pinned (OpenSpec.upto fnExactPipeSendSpec)

/-- 'laws.FnExactPipePut', WHERE WHAT IT READS IS OF BULK AT MOST 1048576: true; the input reads as it did. -/
def fnExactPipePutUptoRow : OpenClaim := { program := "ytkbhdiambabnnaa", sum := "1a6fbdfe4c499cbcfadd3264e2fa2c90dd87e0c96b85ed1ab07bfb134065d9fe", func := "loop.example/g00667/laws.FnExactPipePut", spec := "fnExactPipePut", unfollowed := true, recurses := true, apart := false, narrowed := true }
def FnExactPipePutUptoSaid : Prop := fnExactPipePutUptoRow.holds Try.pinned (OpenSpec.upto fnExactPipePutSpec)

/-- 'laws.FnExactPipeHear', WHERE WHAT IT READS IS OF BULK AT MOST 1048576: true; the input reads as it did. -/
def fnExactPipeHearUptoRow : OpenClaim := { program := "ytkbhdiambabnnaa", sum := "1a6fbdfe4c499cbcfadd3264e2fa2c90dd87e0c96b85ed1ab07bfb134065d9fe", func := "loop.example/g00667/laws.FnExactPipeHear", spec := "fnExactPipeHear", unfollowed := true, recurses := true, apart := false, narrowed := true }
def FnExactPipeHearUptoSaid : Prop := fnExactPipeHearUptoRow.holds Try.pinned (OpenSpec.upto fnExactPipeHearSpec)

end Rows
end Go.Proofs.Ytkbhdiambabnnaa
