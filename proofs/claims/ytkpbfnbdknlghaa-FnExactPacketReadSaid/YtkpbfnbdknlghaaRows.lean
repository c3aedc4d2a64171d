/-
  No cell of these rows narrows 'for every input' (looked for: loops, veiled, ifaces, maps, wideKeys, modest, calm, conditions, laid).
  DERIVED. THE GIVEN ROWS OF THIS SEAT. 4 by the template 'for every input the law returns true; each argument reads behind the call as it read before'; 0 by the template 'total and deterministic' (their statements: YtkpbfnbdknlghaaTotals.lean).
  GIVEN WITH THE SEED: the statements are not yours to turn. If you find one false, say at which input.
  Laid BY PROGRAM, IN A SANDBOX (cutbox-rows.mjs): the forced cells as the released guide's own fill.sh prints them over the translation 699d527e3486f9fb… (all of the seat's roots in one cut). By AI agents, Wed Nov 11 2026. No macro, syntax, notation, axiom, sorry.
-/
import Derived.Test.YtkpbfnbdknlghaaChecked
import GoSem.Claim
import GoSem.ClaimJoined
import GoSem.ClaimMapViews
import Derived.JoinedTies
import Derived.KernelRfl
namespace Go.Proofs.Ytkpbfnbdknlghaa
/- THE CELL 'sum', in the pinned program and in every row, IS THE sha256 OF THE DUMP (.gsa) THAT YtkpbfnbdknlghaaProg.lean LOADS. Nothing in Lean hashes anything: it is a label: what it is worth is what the hold of that sum in a sandbox is worth. -/
noncomputable def Try.pinned : Pinned := { name := "ytkpbfnbdknlghaa", sum := "699d527e3486f9fbf3cd64bb049536ece3149cac790ba55d662c803365c6d40f", checked := Try.checked }
namespace Rows
def none {H : Type} : Left H := { results := [], args := [] }

/-- 'laws.FnExactRouteRead': WHATEVER THE INPUT: true; the input reads as it did. -/
def fnExactRouteReadSpec : ChangeSpec := { name := "fnExactRouteRead", fn := fun _ => fun
  | [d] => { results := [.lit (.bool true)], args := [d] }
  | _ => none }
def fnExactRouteReadRow : OpenClaim := { program := "ytkpbfnbdknlghaa", sum := "699d527e3486f9fbf3cd64bb049536ece3149cac790ba55d662c803365c6d40f", func := "loop.example/g00667/laws.FnExactRouteRead", spec := "fnExactRouteRead", apart := false }
def FnExactRouteReadSaid : Prop := fnExactRouteReadRow.holds Try.pinned (OpenSpec.ofChange fnExactRouteReadSpec)

/-- ITS FALSE NEIGHBOUR: 'it returns false'. Refute it at one input. -/
def fnExactRouteReadWrong : ChangeSpec := { name := "fnExactRouteRead", fn := fun _ => fun
  | [d] => { results := [.lit (.bool false)], args := [d] }
  | _ => none }
def FnExactRouteReadWrongFalsely : Prop := fnExactRouteReadRow.holds Try.pinned (OpenSpec.ofChange fnExactRouteReadWrong)

/-- 'laws.FnExactDumpOf': WHATEVER THE INPUT: true; the input reads as it did. -/
def fnExactDumpOfSpec : ChangeSpec := { name := "fnExactDumpOf", fn := fun _ => fun
  | [d] => { results := [.lit (.bool true)], args := [d] }
  | _ => none }
def fnExactDumpOfRow : OpenClaim := { program := "ytkpbfnbdknlghaa", sum := "699d527e3486f9fbf3cd64bb049536ece3149cac790ba55d662c803365c6d40f", func := "loop.example/g00667/laws.FnExactDumpOf", spec := "fnExactDumpOf", apart := false }
def FnExactDumpOfSaid : Prop := fnExactDumpOfRow.holds Try.pinned (OpenSpec.ofChange fnExactDumpOfSpec)

/-- ITS FALSE NEIGHBOUR: 'it returns false'. Refute it at one input. -/
def fnExactDumpOfWrong : ChangeSpec := { name := "fnExactDumpOf", fn := fun _ => fun
  | [d] => { results := [.lit (.bool false)], args := [d] }
  | _ => none }
def FnExactDumpOfWrongFalsely : Prop := fnExactDumpOfRow.holds Try.pinned (OpenSpec.ofChange fnExactDumpOfWrong)

/-- 'laws.FnExactPacketRead': WHATEVER THE INPUT: true; the input reads as it did. -/
def fnExactPacketReadSpec : ChangeSpec := { name := "fnExactPacketRead", fn := fun _ => fun
  | [d] => { results := [.lit (.bool true)], args := [d] }
  | _ => none }
def fnExactPacketReadRow : OpenClaim := { program := "ytkpbfnbdknlghaa", sum := "699d527e3486f9fbf3cd64bb049536ece3149cac790ba55d662c803365c6d40f", func := "loop.example/g00667/laws.FnExactPacketRead", spec := "fnExactPacketRead", apart := false }
def FnExactPacketReadSaid : Prop := fnExactPacketReadRow.holds Try.pinned (OpenSpec.ofChange fnExactPacketReadSpec)

/-- ITS FALSE NEIGHBOUR: 'it returns false'. Refute it at one input. -/
def fnExactPacketReadWrong : ChangeSpec := { name := "fnExactPacketRead", fn := fun _ => fun
  | [d] => { results := [.lit (.bool false)], args := [d] }
  | _ => none }
def FnExactPacketReadWrongFalsely : Prop := fnExactPacketReadRow.holds Try.pinned (OpenSpec.ofChange fnExactPacketReadWrong)

/-- 'laws.FnExactNoteRead': WHATEVER THE INPUT: true; the input reads as it did. -/
def fnExactNoteReadSpec : ChangeSpec := { name := "fnExactNoteRead", fn := fun _ => fun
  | [d] => { results := [.lit (.bool true)], args := [d] }
  | _ => none }
def fnExactNoteReadRow : OpenClaim := { program := "ytkpbfnbdknlghaa", sum := "699d527e3486f9fbf3cd64bb049536ece3149cac790ba55d662c803365c6d40f", func := "loop.example/g00667/laws.FnExactNoteRead", spec := "fnExactNoteRead", apart := false }
def FnExactNoteReadSaid : Prop := fnExactNoteReadRow.holds Try.pinned (OpenSpec.ofChange fnExactNoteReadSpec)

/-- ITS FALSE NEIGHBOUR: 'it returns false'. Refute it at one input. -/
def fnExactNoteReadWrong : ChangeSpec := { name := "fnExactNoteRead", fn := fun _ => fun
  | [d] => { results := [.lit (.bool false)], args := [d] }
  | _ => none }
def FnExactNoteReadWrongFalsely : Prop := fnExactNoteReadRow.holds Try.pinned (OpenSpec.ofChange fnExactNoteReadWrong)

/- THE SECOND FORM. 'bulk': how many values and letters a reading holds, each counted each time it is reached (what is shared counts as often as it is met; a slice's spare places count too). A statement '..UptoSaid' is the law's where the arguments, and the package variables that the reading takes, are together of bulk at most 1048576: NARROWER than '..Said'. Prove '..Said' where nothing that the law and all that it calls make is longer than what came in: it says more and counts as full. Else prove '..UptoSaid'. A law counts once. -/
mutual
def uptoBulk {H : Type} : DataW H → Nat
  | .lit (.string bytes) => bytes.length + 1
  | .lit _ => 1
  | .nil => 1
  | .ptr d => uptoBulk d + 1
  | .slice elems spare => uptoBulkAll elems + uptoBulkAll spare + 1
  | .agg parts => uptoBulkAll parts + 1
  | .iface _ d => uptoBulk d + 1
  | .map entries => uptoBulkEntries entries + 1
  | .held _ => 1
def uptoBulkAll {H : Type} : List (DataW H) → Nat
  | [] => 0
  | d :: r => uptoBulk d + uptoBulkAll r
def uptoBulkEntries {H : Type} : List (Lit × DataW H) → Nat
  | [] => 0
  | x :: r => uptoBulkEntry x + uptoBulkEntries r
def uptoBulkEntry {H : Type} : Lit × DataW H → Nat
  | (.string bytes, d) => bytes.length + uptoBulk d + 1
  | (_, d) => uptoBulk d + 1
 end
def uptoSmall : (H : Type) → List (DataW H) → Bool := fun _ ds => decide (uptoBulkAll ds ≤ 1048576)
def OpenSpec.upto (s : _root_.Go.ChangeSpec) : _root_.Go.OpenSpec := { _root_.Go.OpenSpec.ofChange s with cond := some uptoSmall }

/-- 'laws.FnExactRouteRead', WHERE WHAT IT READS IS OF BULK AT MOST 1048576: true; the input reads as it did. -/
def fnExactRouteReadUptoRow : OpenClaim := { program := "ytkpbfnbdknlghaa", sum := "699d527e3486f9fbf3cd64bb049536ece3149cac790ba55d662c803365c6d40f", func := "loop.example/g00667/laws.FnExactRouteRead", spec := "fnExactRouteRead", apart := false, narrowed := true }
def FnExactRouteReadUptoSaid : Prop := fnExactRouteReadUptoRow.holds Try.pinned (OpenSpec.upto fnExactRouteReadSpec)

/-- 'laws.FnExactDumpOf', WHERE WHAT IT READS IS OF BULK AT MOST 1048576: true; the input reads as it did. -/
def fnExactDumpOfUptoRow : OpenClaim := { program := "ytkpbfnbdknlghaa", sum := "699d527e3486f9fbf3cd64bb049536ece3149cac790ba55d662c803365c6d40f", func := "loop.example/g00667/laws.FnExactDumpOf", spec := "fnExactDumpOf", apart := false, narrowed := true }
def FnExactDumpOfUptoSaid : Prop := fnExactDumpOfUptoRow.holds Try.pinned (OpenSpec.upto fnExactDumpOfSpec)

/-- 'laws.FnExactPacketRead', WHERE WHAT IT READS IS OF BULK AT MOST 1048576: true; the input reads as it did. -/
def fnExactPacketReadUptoRow : OpenClaim := { program := "ytkpbfnbdknlghaa", sum := "699d527e3486f9fbf3cd64bb049536ece3149cac790ba55d662c803365c6d40f", func := "loop.example/g00667/laws.FnExactPacketRead", spec := "fnExactPacketRead", apart := false, narrowed := true }
def FnExactPacketReadUptoSaid : Prop := fnExactPacketReadUptoRow.holds Try.pinned (OpenSpec.upto fnExactPacketReadSpec)

/-- 'laws.FnExactNoteRead', WHERE WHAT IT READS IS OF BULK AT MOST 1048576: true; the input reads as it did. -/
def fnExactNoteReadUptoRow : OpenClaim := { program := "ytkpbfnbdknlghaa", sum := "699d527e3486f9fbf3cd64bb049536ece3149cac790ba55d662c803365c6d40f", func := "loop.example/g00667/laws.FnExactNoteRead", spec := "fnExactNoteRead", apart := false, narrowed := true }
def FnExactNoteReadUptoSaid : Prop := fnExactNoteReadUptoRow.holds Try.pinned (OpenSpec.upto fnExactNoteReadSpec)

end Rows
end Go.Proofs.Ytkpbfnbdknlghaa
