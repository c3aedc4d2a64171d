/-
  No cell of these rows narrows 'for every input' (looked for: loops, veiled, ifaces, maps, wideKeys, modest, calm, conditions, laid).
  DERIVED. THE GIVEN ROWS OF THIS SEAT. 3 by the template 'for every input the law returns true; each argument reads behind the call as it read before'; 0 by the template 'total and deterministic' (their statements: YtbanbmkfdkbfiaaTotals.lean).
  GIVEN WITH THE SEED: the statements are not yours to turn. If you find one false, say at which input.
  Laid BY PROGRAM, IN A SANDBOX (cutbox-rows.mjs): the forced cells as the released guide's own fill.sh prints them over the translation b2d49fba1e5ce434… (all of the seat's roots in one cut). By AI agents, Wed Nov 11 2026. No macro, syntax, notation, axiom, sorry.
-/
import Derived.Test.YtbanbmkfdkbfiaaChecked
import GoSem.Claim
import GoSem.ClaimJoined
import GoSem.ClaimMapViews
import Derived.JoinedTies
import Derived.KernelRfl
namespace Go.Proofs.Ytbanbmkfdkbfiaa
/- THE CELL 'sum', in the pinned program and in every row, IS THE sha256 OF THE DUMP (.gsa) THAT YtbanbmkfdkbfiaaProg.lean LOADS. Nothing in Lean hashes anything: it is a label: what it is worth is what the hold of that sum in a sandbox is worth. -/
noncomputable def Try.pinned : Pinned := { name := "ytbanbmkfdkbfiaa", sum := "b2d49fba1e5ce4342de40f4a8a11a175c1a114d4922c380b7337b24979c7fe37", checked := Try.checked }
namespace Rows
def none {H : Type} : Left H := { results := [], args := [] }

/-- 'laws.FnRoute': WHATEVER THE INPUT: true; the input reads as it did. -/
def fnRouteSpec : ChangeSpec := { name := "fnRoute", fn := fun _ => fun
  | [d1, d2] => { results := [.lit (.bool true)], args := [d1, d2] }
  | _ => none }
def fnRouteRow : OpenClaim := { program := "ytbanbmkfdkbfiaa", sum := "b2d49fba1e5ce4342de40f4a8a11a175c1a114d4922c380b7337b24979c7fe37", func := "loop.example/g00667/laws.FnRoute", spec := "fnRoute", apart := false }
def FnRouteSaid : Prop := fnRouteRow.holds Try.pinned (OpenSpec.ofChange fnRouteSpec)

/-- ITS FALSE NEIGHBOUR: 'it returns false'. Refute it at one input. -/
def fnRouteWrong : ChangeSpec := { name := "fnRoute", fn := fun _ => fun
  | [d1, d2] => { results := [.lit (.bool false)], args := [d1, d2] }
  | _ => none }
def FnRouteWrongFalsely : Prop := fnRouteRow.holds Try.pinned (OpenSpec.ofChange fnRouteWrong)

/-- 'laws.FnNote': WHATEVER THE INPUT: true; the input reads as it did. -/
def fnNoteSpec : ChangeSpec := { name := "fnNote", fn := fun _ => fun
  | [d1, d2] => { results := [.lit (.bool true)], args := [d1, d2] }
  | _ => none }
def fnNoteRow : OpenClaim := { program := "ytbanbmkfdkbfiaa", sum := "b2d49fba1e5ce4342de40f4a8a11a175c1a114d4922c380b7337b24979c7fe37", func := "loop.example/g00667/laws.FnNote", spec := "fnNote", apart := false }
def FnNoteSaid : Prop := fnNoteRow.holds Try.pinned (OpenSpec.ofChange fnNoteSpec)

/-- ITS FALSE NEIGHBOUR: 'it returns false'. Refute it at one input. -/
def fnNoteWrong : ChangeSpec := { name := "fnNote", fn := fun _ => fun
  | [d1, d2] => { results := [.lit (.bool false)], args := [d1, d2] }
  | _ => none }
def FnNoteWrongFalsely : Prop := fnNoteRow.holds Try.pinned (OpenSpec.ofChange fnNoteWrong)

/-- 'laws.FnPacket': WHATEVER THE INPUT: true; the input reads as it did. -/
def fnPacketSpec : ChangeSpec := { name := "fnPacket", fn := fun _ => fun
  | [d1, d2] => { results := [.lit (.bool true)], args := [d1, d2] }
  | _ => none }
def fnPacketRow : OpenClaim := { program := "ytbanbmkfdkbfiaa", sum := "b2d49fba1e5ce4342de40f4a8a11a175c1a114d4922c380b7337b24979c7fe37", func := "loop.example/g00667/laws.FnPacket", spec := "fnPacket", unfollowed := true, recurses := true, apart := false }
def FnPacketSaid : Prop := fnPacketRow.holds Try.pinned (OpenSpec.ofChange fnPacketSpec)

/-- ITS FALSE NEIGHBOUR: 'it returns false'. Refute it at one input. -/
def fnPacketWrong : ChangeSpec := { name := "fnPacket", fn := fun _ => fun
  | [d1, d2] => { results := [.lit (.bool false)], args := [d1, d2] }
  | _ => none }
def FnPacketWrongFalsely : Prop := fnPacketRow.holds Try.pinned (OpenSpec.ofChange fnPacketWrong)

/- THE SECOND FORM. 'bulk': how many values and letters a reading holds, each counted each time it is reached (what is shared counts as often as it is met; a slice's spare places count too). A statement '..UptoSaid' is the law's where the arguments, and the package variables that the reading takes, are together of bulk at most 1048576: NARROWER than '..Said'. Prove '..Said' where nothing that the law and all that it calls make is longer than what came in: it says more and counts as full. Else prove '..UptoSaid'. A law counts once. -/
mutual
def uptoBulk {H : Type} : DataW H → Nat
  | .lit (.string bytes) => bytes.length + 1
  | .lit _ => 1
  | .nil => 1
  | .ptr d => uptoBulk d + 1
  | .slice elems spare => uptoBulkAll elems + uptoBulkAll spare + 1
  | .agg parts => uptoBulkAll parts + 1
  | .iface _ d => uptoBulk d + 1
  | .map entries => uptoBulkEntries entries + 1
  | .held _ => 1
def uptoBulkAll {H : Type} : List (DataW H) → Nat
  | [] => 0
  | d :: r => uptoBulk d + uptoBulkAll r
def uptoBulkEntries {H : Type} : List (Lit × DataW H) → Nat
  | [] => 0
  | x :: r => uptoBulkEntry x + uptoBulkEntries r
def uptoBulkEntry {H : Type} : Lit × DataW H → Nat
  | (.string bytes, d) => bytes.length + uptoBulk d + 1
  | (_, d) => uptoBulk d + 1
 end
def uptoSmall : (H : Type) → List (DataW H) → Bool := fun _ ds => decide (uptoBulkAll ds ≤ 1048576)
def OpenSpec.upto (s : _root_.Go.ChangeSpec) : _root_.Go.OpenSpec := { _root_.Go.OpenSpec.ofChange s with cond := some uptoSmall }

/-- 'laws.FnRoute', WHERE WHAT IT READS IS OF BULK AT MOST 1048576: true; the input reads as it did. -/
def fnRouteUptoRow : OpenClaim := { program := "ytbanbmkfdkbfiaa", sum := "b2d49fba1e5ce4342de40f4a8a11a175c1a114d4922c380b7337b24979c7fe37", func := "loop.example/g00667/laws.FnRoute", spec := "fnRoute", apart := false, narrowed := true }
def FnRouteUptoSaid : Prop := fnRouteUptoRow.holds Try.pinned (OpenSpec.upto fnRouteSpec)

/-- 'laws.FnNote', WHERE WHAT IT READS IS OF BULK AT MOST 1048576: true; the input reads as it did. -/
def fnNoteUptoRow : OpenClaim := { program := "ytbanbmkfdkbfiaa", sum := "b2d49fba1e5ce4342de40f4a8a11a175c1a114d4922c380b7337b24979c7fe37", func := "loop.example/g00667/laws.FnNote", spec := "fnNote", apart := false, narrowed := true }
def FnNoteUptoSaid : Prop := fnNoteUptoRow.holds Try.pinned (OpenSpec.upto fnNoteSpec)

/-- 'laws.FnPacket', WHERE WHAT IT READS IS OF BULK AT MOST 1048576: true; the input reads as it did. -/
def fnPacketUptoRow : OpenClaim := { program := "ytbanbmkfdkbfiaa", sum := "b2d49fba1e5ce4342de40f4a8a11a175c1a114d4922c380b7337b24979c7fe37", func := "loop.example/g00667/laws.FnPacket", spec := "fnPacket", unfollowed := true, recurses := true, apart := false, narrowed := true }
def FnPacketUptoSaid : Prop := fnPacketUptoRow.holds Try.pinned (OpenSpec.upto fnPacketSpec)

end Rows
end Go.Proofs.Ytbanbmkfdkbfiaa
