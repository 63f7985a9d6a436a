/-
  No cell of these rows narrows 'for every input' (looked for: loops, veiled, ifaces, maps, wideKeys, modest, calm, conditions, laid).
  DERIVED. THE GIVEN ROWS OF THIS SEAT. 6 by the template 'for every input the law returns true; each argument reads behind the call as it read before'; 0 by the template 'total and deterministic' (their statements: YtdpbfiifdphpcaaTotals.lean).
  GIVEN WITH THE SEED: the statements are not yours to turn. If you find one false, say at which input.
  Laid BY PROGRAM, IN A SANDBOX (cutbox-rows.mjs): the forced cells as the released guide's own fill.sh prints them over the translation d7dce20b7556a513… (all of the seat's roots in one cut). By AI agents, Wed Nov 11 2026. No macro, syntax, notation, axiom, sorry.
-/
import Derived.Test.YtdpbfiifdphpcaaChecked
import GoSem.Claim
import GoSem.ClaimJoined
import GoSem.ClaimMapViews
import Derived.JoinedTies
import Derived.KernelRfl
namespace Go.Proofs.Ytdpbfiifdphpcaa
/- THE CELL 'sum', in the pinned program and in every row, IS THE sha256 OF THE DUMP (.gsa) THAT YtdpbfiifdphpcaaProg.lean LOADS. Nothing in Lean hashes anything: it is a label: what it is worth is what the hold of that sum in a sandbox is worth. -/
noncomputable def Try.pinned : Pinned := { name := "ytdpbfiifdphpcaa", sum := "d7dce20b7556a513c8e0a53b71c022feeb213b1c9cdba5cd9204c6fdf4707505", checked := Try.checked }
namespace Rows
def none {H : Type} : Left H := { results := [], args := [] }

/-- 'pledgelaw17.FieldNew': WHATEVER THE INPUT: true; the input reads as it did. -/
def fieldNewSpec : ChangeSpec := { name := "fieldNew", fn := fun _ => fun
  | [d] => { results := [.lit (.bool true)], args := [d] }
  | _ => none }
def fieldNewRow : OpenClaim := { program := "ytdpbfiifdphpcaa", sum := "d7dce20b7556a513c8e0a53b71c022feeb213b1c9cdba5cd9204c6fdf4707505", func := "pledge/pledgelaw17.FieldNew", spec := "fieldNew", apart := false }
def FieldNewSaid : Prop := fieldNewRow.holds Try.pinned (OpenSpec.ofChange fieldNewSpec)

/-- ITS FALSE NEIGHBOUR: 'it returns false'. Refute it at one input. -/
def fieldNewWrong : ChangeSpec := { name := "fieldNew", fn := fun _ => fun
  | [d] => { results := [.lit (.bool false)], args := [d] }
  | _ => none }
def FieldNewWrongFalsely : Prop := fieldNewRow.holds Try.pinned (OpenSpec.ofChange fieldNewWrong)

/-- 'pledgelaw17.FieldTurns': WHATEVER THE INPUT: true; the input reads as it did. -/
def fieldTurnsSpec : ChangeSpec := { name := "fieldTurns", fn := fun _ => fun
  | [d1, d2, d3] => { results := [.lit (.bool true)], args := [d1, d2, d3] }
  | _ => none }
def fieldTurnsRow : OpenClaim := { program := "ytdpbfiifdphpcaa", sum := "d7dce20b7556a513c8e0a53b71c022feeb213b1c9cdba5cd9204c6fdf4707505", func := "pledge/pledgelaw17.FieldTurns", spec := "fieldTurns", apart := false }
def FieldTurnsSaid : Prop := fieldTurnsRow.holds Try.pinned (OpenSpec.ofChange fieldTurnsSpec)

/-- ITS FALSE NEIGHBOUR: 'it returns false'. Refute it at one input. -/
def fieldTurnsWrong : ChangeSpec := { name := "fieldTurns", fn := fun _ => fun
  | [d1, d2, d3] => { results := [.lit (.bool false)], args := [d1, d2, d3] }
  | _ => none }
def FieldTurnsWrongFalsely : Prop := fieldTurnsRow.holds Try.pinned (OpenSpec.ofChange fieldTurnsWrong)

/-- 'pledgelaw17.FieldHolds': WHATEVER THE INPUT: true; the input reads as it did. -/
def fieldHoldsSpec : ChangeSpec := { name := "fieldHolds", fn := fun _ => fun
  | [d] => { results := [.lit (.bool true)], args := [d] }
  | _ => none }
def fieldHoldsRow : OpenClaim := { program := "ytdpbfiifdphpcaa", sum := "d7dce20b7556a513c8e0a53b71c022feeb213b1c9cdba5cd9204c6fdf4707505", func := "pledge/pledgelaw17.FieldHolds", spec := "fieldHolds", unfollowed := true, recurses := true, apart := false }
def FieldHoldsSaid : Prop := fieldHoldsRow.holds Try.pinned (OpenSpec.ofChange fieldHoldsSpec)

/-- ITS FALSE NEIGHBOUR: 'it returns false'. Refute it at one input. -/
def fieldHoldsWrong : ChangeSpec := { name := "fieldHolds", fn := fun _ => fun
  | [d] => { results := [.lit (.bool false)], args := [d] }
  | _ => none }
def FieldHoldsWrongFalsely : Prop := fieldHoldsRow.holds Try.pinned (OpenSpec.ofChange fieldHoldsWrong)

/-- 'pledgelaw17.FieldSharp': WHATEVER THE INPUT: true; the input reads as it did. -/
def fieldSharpSpec : ChangeSpec := { name := "fieldSharp", fn := fun _ => fun
  | [d1, d2] => { results := [.lit (.bool true)], args := [d1, d2] }
  | _ => none }
def fieldSharpRow : OpenClaim := { program := "ytdpbfiifdphpcaa", sum := "d7dce20b7556a513c8e0a53b71c022feeb213b1c9cdba5cd9204c6fdf4707505", func := "pledge/pledgelaw17.FieldSharp", spec := "fieldSharp", unfollowed := true, recurses := true, apart := false }
def FieldSharpSaid : Prop := fieldSharpRow.holds Try.pinned (OpenSpec.ofChange fieldSharpSpec)

/-- ITS FALSE NEIGHBOUR: 'it returns false'. Refute it at one input. -/
def fieldSharpWrong : ChangeSpec := { name := "fieldSharp", fn := fun _ => fun
  | [d1, d2] => { results := [.lit (.bool false)], args := [d1, d2] }
  | _ => none }
def FieldSharpWrongFalsely : Prop := fieldSharpRow.holds Try.pinned (OpenSpec.ofChange fieldSharpWrong)

/-- 'pledgelaw17.FieldUndoes': WHATEVER THE INPUT: true; the input reads as it did. -/
def fieldUndoesSpec : ChangeSpec := { name := "fieldUndoes", fn := fun _ => fun
  | [d1, d2] => { results := [.lit (.bool true)], args := [d1, d2] }
  | _ => none }
def fieldUndoesRow : OpenClaim := { program := "ytdpbfiifdphpcaa", sum := "d7dce20b7556a513c8e0a53b71c022feeb213b1c9cdba5cd9204c6fdf4707505", func := "pledge/pledgelaw17.FieldUndoes", spec := "fieldUndoes", unfollowed := true, recurses := true, apart := false }
def FieldUndoesSaid : Prop := fieldUndoesRow.holds Try.pinned (OpenSpec.ofChange fieldUndoesSpec)

/-- ITS FALSE NEIGHBOUR: 'it returns false'. Refute it at one input. -/
def fieldUndoesWrong : ChangeSpec := { name := "fieldUndoes", fn := fun _ => fun
  | [d1, d2] => { results := [.lit (.bool false)], args := [d1, d2] }
  | _ => none }
def FieldUndoesWrongFalsely : Prop := fieldUndoesRow.holds Try.pinned (OpenSpec.ofChange fieldUndoesWrong)

/-- 'pledgelaw17.FieldDoes': WHATEVER THE INPUT: true; the input reads as it did. -/
def fieldDoesSpec : ChangeSpec := { name := "fieldDoes", fn := fun _ => fun
  | [d1, d2, d3] => { results := [.lit (.bool true)], args := [d1, d2, d3] }
  | _ => none }
def fieldDoesRow : OpenClaim := { program := "ytdpbfiifdphpcaa", sum := "d7dce20b7556a513c8e0a53b71c022feeb213b1c9cdba5cd9204c6fdf4707505", func := "pledge/pledgelaw17.FieldDoes", spec := "fieldDoes", unfollowed := true, recurses := true, apart := false }
def FieldDoesSaid : Prop := fieldDoesRow.holds Try.pinned (OpenSpec.ofChange fieldDoesSpec)

/-- ITS FALSE NEIGHBOUR: 'it returns false'. Refute it at one input. -/
def fieldDoesWrong : ChangeSpec := { name := "fieldDoes", fn := fun _ => fun
  | [d1, d2, d3] => { results := [.lit (.bool false)], args := [d1, d2, d3] }
  | _ => none }
def FieldDoesWrongFalsely : Prop := fieldDoesRow.holds Try.pinned (OpenSpec.ofChange fieldDoesWrong)

/- THE SECOND FORM. 'bulk': how many values and letters a reading holds, each counted each time it is reached (what is shared counts as often as it is met; a slice's spare places count too). A statement '..UptoSaid' is the law's where the arguments, and the package variables that the reading takes, are together of bulk at most 1048576: NARROWER than '..Said'. Prove '..Said' where nothing that the law and all that it calls make is longer than what came in: it says more and counts as full. Else prove '..UptoSaid'. A law counts once. -/
mutual
def uptoBulk {H : Type} : DataW H → Nat
  | .lit (.string bytes) => bytes.length + 1
  | .lit _ => 1
  | .nil => 1
  | .ptr d => uptoBulk d + 1
  | .slice elems spare => uptoBulkAll elems + uptoBulkAll spare + 1
  | .agg parts => uptoBulkAll parts + 1
  | .iface _ d => uptoBulk d + 1
  | .map entries => uptoBulkEntries entries + 1
  | .held _ => 1
def uptoBulkAll {H : Type} : List (DataW H) → Nat
  | [] => 0
  | d :: r => uptoBulk d + uptoBulkAll r
def uptoBulkEntries {H : Type} : List (Lit × DataW H) → Nat
  | [] => 0
  | x :: r => uptoBulkEntry x + uptoBulkEntries r
def uptoBulkEntry {H : Type} : Lit × DataW H → Nat
  | (.string bytes, d) => bytes.length + uptoBulk d + 1
  | (_, d) => uptoBulk d + 1
 end
def uptoSmall : (H : Type) → List (DataW H) → Bool := fun _ ds => decide (uptoBulkAll ds ≤ 1048576)
def OpenSpec.upto (s : _root_.Go.ChangeSpec) : _root_.Go.OpenSpec := { _root_.Go.OpenSpec.ofChange s with cond := some uptoSmall }

/-- 'pledgelaw17.FieldNew', WHERE WHAT IT READS IS OF BULK AT MOST 1048576: true; the input reads as it did. -/
def fieldNewUptoRow : OpenClaim := { program := "ytdpbfiifdphpcaa", sum := "d7dce20b7556a513c8e0a53b71c022feeb213b1c9cdba5cd9204c6fdf4707505", func := "pledge/pledgelaw17.FieldNew", spec := "fieldNew", apart := false, narrowed := true }
def FieldNewUptoSaid : Prop := fieldNewUptoRow.holds Try.pinned (OpenSpec.upto fieldNewSpec)

/-- 'pledgelaw17.FieldTurns', WHERE WHAT IT READS IS OF BULK AT MOST 1048576: true; the input reads as it did. -/
def fieldTurnsUptoRow : OpenClaim := { program := "ytdpbfiifdphpcaa", sum := "d7dce20b7556a513c8e0a53b71c022feeb213b1c9cdba5cd9204c6fdf4707505", func := "pledge/pledgelaw17.FieldTurns", spec := "fieldTurns", apart := false, narrowed := true }
def FieldTurnsUptoSaid : Prop := fieldTurnsUptoRow.holds Try.pinned (OpenSpec.upto fieldTurnsSpec)

/-- 'pledgelaw17.FieldHolds', WHERE WHAT IT READS IS OF BULK AT MOST 1048576: true; the input reads as it did. -/
def fieldHoldsUptoRow : OpenClaim := { program := "ytdpbfiifdphpcaa", sum := "d7dce20b7556a513c8e0a53b71c022feeb213b1c9cdba5cd9204c6fdf4707505", func := "pledge/pledgelaw17.FieldHolds", spec := "fieldHolds", unfollowed := true, recurses := true, apart := false, narrowed := true }
def FieldHoldsUptoSaid : Prop := fieldHoldsUptoRow.holds Try.pinned (OpenSpec.upto fieldHoldsSpec)

/-- 'pledgelaw17.FieldSharp', WHERE WHAT IT READS IS OF BULK AT MOST 1048576: true; the input reads as it did. -/
def fieldSharpUptoRow : OpenClaim := { program := "ytdpbfiifdphpcaa", sum := "d7dce20b7556a513c8e0a53b71c022feeb213b1c9cdba5cd9204c6fdf4707505", func := "pledge/pledgelaw17.FieldSharp", spec := "fieldSharp", unfollowed := true, recurses := true, apart := false, narrowed := true }
def FieldSharpUptoSaid : Prop := fieldSharpUptoRow.holds Try.pinned (OpenSpec.upto fieldSharpSpec)

/-- 'pledgelaw17.FieldUndoes', WHERE WHAT IT READS IS OF BULK AT MOST 1048576: true; the input reads as it did. -/
def fieldUndoesUptoRow : OpenClaim := { program := "ytdpbfiifdphpcaa", sum := "d7dce20b7556a513c8e0a53b71c022feeb213b1c9cdba5cd9204c6fdf4707505", func := "pledge/pledgelaw17.FieldUndoes", spec := "fieldUndoes", unfollowed := true, recurses := true, apart := false, narrowed := true }
def FieldUndoesUptoSaid : Prop := fieldUndoesUptoRow.holds Try.pinned (OpenSpec.upto fieldUndoesSpec)

/-- 'pledgelaw17.FieldDoes', WHERE WHAT IT READS IS OF BULK AT MOST 1048576: true; the input reads as it did. -/
def fieldDoesUptoRow : OpenClaim := { program := "ytdpbfiifdphpcaa", sum := "d7dce20b7556a513c8e0a53b71c022feeb213b1c9cdba5cd9204c6fdf4707505", func := "pledge/pledgelaw17.FieldDoes", spec := "fieldDoes", unfollowed := true, recurses := true, apart := false, narrowed := true }
def FieldDoesUptoSaid : Prop := fieldDoesUptoRow.holds Try.pinned (OpenSpec.upto fieldDoesSpec)

end Rows
end Go.Proofs.Ytdpbfiifdphpcaa
