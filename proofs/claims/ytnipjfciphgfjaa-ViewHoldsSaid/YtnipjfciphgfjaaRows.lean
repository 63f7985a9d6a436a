/-
  No cell of these rows narrows 'for every input' (looked for: loops, veiled, ifaces, maps, wideKeys, modest, calm, conditions, laid).
  DERIVED. THE GIVEN ROWS OF THIS SEAT. 3 by the template 'for every input the law returns true; each argument reads behind the call as it read before'; 0 by the template 'total and deterministic' (their statements: YtnipjfciphgfjaaTotals.lean).
  GIVEN WITH THE SEED: the statements are not yours to turn. If you find one false, say at which input.
  Laid BY PROGRAM, IN A SANDBOX (cutbox-rows.mjs): the forced cells as the released guide's own fill.sh prints them over the translation 0798673d5bc28548… (all of the seat's roots in one cut). By AI agents, Wed Nov 11 2026. No macro, syntax, notation, axiom, sorry.
-/
import Derived.Test.YtnipjfciphgfjaaChecked
import GoSem.Claim
import GoSem.ClaimJoined
import GoSem.ClaimMapViews
import Derived.JoinedTies
import Derived.KernelRfl
namespace Go.Proofs.Ytnipjfciphgfjaa
/- THE CELL 'sum', in the pinned program and in every row, IS THE sha256 OF THE DUMP (.gsa) THAT YtnipjfciphgfjaaProg.lean LOADS. Nothing in Lean hashes anything: it is a label: what it is worth is what the hold of that sum in a sandbox is worth. -/
noncomputable def Try.pinned : Pinned := { name := "ytnipjfciphgfjaa", sum := "0798673d5bc285484eec280dccb35cfa5af0746aca1b344abbba4ad717c182b5", checked := Try.checked }
namespace Rows
def none {H : Type} : Left H := { results := [], args := [] }

/-- 'pledgelaw32.ViewSharp': WHATEVER THE INPUT: true; the input reads as it did. -/
def viewSharpSpec : ChangeSpec := { name := "viewSharp", fn := fun _ => fun
  | [d1, d2, d3] => { results := [.lit (.bool true)], args := [d1, d2, d3] }
  | _ => none }
def viewSharpRow : OpenClaim := { program := "ytnipjfciphgfjaa", sum := "0798673d5bc285484eec280dccb35cfa5af0746aca1b344abbba4ad717c182b5", func := "pledge/pledgelaw32.ViewSharp", spec := "viewSharp", unfollowed := true, recurses := true, plainKeys := false, apart := false }
def ViewSharpSaid : Prop := viewSharpRow.holds Try.pinned (OpenSpec.ofChange viewSharpSpec)

/-- ITS FALSE NEIGHBOUR: 'it returns false'. Refute it at one input. -/
def viewSharpWrong : ChangeSpec := { name := "viewSharp", fn := fun _ => fun
  | [d1, d2, d3] => { results := [.lit (.bool false)], args := [d1, d2, d3] }
  | _ => none }
def ViewSharpWrongFalsely : Prop := viewSharpRow.holds Try.pinned (OpenSpec.ofChange viewSharpWrong)

/-- 'pledgelaw32.ViewSays': WHATEVER THE INPUT: true; the input reads as it did. -/
def viewSaysSpec : ChangeSpec := { name := "viewSays", fn := fun _ => fun
  | [d1, d2, d3] => { results := [.lit (.bool true)], args := [d1, d2, d3] }
  | _ => none }
def viewSaysRow : OpenClaim := { program := "ytnipjfciphgfjaa", sum := "0798673d5bc285484eec280dccb35cfa5af0746aca1b344abbba4ad717c182b5", func := "pledge/pledgelaw32.ViewSays", spec := "viewSays", unfollowed := true, recurses := true, plainKeys := false, apart := false }
def ViewSaysSaid : Prop := viewSaysRow.holds Try.pinned (OpenSpec.ofChange viewSaysSpec)

/-- ITS FALSE NEIGHBOUR: 'it returns false'. Refute it at one input. -/
def viewSaysWrong : ChangeSpec := { name := "viewSays", fn := fun _ => fun
  | [d1, d2, d3] => { results := [.lit (.bool false)], args := [d1, d2, d3] }
  | _ => none }
def ViewSaysWrongFalsely : Prop := viewSaysRow.holds Try.pinned (OpenSpec.ofChange viewSaysWrong)

/-- 'pledgelaw32.ViewHolds': WHATEVER THE INPUT: true; the input reads as it did. -/
def viewHoldsSpec : ChangeSpec := { name := "viewHolds", fn := fun _ => fun
  | [d1, d2, d3] => { results := [.lit (.bool true)], args := [d1, d2, d3] }
  | _ => none }
def viewHoldsRow : OpenClaim := { program := "ytnipjfciphgfjaa", sum := "0798673d5bc285484eec280dccb35cfa5af0746aca1b344abbba4ad717c182b5", func := "pledge/pledgelaw32.ViewHolds", spec := "viewHolds", unfollowed := true, recurses := true, plainKeys := false, apart := false }
def ViewHoldsSaid : Prop := viewHoldsRow.holds Try.pinned (OpenSpec.ofChange viewHoldsSpec)

/-- ITS FALSE NEIGHBOUR: 'it returns false'. Refute it at one input. -/
def viewHoldsWrong : ChangeSpec := { name := "viewHolds", fn := fun _ => fun
  | [d1, d2, d3] => { results := [.lit (.bool false)], args := [d1, d2, d3] }
  | _ => none }
def ViewHoldsWrongFalsely : Prop := viewHoldsRow.holds Try.pinned (OpenSpec.ofChange viewHoldsWrong)

/- THE SECOND FORM. 'bulk': how many values and letters a reading holds, each counted each time it is reached (what is shared counts as often as it is met; a slice's spare places count too). A statement '..UptoSaid' is the law's where the arguments, and the package variables that the reading takes, are together of bulk at most 1048576: NARROWER than '..Said'. Prove '..Said' where nothing that the law and all that it calls make is longer than what came in: it says more and counts as full. Else prove '..UptoSaid'. A law counts once. -/
mutual
def uptoBulk {H : Type} : DataW H → Nat
  | .lit (.string bytes) => bytes.length + 1
  | .lit _ => 1
  | .nil => 1
  | .ptr d => uptoBulk d + 1
  | .slice elems spare => uptoBulkAll elems + uptoBulkAll spare + 1
  | .agg parts => uptoBulkAll parts + 1
  | .iface _ d => uptoBulk d + 1
  | .map entries => uptoBulkEntries entries + 1
  | .held _ => 1
def uptoBulkAll {H : Type} : List (DataW H) → Nat
  | [] => 0
  | d :: r => uptoBulk d + uptoBulkAll r
def uptoBulkEntries {H : Type} : List (Lit × DataW H) → Nat
  | [] => 0
  | x :: r => uptoBulkEntry x + uptoBulkEntries r
def uptoBulkEntry {H : Type} : Lit × DataW H → Nat
  | (.string bytes, d) => bytes.length + uptoBulk d + 1
  | (_, d) => uptoBulk d + 1
 end
def uptoSmall : (H : Type) → List (DataW H) → Bool := fun _ ds => decide (uptoBulkAll ds ≤ 1048576)
def OpenSpec.upto (s : _root_.Go.ChangeSpec) : _root_.Go.OpenSpec := { _root_.Go.OpenSpec.ofChange s with cond := some uptoSmall }

/-- 'pledgelaw32.ViewSharp', WHERE WHAT IT READS IS OF BULK AT MOST 1048576: true; the input reads as it did. -/
def viewSharpUptoRow : OpenClaim := { program := "ytnipjfciphgfjaa", sum := "0798673d5bc285484eec280dccb35cfa5af0746aca1b344abbba4ad717c182b5", func := "pledge/pledgelaw32.ViewSharp", spec := "viewSharp", unfollowed := true, recurses := true, plainKeys := false, apart := false, narrowed := true }
def ViewSharpUptoSaid : Prop := viewSharpUptoRow.holds Try.pinned (OpenSpec.upto viewSharpSpec)

/-- 'pledgelaw32.ViewSays', WHERE WHAT IT READS IS OF BULK AT MOST 1048576: true; the input reads as it did. -/
def viewSaysUptoRow : OpenClaim := { program := "ytnipjfciphgfjaa", sum := "0798673d5bc285484eec280dccb35cfa5af0746aca1b344abbba4ad717c182b5", func := "pledge/pledgelaw32.ViewSays", spec := "viewSays", unfollowed := true, recurses := true, plainKeys := false, apart := false, narrowed := true }
def ViewSaysUptoSaid : Prop := viewSaysUptoRow.holds Try.pinned (OpenSpec.upto viewSaysSpec)

/-- 'pledgelaw32.ViewHolds', WHERE WHAT IT READS IS OF BULK AT MOST 1048576: true; the input reads as it did. -/
def viewHoldsUptoRow : OpenClaim := { program := "ytnipjfciphgfjaa", sum := "0798673d5bc285484eec280dccb35cfa5af0746aca1b344abbba4ad717c182b5", func := "pledge/pledgelaw32.ViewHolds", spec := "viewHolds", unfollowed := true, recurses := true, plainKeys := false, apart := false, narrowed := true }
def ViewHoldsUptoSaid : Prop := viewHoldsUptoRow.holds Try.pinned (OpenSpec.upto viewHoldsSpec)

end Rows
end Go.Proofs.Ytnipjfciphgfjaa
