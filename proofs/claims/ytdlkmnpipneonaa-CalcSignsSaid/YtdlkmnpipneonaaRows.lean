/-
  No cell of these rows narrows 'for every input' (looked for: loops, veiled, ifaces, maps, wideKeys, modest, calm, conditions, laid).
  DERIVED. THE GIVEN ROWS OF THIS SEAT. 7 by the template 'for every input the law returns true; each argument reads behind the call as it read before'; 0 by the template 'total and deterministic' (their statements: YtdlkmnpipneonaaTotals.lean).
  GIVEN WITH THE SEED: the statements are not yours to turn. If you find one false, say at which input.
  Laid BY PROGRAM, IN A SANDBOX (cutbox-rows.mjs): the forced cells as the released guide's own fill.sh prints them over the translation 71fbab3dcd1e2941… (all of the seat's roots in one cut). By AI agents, Wed Nov 11 2026. No macro, syntax, notation, axiom, sorry.
-/
import Derived.Test.YtdlkmnpipneonaaChecked
import GoSem.Claim
import GoSem.ClaimJoined
import GoSem.ClaimMapViews
import Derived.JoinedTies
import Derived.KernelRfl
namespace Go.Proofs.Ytdlkmnpipneonaa
/- THE CELL 'sum', in the pinned program and in every row, IS THE sha256 OF THE DUMP (.gsa) THAT YtdlkmnpipneonaaProg.lean LOADS. Nothing in Lean hashes anything: it is a label: what it is worth is what the hold of that sum in a sandbox is worth. -/
noncomputable def Try.pinned : Pinned := { name := "ytdlkmnpipneonaa", sum := "71fbab3dcd1e29417bcd3413b0ddcf909c1790bfc58461b5d5af6d33f6782f6c", checked := Try.checked }
namespace Rows
def none {H : Type} : Left H := { results := [], args := [] }

/-- 'pledgelaw01.CalcSums': WHATEVER THE INPUT: true; the input reads as it did. -/
def calcSumsSpec : ChangeSpec := { name := "calcSums", fn := fun _ => fun
  | [d] => { results := [.lit (.bool true)], args := [d] }
  | _ => none }
def calcSumsRow : OpenClaim := { program := "ytdlkmnpipneonaa", sum := "71fbab3dcd1e29417bcd3413b0ddcf909c1790bfc58461b5d5af6d33f6782f6c", func := "pledge/pledgelaw01.CalcSums", spec := "calcSums", inPlace := ["math/bits.Add64"], recurses := true, apart := false }
def CalcSumsSaid : Prop := calcSumsRow.holds Try.pinned (OpenSpec.ofChange calcSumsSpec)

/-- ITS FALSE NEIGHBOUR: 'it returns false'. Refute it at one input. -/
def calcSumsWrong : ChangeSpec := { name := "calcSums", fn := fun _ => fun
  | [d] => { results := [.lit (.bool false)], args := [d] }
  | _ => none }
def CalcSumsWrongFalsely : Prop := calcSumsRow.holds Try.pinned (OpenSpec.ofChange calcSumsWrong)

/-- 'pledgelaw01.CalcTurns': WHATEVER THE INPUT: true; the input reads as it did. -/
def calcTurnsSpec : ChangeSpec := { name := "calcTurns", fn := fun _ => fun
  | [d1, d2] => { results := [.lit (.bool true)], args := [d1, d2] }
  | _ => none }
def calcTurnsRow : OpenClaim := { program := "ytdlkmnpipneonaa", sum := "71fbab3dcd1e29417bcd3413b0ddcf909c1790bfc58461b5d5af6d33f6782f6c", func := "pledge/pledgelaw01.CalcTurns", spec := "calcTurns", inPlace := ["math/bits.Add64"], apart := false }
def CalcTurnsSaid : Prop := calcTurnsRow.holds Try.pinned (OpenSpec.ofChange calcTurnsSpec)

/-- ITS FALSE NEIGHBOUR: 'it returns false'. Refute it at one input. -/
def calcTurnsWrong : ChangeSpec := { name := "calcTurns", fn := fun _ => fun
  | [d1, d2] => { results := [.lit (.bool false)], args := [d1, d2] }
  | _ => none }
def CalcTurnsWrongFalsely : Prop := calcTurnsRow.holds Try.pinned (OpenSpec.ofChange calcTurnsWrong)

/-- 'pledgelaw01.CalcBetween': WHATEVER THE INPUT: true; the input reads as it did. -/
def calcBetweenSpec : ChangeSpec := { name := "calcBetween", fn := fun _ => fun
  | [d1, d2, d3] => { results := [.lit (.bool true)], args := [d1, d2, d3] }
  | _ => none }
def calcBetweenRow : OpenClaim := { program := "ytdlkmnpipneonaa", sum := "71fbab3dcd1e29417bcd3413b0ddcf909c1790bfc58461b5d5af6d33f6782f6c", func := "pledge/pledgelaw01.CalcBetween", spec := "calcBetween", inPlace := ["math/bits.Add64"], apart := false }
def CalcBetweenSaid : Prop := calcBetweenRow.holds Try.pinned (OpenSpec.ofChange calcBetweenSpec)

/-- ITS FALSE NEIGHBOUR: 'it returns false'. Refute it at one input. -/
def calcBetweenWrong : ChangeSpec := { name := "calcBetween", fn := fun _ => fun
  | [d1, d2, d3] => { results := [.lit (.bool false)], args := [d1, d2, d3] }
  | _ => none }
def CalcBetweenWrongFalsely : Prop := calcBetweenRow.holds Try.pinned (OpenSpec.ofChange calcBetweenWrong)

/-- 'pledgelaw01.CalcBack': WHATEVER THE INPUT: true; the input reads as it did. -/
def calcBackSpec : ChangeSpec := { name := "calcBack", fn := fun _ => fun
  | [d1, d2] => { results := [.lit (.bool true)], args := [d1, d2] }
  | _ => none }
def calcBackRow : OpenClaim := { program := "ytdlkmnpipneonaa", sum := "71fbab3dcd1e29417bcd3413b0ddcf909c1790bfc58461b5d5af6d33f6782f6c", func := "pledge/pledgelaw01.CalcBack", spec := "calcBack", inPlace := ["math/bits.Add64"], apart := false }
def CalcBackSaid : Prop := calcBackRow.holds Try.pinned (OpenSpec.ofChange calcBackSpec)

/-- ITS FALSE NEIGHBOUR: 'it returns false'. Refute it at one input. -/
def calcBackWrong : ChangeSpec := { name := "calcBack", fn := fun _ => fun
  | [d1, d2] => { results := [.lit (.bool false)], args := [d1, d2] }
  | _ => none }
def CalcBackWrongFalsely : Prop := calcBackRow.holds Try.pinned (OpenSpec.ofChange calcBackWrong)

/-- 'pledgelaw01.CalcTwo': WHATEVER THE INPUT: true; the input reads as it did. -/
def calcTwoSpec : ChangeSpec := { name := "calcTwo", fn := fun _ => fun
  | [d1, d2] => { results := [.lit (.bool true)], args := [d1, d2] }
  | _ => none }
def calcTwoRow : OpenClaim := { program := "ytdlkmnpipneonaa", sum := "71fbab3dcd1e29417bcd3413b0ddcf909c1790bfc58461b5d5af6d33f6782f6c", func := "pledge/pledgelaw01.CalcTwo", spec := "calcTwo", inPlace := ["math/bits.Add64"], recurses := true, apart := false }
def CalcTwoSaid : Prop := calcTwoRow.holds Try.pinned (OpenSpec.ofChange calcTwoSpec)

/-- ITS FALSE NEIGHBOUR: 'it returns false'. Refute it at one input. -/
def calcTwoWrong : ChangeSpec := { name := "calcTwo", fn := fun _ => fun
  | [d1, d2] => { results := [.lit (.bool false)], args := [d1, d2] }
  | _ => none }
def CalcTwoWrongFalsely : Prop := calcTwoRow.holds Try.pinned (OpenSpec.ofChange calcTwoWrong)

/-- 'pledgelaw01.CalcMuls': WHATEVER THE INPUT: true; the input reads as it did. -/
def calcMulsSpec : ChangeSpec := { name := "calcMuls", fn := fun _ => fun
  | [d1, d2] => { results := [.lit (.bool true)], args := [d1, d2] }
  | _ => none }
def calcMulsRow : OpenClaim := { program := "ytdlkmnpipneonaa", sum := "71fbab3dcd1e29417bcd3413b0ddcf909c1790bfc58461b5d5af6d33f6782f6c", func := "pledge/pledgelaw01.CalcMuls", spec := "calcMuls", inPlace := ["math/bits.Add64"], recurses := true, apart := false }
def CalcMulsSaid : Prop := calcMulsRow.holds Try.pinned (OpenSpec.ofChange calcMulsSpec)

/-- ITS FALSE NEIGHBOUR: 'it returns false'. Refute it at one input. -/
def calcMulsWrong : ChangeSpec := { name := "calcMuls", fn := fun _ => fun
  | [d1, d2] => { results := [.lit (.bool false)], args := [d1, d2] }
  | _ => none }
def CalcMulsWrongFalsely : Prop := calcMulsRow.holds Try.pinned (OpenSpec.ofChange calcMulsWrong)

/-- 'pledgelaw01.CalcSigns': WHATEVER THE INPUT: true; the input reads as it did. -/
def calcSignsSpec : ChangeSpec := { name := "calcSigns", fn := fun _ => fun
  | [d1, d2] => { results := [.lit (.bool true)], args := [d1, d2] }
  | _ => none }
def calcSignsRow : OpenClaim := { program := "ytdlkmnpipneonaa", sum := "71fbab3dcd1e29417bcd3413b0ddcf909c1790bfc58461b5d5af6d33f6782f6c", func := "pledge/pledgelaw01.CalcSigns", spec := "calcSigns", inPlace := ["math/bits.Add64"], apart := false }
def CalcSignsSaid : Prop := calcSignsRow.holds Try.pinned (OpenSpec.ofChange calcSignsSpec)

/-- ITS FALSE NEIGHBOUR: 'it returns false'. Refute it at one input. -/
def calcSignsWrong : ChangeSpec := { name := "calcSigns", fn := fun _ => fun
  | [d1, d2] => { results := [.lit (.bool false)], args := [d1, d2] }
  | _ => none }
def CalcSignsWrongFalsely : Prop := calcSignsRow.holds Try.pinned (OpenSpec.ofChange calcSignsWrong)

/- THE SECOND FORM. 'bulk': how many values and letters a reading holds, each counted each time it is reached (what is shared counts as often as it is met; a slice's spare places count too). A statement '..UptoSaid' is the law's where the arguments, and the package variables that the reading takes, are together of bulk at most 1048576: NARROWER than '..Said'. Prove '..Said' where nothing that the law and all that it calls make is longer than what came in: it says more and counts as full. Else prove '..UptoSaid'. A law counts once. -/
mutual
def uptoBulk {H : Type} : DataW H → Nat
  | .lit (.string bytes) => bytes.length + 1
  | .lit _ => 1
  | .nil => 1
  | .ptr d => uptoBulk d + 1
  | .slice elems spare => uptoBulkAll elems + uptoBulkAll spare + 1
  | .agg parts => uptoBulkAll parts + 1
  | .iface _ d => uptoBulk d + 1
  | .map entries => uptoBulkEntries entries + 1
  | .held _ => 1
def uptoBulkAll {H : Type} : List (DataW H) → Nat
  | [] => 0
  | d :: r => uptoBulk d + uptoBulkAll r
def uptoBulkEntries {H : Type} : List (Lit × DataW H) → Nat
  | [] => 0
  | x :: r => uptoBulkEntry x + uptoBulkEntries r
def uptoBulkEntry {H : Type} : Lit × DataW H → Nat
  | (.string bytes, d) => bytes.length + uptoBulk d + 1
  | (_, d) => uptoBulk d + 1
 end
def uptoSmall : (H : Type) → List (DataW H) → Bool := fun _ ds => decide (uptoBulkAll ds ≤ 1048576)
def OpenSpec.upto (s : _root_.Go.ChangeSpec) : _root_.Go.OpenSpec := { _root_.Go.OpenSpec.ofChange s with cond := some uptoSmall }

/-- 'pledgelaw01.CalcSums', WHERE WHAT IT READS IS OF BULK AT MOST 1048576: true; the input reads as it did. -/
def calcSumsUptoRow : OpenClaim := { program := "ytdlkmnpipneonaa", sum := "71fbab3dcd1e29417bcd3413b0ddcf909c1790bfc58461b5d5af6d33f6782f6c", func := "pledge/pledgelaw01.CalcSums", spec := "calcSums", inPlace := ["math/bits.Add64"], recurses := true, apart := false, narrowed := true }
def CalcSumsUptoSaid : Prop := calcSumsUptoRow.holds Try.pinned (OpenSpec.upto calcSumsSpec)

/-- 'pledgelaw01.CalcTurns', WHERE WHAT IT READS IS OF BULK AT MOST 1048576: true; the input reads as it did. -/
def calcTurnsUptoRow : OpenClaim := { program := "ytdlkmnpipneonaa", sum := "71fbab3dcd1e29417bcd3413b0ddcf909c1790bfc58461b5d5af6d33f6782f6c", func := "pledge/pledgelaw01.CalcTurns", spec := "calcTurns", inPlace := ["math/bits.Add64"], apart := false, narrowed := true }
def CalcTurnsUptoSaid : Prop := calcTurnsUptoRow.holds Try.pinned (OpenSpec.upto calcTurnsSpec)

/-- 'pledgelaw01.CalcBetween', WHERE WHAT IT READS IS OF BULK AT MOST 1048576: true; the input reads as it did. -/
def calcBetweenUptoRow : OpenClaim := { program := "ytdlkmnpipneonaa", sum := "71fbab3dcd1e29417bcd3413b0ddcf909c1790bfc58461b5d5af6d33f6782f6c", func := "pledge/pledgelaw01.CalcBetween", spec := "calcBetween", inPlace := ["math/bits.Add64"], apart := false, narrowed := true }
def CalcBetweenUptoSaid : Prop := calcBetweenUptoRow.holds Try.pinned (OpenSpec.upto calcBetweenSpec)

/-- 'pledgelaw01.CalcBack', WHERE WHAT IT READS IS OF BULK AT MOST 1048576: true; the input reads as it did. -/
def calcBackUptoRow : OpenClaim := { program := "ytdlkmnpipneonaa", sum := "71fbab3dcd1e29417bcd3413b0ddcf909c1790bfc58461b5d5af6d33f6782f6c", func := "pledge/pledgelaw01.CalcBack", spec := "calcBack", inPlace := ["math/bits.Add64"], apart := false, narrowed := true }
def CalcBackUptoSaid : Prop := calcBackUptoRow.holds Try.pinned (OpenSpec.upto calcBackSpec)

/-- 'pledgelaw01.CalcTwo', WHERE WHAT IT READS IS OF BULK AT MOST 1048576: true; the input reads as it did. -/
def calcTwoUptoRow : OpenClaim := { program := "ytdlkmnpipneonaa", sum := "71fbab3dcd1e29417bcd3413b0ddcf909c1790bfc58461b5d5af6d33f6782f6c", func := "pledge/pledgelaw01.CalcTwo", spec := "calcTwo", inPlace := ["math/bits.Add64"], recurses := true, apart := false, narrowed := true }
def CalcTwoUptoSaid : Prop := calcTwoUptoRow.holds Try.pinned (OpenSpec.upto calcTwoSpec)

/-- 'pledgelaw01.CalcMuls', WHERE WHAT IT READS IS OF BULK AT MOST 1048576: true; the input reads as it did. -/
def calcMulsUptoRow : OpenClaim := { program := "ytdlkmnpipneonaa", sum := "71fbab3dcd1e29417bcd3413b0ddcf909c1790bfc58461b5d5af6d33f6782f6c", func := "pledge/pledgelaw01.CalcMuls", spec := "calcMuls", inPlace := ["math/bits.Add64"], recurses := true, apart := false, narrowed := true }
def CalcMulsUptoSaid : Prop := calcMulsUptoRow.holds Try.pinned (OpenSpec.upto calcMulsSpec)

/-- 'pledgelaw01.CalcSigns', WHERE WHAT IT READS IS OF BULK AT MOST 1048576: true; the input reads as it did. -/
def calcSignsUptoRow : OpenClaim := { program := "ytdlkmnpipneonaa", sum := "71fbab3dcd1e29417bcd3413b0ddcf909c1790bfc58461b5d5af6d33f6782f6c", func := "pledge/pledgelaw01.CalcSigns", spec := "calcSigns", inPlace := ["math/bits.Add64"], apart := false, narrowed := true }
def CalcSignsUptoSaid : Prop := calcSignsUptoRow.holds Try.pinned (OpenSpec.upto calcSignsSpec)

end Rows
end Go.Proofs.Ytdlkmnpipneonaa
