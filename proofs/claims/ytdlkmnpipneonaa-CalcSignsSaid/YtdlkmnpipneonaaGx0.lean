/- What functions of the program answer, for all inputs of which their Lean functions tell an answer; printed by a program of this session with the kit's printer, over contracts that this session proved by hand. -/
import Derived.Test.YtdlkmnpipneonaaProg
import Derived.Below
import Derived.Deep.Draws
import Derived.Deep.AppendLies
import Derived.Maps.AppendAt
import Derived.OwnWalk
import Derived.Laws.BytesArg
import Derived.Laws.MakeOwn
import Derived.Laws.OwnMore
import Derived.Deep.OwnRows
import Derived.Tactics
import Derived.Lib.ConvBytes
import Derived.Laws.Slices
import Derived.WalkKit
import Derived.KernelRfl
import Derived.RowKit3
import Derived.Deep.LoopGhost
import Derived.Deep.QuietTactic
import Derived.BigQuiet
import Derived.WideLaws
import Derived.Deep.DeepCutAuto
import Derived.Deep.CutBlock
import Derived.Deep.RegionHeld3
import Derived.Laws.Rows
import Derived.Lib.AppendStr
import Derived.ArgAppend
import Derived.Laws.IdiomCopy
import Derived.OrdersHeld
import Derived.Laws.BitsLemmas
import Derived.RowKit
import Derived.Test.YtdlkmnpipneonaaWWords
import Derived.Test.YtdlkmnpipneonaaWLast
import Derived.Test.YtdlkmnpipneonaaWTab
import Derived.Test.YtdlkmnpipneonaaWFour
import Derived.Test.YtdlkmnpipneonaaWQPut
import Derived.Test.YtdlkmnpipneonaaWApart
import Derived.Test.YtdlkmnpipneonaaWArr
import Derived.Test.YtdlkmnpipneonaaWZeros
import Derived.Test.YtdlkmnpipneonaaWFoot
import Derived.Test.YtdlkmnpipneonaaWKept
import Derived.Test.YtdlkmnpipneonaaWShare
import Derived.Test.YtdlkmnpipneonaaWN
import Derived.Test.YtdlkmnpipneonaaWFootNe
import Derived.Test.YtdlkmnpipneonaaWAt
import Derived.Test.YtdlkmnpipneonaaWEqStruct
import Derived.Test.YtdlkmnpipneonaaWRepsOne
import Derived.Test.YtdlkmnpipneonaaWInv
import Derived.Test.YtdlkmnpipneonaaWInvWords
import Derived.Test.YtdlkmnpipneonaaWGuard
import Derived.Test.YtdlkmnpipneonaaWNEv
import Derived.Test.YtdlkmnpipneonaaWMore
namespace Go.Proofs.Ytdlkmnpipneonaa.G
open Go.RowKit Go.Proofs.YtdlkmnpipneonaaW.PrintWords Go.Proofs.YtdlkmnpipneonaaW.PrintLast Go.Proofs.YtdlkmnpipneonaaW.PrintMore
attribute [local go_sem] max2_int min2_int max_two min_two max_three min_three max_four min_four   -- for this text's walks alone
set_option linter.unusedVariables false
set_option linter.unusedSimpArgs false



def errW : Option Int → Value
  | none => .nilIface
  | some c => .iface 0 (.int .i64 c)
theorem errW_none : errW none = .nilIface := rfl
theorem errW_some (c : Int) : errW (some c) = .iface 0 (.int .i64 c) := rfl

theorem info2 : (Try.prog.info? 2).map (fun i => (i.zero, i.size, i.bytes)) = some (some (.int .i64 0), 1, 8) := by kernel_rfl
-- the values' own types

end Go.Proofs.Ytdlkmnpipneonaa.G
