/- calc.Mul answers the product where it fits, else that it does not. -/
import Derived.Test.YtdlkmnpipneonaaGx17
import Derived.Test.YtdlkmnpipneonaaBase
namespace Go.Proofs.Ytdlkmnpipneonaa.Pure
open Go.RowKit Go.Proofs.Ytdlkmnpipneonaa.G Go.Proofs.YtdlkmnpipneonaaW.PrintWords Go.Proofs.YtdlkmnpipneonaaW.PrintLast Go.Proofs.YtdlkmnpipneonaaW.PrintMore

theorem mul_fit (a b : Int) (ha : -9223372036854775808 ≤ a ∧ a ≤ 9223372036854775807) (hb : -9223372036854775808 ≤ b ∧ b ≤ 9223372036854775807) : calc_Mul.f a b = some (fit (a * b)) := by
  unfold calc_Mul.f fit
  rw [if_pos ⟨ha.1, ha.2, hb.1, hb.2⟩]
  split <;> rfl

end Go.Proofs.Ytdlkmnpipneonaa.Pure
