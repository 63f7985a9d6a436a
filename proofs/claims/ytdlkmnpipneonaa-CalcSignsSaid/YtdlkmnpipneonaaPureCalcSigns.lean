/- A product's sign and size go with its parts'; in either order it is the same. -/
import Derived.Test.YtdlkmnpipneonaaGx20
import Derived.Test.YtdlkmnpipneonaaMul
namespace Go.Proofs.Ytdlkmnpipneonaa.Pure
open Go.RowKit Go.Proofs.Ytdlkmnpipneonaa.G Go.Proofs.YtdlkmnpipneonaaW.PrintWords Go.Proofs.YtdlkmnpipneonaaW.PrintLast Go.Proofs.YtdlkmnpipneonaaW.PrintMore

theorem CalcSigns : pledgelaw01_CalcSigns.Pure := by
  intro a b ha hb
  replace ha := wf64 ha
  replace hb := wf64 hb
  unfold pledgelaw01_CalcSigns.f
  rw [mul_fit a b ha hb, mul_fit b a hb ha, mul_fit a 1 ha (by omega), mul_fit a 0 ha (by omega), mul_fit a (-1) ha (by omega), Int.mul_comm b a, Int.mul_one, Int.mul_zero, fit_in ha, fit_in (show -9223372036854775808 ≤ (0 : Int) ∧ (0 : Int) ≤ 9223372036854775807 by omega)]
  have hn : calc_Neg.f a = some (fit (a * -1)) := by
    unfold calc_Neg.f
    by_cases c : a = -9223372036854775808
    · rw [if_pos c, fit_out (by omega)]
    · rw [if_neg c, fit_in (by omega)]
      have e : wrap64 (-a) = a * -1 := by unfold wrap64; omega
      rw [e]
  rw [hn]
  simp only [Option.bind_some, same_self, if_true, works]

end Go.Proofs.Ytdlkmnpipneonaa.Pure
