/- What was added to any number is taken away again, and the other way round. -/
import Derived.Test.YtdlkmnpipneonaaGx12
import Derived.Test.YtdlkmnpipneonaaAddSub
namespace Go.Proofs.Ytdlkmnpipneonaa.Pure
open Go.RowKit Go.Proofs.Ytdlkmnpipneonaa.G Go.Proofs.YtdlkmnpipneonaaW.PrintWords Go.Proofs.YtdlkmnpipneonaaW.PrintLast

theorem CalcBack : pledgelaw01_CalcBack.Pure := by
  intro a b ha hb
  replace ha := wf64 ha
  replace hb := wf64 hb
  refine ⟨5, ?_⟩
  have fin : pledgelaw01_CalcBack.j0 5 a b = some true := by
    simp only [pledgelaw01_CalcBack.j0]
    rw [sub_fit a b ha hb]
    by_cases c : -9223372036854775808 ≤ a - b ∧ a - b ≤ 9223372036854775807
    · rw [fit_in c]
      simp only [Option.bind_some, if_true]
      rw [add_fit (a - b) b c hb, show a - b + b = a by omega, fit_in ha]
      simp only [Option.bind_some, if_true, works]
    · rw [fit_out c]
      simp only [Option.bind_some, Bool.false_eq_true, if_false, works]
  unfold pledgelaw01_CalcBack.f
  rw [add_fit a b ha hb]
  by_cases c : -9223372036854775808 ≤ a + b ∧ a + b ≤ 9223372036854775807
  · rw [fit_in c]
    simp only [Option.bind_some, if_true]
    rw [sub_fit (a + b) b c hb, show a + b - b = a by omega, fit_in ha]
    simp only [Option.bind_some, if_true]
    exact fin
  · rw [fit_out c]
    simp only [Option.bind_some, Bool.false_eq_true, if_false]
    exact fin

end Go.Proofs.Ytdlkmnpipneonaa.Pure
