/- Of any numbers calc.Sum answers what the reference's Sum answers (the law reads the first 200). -/
import Derived.Test.YtdlkmnpipneonaaGx6
import Derived.Test.YtdlkmnpipneonaaBase
namespace Go.Proofs.Ytdlkmnpipneonaa.Pure
open Go.RowKit Go.Proofs.Ytdlkmnpipneonaa.G Go.Proofs.YtdlkmnpipneonaaW.PrintWords Go.Proofs.YtdlkmnpipneonaaW.PrintLast

theorem CalcSums : pledgelaw01_CalcSums.Pure := by
  intro l hm h8 hw
  refine ⟨300, ?_⟩
  have hb : ∀ x ∈ l, -9223372036854775808 ≤ x ∧ x ≤ 9223372036854775807 := fun x hx => wf64 (hw x hx)
  have h0 : 0 ≤ mn (l.length : Int) 200 ∧ mn (l.length : Int) 200 ≤ 200 ∧ mn (l.length : Int) 200 ≤ (l.length : Int) := by unfold mn; split <;> omega
  unfold pledgelaw01_CalcSums.f
  rw [if_pos h0.1, if_pos h0.2.2]
  have hb' : ∀ x ∈ l.take ((mn (l.length : Int) 200) : Int).toNat, -9223372036854775808 ≤ x ∧ x ≤ 9223372036854775807 := fun x hx => hb x (List.mem_of_mem_take hx)
  have hl : (l.take ((mn (l.length : Int) 200) : Int).toNat).length ≤ 200 := by rw [List.length_take]; omega
  rw [sum_fit _ hb' (by omega), ref_sum _ hb' (by omega) 300 (by omega)]
  simp only [Option.bind_some, same_self, works, if_true]

end Go.Proofs.Ytdlkmnpipneonaa.Pure
