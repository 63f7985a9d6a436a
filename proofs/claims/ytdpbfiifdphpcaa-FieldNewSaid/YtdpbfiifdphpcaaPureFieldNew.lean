/- Of any declaration the field is the reference's, or it is told that its bounds may not be. -/
import Derived.Test.YtdpbfiifdphpcaaGx7
import Derived.Test.YtdpbfiifdphpcaaPlain
namespace Go.Proofs.Ytdpbfiifdphpcaa.Pure
open Go.RowKit Go.Proofs.Ytdpbfiifdphpcaa.G Go.Proofs.YtdpbfiifdphpcaaW.PrintWords Go.Proofs.YtdpbfiifdphpcaaW.PrintLast Go.Proofs.Ytdpbfiifdphpcaa.Open
theorem FieldNew (a0 a1 a2 a3 a4 a5 : Int) (_w0 : In .u8 a0) (_w1 : In .u8 a1) (_w2 : In .u8 a2) (_w3 : In .i64 a3) (_w4 : In .i64 a4) (_w5 : In .i64 a5) : pledgelaw17_FieldNew.f a0 a1 a2 a3 a4 a5 = some true := by
  unfold pledgelaw17_FieldNew.f
  by_cases g : a3 ≤ a4 ∧ a4 ≤ a5
  · have hg : GoodP a3 a5 a4 a4 a4 a4 := ⟨g.1, Int.le_refl _, Int.le_refl _, Int.le_refl _, Int.le_refl _, g.2⟩
    have h1 : field_New.f a0 a1 a2 a3 a4 a5 = some (a3, a5, a4, a4, a4, a4, 0) := by
      unfold field_New.f; rw [field_Good_eq, Option.bind_some, decide_eq_true hg, if_pos rfl]
    have h2 : pledgeref17_New.f a0 a1 a2 a3 a4 a5 = some (a3, a5, a4, a4, a4, a4, 0) := by
      unfold pledgeref17_New.f; rw [if_neg (by omega), if_neg (by omega)]
    rw [h1, h2]
    simp only [Option.bind_some, beq_self_eq_true, Bool.and_self, if_true, field_Good_eq, decide_eq_true hg, works]
  · have hg : ¬ GoodP a3 a5 a4 a4 a4 a4 := fun z => g ⟨z.1, z.2.2.2.2.2⟩
    have h1 : field_New.f a0 a1 a2 a3 a4 a5 = some (0, 0, 0, 0, 0, 0, 3) := by
      unfold field_New.f; rw [field_Good_eq, Option.bind_some, decide_eq_false hg, if_neg Bool.false_ne_true]
    have h2 : pledgeref17_New.f a0 a1 a2 a3 a4 a5 = some (0, 0, 0, 0, 0, 0, 3) := by
      unfold pledgeref17_New.f
      by_cases c : a3 > a4
      · rw [if_pos c]
      · rw [if_neg c, if_pos (by omega)]
    rw [h1, h2]
    simp only [Option.bind_some, beq_self_eq_true, Bool.and_self, if_true, works]
    rw [if_neg (by decide)]
end Go.Proofs.Ytdpbfiifdphpcaa.Pure
