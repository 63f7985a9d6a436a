/- Of any two numbers the sum, the difference and the opposite are the reference's, or are told not to fit. -/
import Derived.Test.YtdlkmnpipneonaaGx15
import Derived.Test.YtdlkmnpipneonaaAddSub
namespace Go.Proofs.Ytdlkmnpipneonaa.Pure
open Go.RowKit Go.Proofs.Ytdlkmnpipneonaa.G Go.Proofs.YtdlkmnpipneonaaW.PrintWords Go.Proofs.YtdlkmnpipneonaaW.PrintLast

theorem neg_same (a : Int) (ha : -9223372036854775808 ≤ a ∧ a ≤ 9223372036854775807) : calc_Neg.f a = pledgeref01_Neg.f a := by
  unfold calc_Neg.f pledgeref01_Neg.f
  by_cases c : a = -9223372036854775808
  · rw [if_pos c, if_pos (by omega)]
  · rw [if_neg c, if_neg (by omega)]
theorem ref_add (a b : Int) (ha : -9223372036854775808 ≤ a ∧ a ≤ 9223372036854775807) (hb : -9223372036854775808 ≤ b ∧ b ≤ 9223372036854775807) (k : Nat) (hk : 10 < k) : pledgeref01_Add.f k a b = some (fit (a + b)) := by
  unfold pledgeref01_Add.f
  rw [ref_sum [a, b] (by intro x hx; simp at hx; rcases hx with rfl | rfl <;> assumption) (by simp) k (by simp; omega)]
  simp
theorem ref_sub (a b : Int) (ha : -9223372036854775808 ≤ a ∧ a ≤ 9223372036854775807) (hb : -9223372036854775808 ≤ b ∧ b ≤ 9223372036854775807) (k : Nat) (hk : 10 < k) : pledgeref01_Sub.f k a b = some (fit (a - b)) := by
  unfold pledgeref01_Sub.f
  by_cases c : b < -9223372036854775807
  · rw [if_pos c]
    rw [ref_sum [a, 9223372036854775807, 1] (by intro x hx; simp at hx; rcases hx with rfl | rfl | rfl <;> omega) (by simp) k (by simp; omega)]
    obtain rfl : b = -9223372036854775808 := by omega
    simp
  · rw [if_neg c]
    have e : wrap64 (-b) = -b := by unfold wrap64; omega
    rw [e, ref_sum [a, -b] (by intro x hx; simp at hx; rcases hx with rfl | rfl <;> omega) (by simp) k (by simp; omega)]
    simp [Int.sub_eq_add_neg]
theorem CalcTwo : pledgelaw01_CalcTwo.Pure := by
  intro a b ha hb
  replace ha := wf64 ha
  replace hb := wf64 hb
  refine ⟨20, ?_⟩
  have hn : ∃ x y, pledgeref01_Neg.f a = some (x, y) := by unfold pledgeref01_Neg.f; split <;> exact ⟨_, _, rfl⟩
  obtain ⟨x, y, hn⟩ := hn
  unfold pledgelaw01_CalcTwo.f
  rw [add_fit a b ha hb, sub_fit a b ha hb, neg_same a ha, ref_add a b ha hb 20 (by omega), ref_sub a b ha hb 20 (by omega), hn]
  simp only [Option.bind_some, same_self, if_true, works]

end Go.Proofs.Ytdlkmnpipneonaa.Pure
