/- How far two numbers are apart, where a number lies between them and whether it fits is as the reference says. -/
import Derived.Test.YtdlkmnpipneonaaGx10
import Derived.Test.YtdlkmnpipneonaaBase
namespace Go.Proofs.Ytdlkmnpipneonaa.Pure
open Go.RowKit Go.Proofs.Ytdlkmnpipneonaa.G Go.Proofs.YtdlkmnpipneonaaW.PrintWords Go.Proofs.YtdlkmnpipneonaaW.PrintLast

theorem CalcBetween : pledgelaw01_CalcBetween.Pure := by
  intro a b c ha hb hc
  replace ha := wf64 ha
  replace hb := wf64 hb
  replace hc := wf64 hc
  refine ⟨5, ?_⟩
  have fin : pledgelaw01_CalcBetween.j0 5 a b c false = some true := by
    have hd : pledgeref01_Dist.f a b = calc_Dist.f a b := by
      unfold pledgeref01_Dist.f calc_Dist.f
      by_cases c1 : b < a
      · rw [if_pos c1, if_pos c1]
      · rw [if_neg c1, if_neg c1]
        by_cases c2 : a ≥ 0
        · rw [if_pos c2]; congr 1; simp only [IntKind.wrap_u64]; unfold wrap64; omega
        · rw [if_neg c2]
          by_cases c3 : b < 0
          · rw [if_pos c3]; congr 1; simp only [IntKind.wrap_u64]; unfold wrap64; omega
          · rw [if_neg c3]
            unfold pledgeref01_Size.f
            rw [if_pos (by omega)]
            simp only [Option.bind_some]; congr 1; simp only [IntKind.wrap_u64]; unfold wrap64; omega
    have hcl : pledgeref01_Clip.f c a b = calc_Clip.f c a b := by
      unfold pledgeref01_Clip.f calc_Clip.f mn
      split
      · rfl
      · by_cases z : c > b
        · rw [if_pos z, if_pos (by omega)]
        · rw [if_neg z, if_neg (by omega)]
    simp only [pledgelaw01_CalcBetween.j0]
    rw [if_neg (by decide), hd, hcl]
    have s1 : ∃ x, calc_Dist.f a b = some x := by unfold calc_Dist.f; split <;> exact ⟨_, rfl⟩
    have s2 : ∃ x, calc_Clip.f c a b = some x := by unfold calc_Clip.f; split <;> exact ⟨_, rfl⟩
    obtain ⟨x, hx⟩ := s1
    obtain ⟨y, hy⟩ := s2
    rw [hx, hy]
    simp only [Option.bind_some, if_true, works]
  unfold pledgelaw01_CalcBetween.f calc_Fits.f
  rw [IntKind.wrap_u64]
  by_cases c0 : a ≥ 0
  · rw [if_neg (by omega)]
    have e : wrap64 (a % 18446744073709551616) = a := by unfold wrap64; omega
    simp only [Option.bind_some, e, decide_eq_true c0, bne_self_eq_false, Bool.false_eq_true, if_false, if_true]
    exact fin
  · rw [if_pos (by omega)]
    simp only [Option.bind_some, decide_eq_false c0, bne_self_eq_false, Bool.false_eq_true, if_false]
    exact fin

end Go.Proofs.Ytdlkmnpipneonaa.Pure
