/- Just so much may be taken: what an addition's grant hangs on, in plain Lean. -/
import Derived.Test.YtnipjfciphgfjaaFundWorks
namespace Go.Proofs.Ytnipjfciphgfjaa.V
open Go.RowKit Go.Proofs.Ytnipjfciphgfjaa.G Go.Proofs.YtnipjfciphgfjaaW.PrintWords Go.Proofs.YtnipjfciphgfjaaW.PrintLast Go.Proofs.YtnipjfciphgfjaaW.PrintMore
set_option linter.unusedVariables false
set_option linter.unusedSimpArgs false
theorem zero_far : farV 0 0 = 0 := by decide +kernel
theorem sharp (M : Rowmap) (h : WF M) (k : Int × Int × Int) (d : Int) (hd : In64 d) :
    0 ≤ freeAt M k ∧ 0 ≤ roomAt M k ∧ (d = 0 ∨ d = -9223372036854775808 → (stepOf grantOf M k d).2 ≠ 0) ∧
    (d < 0 → d ≠ -9223372036854775808 → ((stepOf grantOf M k d).2 = 0 ↔ -d ≤ freeAt M k)) ∧ (0 < d → ((stepOf grantOf M k d).2 = 0 ↔ d ≤ roomAt M k)) := by
  unfold freeAt roomAt stepOf
  cases hM : M k with
  | none =>
    simp only [Option.getD_none, F6.zero, zero_far]
    refine ⟨by decide, by decide, fun _ => by decide, fun h1 h2 => ⟨fun z => absurd z (by decide), fun z => by omega⟩, fun h1 => ⟨fun z => absurd z (by decide), fun z => by omega⟩⟩
  | some x =>
    obtain ⟨x0, x1, x2, x3, x4, x5⟩ := x
    obtain ⟨hx, hg⟩ := h k _ hM
    simp only [Option.getD_some]
    have g := hg
    simp only [Good6, GoodP] at g
    have h7 : In7 x0 x1 x2 x3 x4 x5 d := ⟨hx.1, hx.2.1, hx.2.2.1, hx.2.2.2.1, hx.2.2.2.2.1, hx.2.2.2.2.2, hd⟩
    rw [farV_eq hx.1 hx.2.2.2.1, farV_eq hx.2.2.2.2.1 hx.2.1, if_neg (show ¬ x3 < x0 by omega), if_neg (show ¬ x1 < x4 by omega)]
    have hin := h7
    unfold In7 In64 at hin
    by_cases gr : Gr x0 x1 x2 x3 x4 x5 d
    · have e : (grantOf (x0, x1, x2, x3, x4, x5) d).2 = 0 := by simp only [grantOf, grantP_yes h7 gr, sixOf]
      simp only [if_pos e]
      obtain ⟨_, d0, d1, r1, r2⟩ := gr
      unfold infOf at r1
      unfold supOf at r2
      refine ⟨by split <;> omega, by split <;> omega, fun z => by omega, fun z1 z2 => ⟨fun _ => ?_, fun _ => trivial⟩, fun z1 => ⟨fun _ => ?_, fun _ => trivial⟩⟩
      · rw [if_pos z1] at r1; split <;> omega
      · rw [if_neg (by omega)] at r2; split <;> omega
    · obtain ⟨e, he, hr⟩ := grantP_no h7 gr
      have e2 : (grantOf (x0, x1, x2, x3, x4, x5) d).2 = e := by simp only [grantOf, hr, sixOf]
      simp only [e2, if_neg he]
      refine ⟨by split <;> omega, by split <;> omega, fun z => he, fun z1 z2 => ⟨fun z => absurd z he, fun z => ?_⟩, fun z1 => ⟨fun z => absurd z he, fun z => ?_⟩⟩
      · exfalso
        apply gr
        refine ⟨hg, by omega, z2, ?_, ?_⟩
        · unfold infOf; rw [if_pos z1]; split at z <;> omega
        · unfold supOf; rw [if_pos z1]; omega
      · exfalso
        apply gr
        refine ⟨hg, by omega, by omega, ?_, ?_⟩
        · unfold infOf; rw [if_neg (by omega)]; omega
        · unfold supOf; rw [if_neg (by omega)]; split at z <;> omega
end Go.Proofs.Ytnipjfciphgfjaa.V
