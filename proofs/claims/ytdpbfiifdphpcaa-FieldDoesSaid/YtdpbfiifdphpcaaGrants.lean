/- When field.Grant grants, and what it makes of a field then. -/
import Derived.Test.YtdpbfiifdphpcaaPlain
namespace Go.Proofs.Ytdpbfiifdphpcaa.Pure
open Go.RowKit Go.Proofs.Ytdpbfiifdphpcaa.G Go.Proofs.YtdpbfiifdphpcaaW.PrintWords Go.Proofs.YtdpbfiifdphpcaaW.PrintLast Go.Proofs.Ytdpbfiifdphpcaa.Open
/-- What an addition makes of the lower end, of the upper one. -/
def infOf (inf d : Int) : Int := if d < 0 then inf + d else inf
def supOf (sup d : Int) : Int := if d < 0 then sup else sup + d
/-- The addition d is granted. -/
def Gr (lo hi base inf sup val d : Int) : Prop := GoodP lo hi base inf sup val ∧ d ≠ 0 ∧ d ≠ -9223372036854775808 ∧ lo ≤ infOf inf d ∧ supOf sup d ≤ hi
instance (a b c d e f g : Int) : Decidable (Gr a b c d e f g) := inferInstanceAs (Decidable (_ ∧ _))
def In7 (lo hi base inf sup val d : Int) : Prop := In64 lo ∧ In64 hi ∧ In64 base ∧ In64 inf ∧ In64 sup ∧ In64 val ∧ In64 d
theorem in7_pos {α : Type} {lo hi base inf sup val d : Int} (h : In7 lo hi base inf sup val d) (x y : α) : (if In64 lo ∧ In64 hi ∧ In64 base ∧ In64 inf ∧ In64 sup ∧ In64 val ∧ In64 d then x else y) = x := if_pos h
theorem Gr.good {lo hi base inf sup val d : Int} (g : Gr lo hi base inf sup val d) : GoodP lo hi base (infOf inf d) (supOf sup d) (val + d) := by
  unfold Gr GoodP infOf supOf at *
  obtain ⟨⟨h1, h2, h3, h4, h5, h6⟩, _, _, h9, h10⟩ := g
  by_cases c : d < 0
  · simp only [if_pos c] at *; omega
  · simp only [if_neg c] at *; omega
theorem Gr.ins {lo hi base inf sup val d : Int} (g : Gr lo hi base inf sup val d) (h : In7 lo hi base inf sup val d) : In64 (infOf inf d) ∧ In64 (supOf sup d) ∧ In64 (val + d) := by
  have q := g.good
  unfold In7 In64 at h
  unfold GoodP at q
  unfold In64
  omega
theorem grant_yes {lo hi base inf sup val d : Int} (h : In7 lo hi base inf sup val d) (g : Gr lo hi base inf sup val d) : field_Grant.f lo hi base inf sup val d = some (lo, hi, base, infOf inf d, supOf sup d, val + d, 0) := by
  have hi' := g.ins h
  unfold field_Grant.f
  unfold In7 at h
  rw [if_pos h]
  unfold grantP
  rw [if_neg (fun z => z g.1), if_neg (by have := g.2; omega)]
  obtain ⟨_, _, _, g4, g5⟩ := g
  unfold infOf supOf at *
  unfold In64 at hi'
  by_cases c : d < 0
  · simp only [if_pos c] at *
    rw [if_neg (by omega), if_neg (by omega)]
  · simp only [if_neg c] at *
    rw [if_neg (by omega), if_neg (by omega)]
theorem grant_no {lo hi base inf sup val d : Int} (h : In7 lo hi base inf sup val d) (g : ¬ Gr lo hi base inf sup val d) : ∃ e : Int, e ≠ 0 ∧ field_Grant.f lo hi base inf sup val d = some (lo, hi, base, inf, sup, val, e) := by
  unfold field_Grant.f
  unfold In7 at h
  rw [if_pos h]
  unfold grantP
  by_cases c1 : GoodP lo hi base inf sup val
  · rw [if_neg (fun z => z c1)]
    by_cases c2 : d = 0 ∨ d = -9223372036854775808
    · rw [if_pos c2]; exact ⟨1, by decide, rfl⟩
    · rw [if_neg c2]
      have g' : ¬ (lo ≤ infOf inf d ∧ supOf sup d ≤ hi) := fun z => g ⟨c1, fun y => c2 (.inl y), fun y => c2 (.inr y), z.1, z.2⟩
      unfold infOf supOf at g'
      unfold GoodP at c1
      unfold In64 at h
      by_cases c : d < 0
      · simp only [if_pos c] at *
        by_cases c3 : inf + d < -9223372036854775808
        · rw [if_pos c3]; exact ⟨2, by decide, rfl⟩
        · rw [if_neg c3, if_pos (by omega)]; exact ⟨3, by decide, rfl⟩
      · simp only [if_neg c] at *
        by_cases c3 : sup + d > 9223372036854775807
        · rw [if_pos c3]; exact ⟨2, by decide, rfl⟩
        · rw [if_neg c3, if_pos (by omega)]; exact ⟨3, by decide, rfl⟩
  · rw [if_pos c1]; exact ⟨12, by decide, rfl⟩
end Go.Proofs.Ytdpbfiifdphpcaa.Pure
