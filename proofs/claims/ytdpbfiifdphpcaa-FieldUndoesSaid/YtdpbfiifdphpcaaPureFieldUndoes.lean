/- What is granted is undone to what was; taken back, and brought forth, it is as it was; taken back, and dropped, it is undone. -/
import Derived.Test.YtdpbfiifdphpcaaGx19
import Derived.Test.YtdpbfiifdphpcaaMoves
namespace Go.Proofs.Ytdpbfiifdphpcaa.Pure
open Go.RowKit Go.Proofs.Ytdpbfiifdphpcaa.G Go.Proofs.YtdpbfiifdphpcaaW.PrintWords Go.Proofs.YtdpbfiifdphpcaaW.PrintLast Go.Proofs.Ytdpbfiifdphpcaa.Open
theorem back_yes {lo hi base inf sup val d : Int} (h : In7 lo hi base inf sup val d) (g : GoodP lo hi base inf sup val) (d0 : d ≠ 0) (d1 : d ≠ -9223372036854775808) (q : GoodP lo hi base inf sup (val - d)) :
    field_Back.f lo hi base inf sup val d = some (lo, hi, base, inf, sup, val - d, 0) := by
  unfold field_Back.f
  rw [in7_pos h]
  have h' := h
  have q' := q
  unfold In7 In64 at h'
  unfold GoodP at q'
  rw [move_yes g d0 d1 (by unfold In64; omega) h.2.2.1 h.2.2.2.1 h.2.2.2.2.1 q]
theorem forth_yes {lo hi base inf sup val d : Int} (h : In7 lo hi base inf sup val d) (g : GoodP lo hi base inf sup val) (d0 : d ≠ 0) (d1 : d ≠ -9223372036854775808) (q : GoodP lo hi base inf sup (val + d)) :
    field_Forth.f lo hi base inf sup val d = some (lo, hi, base, inf, sup, val + d, 0) := by
  unfold field_Forth.f
  rw [in7_pos h]
  have h' := h
  have q' := q
  unfold In7 In64 at h'
  unfold GoodP at q'
  rw [move_yes g d0 d1 (by unfold In64; omega) h.2.2.1 h.2.2.2.1 h.2.2.2.2.1 q]
theorem drop_yes {lo hi base inf sup val d : Int} (h : In7 lo hi base inf sup val d) (g : GoodP lo hi base inf sup val) (d0 : d ≠ 0) (d1 : d ≠ -9223372036854775808)
    (q : GoodP lo hi base (if d < 0 then inf - d else inf) (if d < 0 then sup else sup - d) val) :
    field_Drop.f lo hi base inf sup val d = some (lo, hi, base, (if d < 0 then inf - d else inf), (if d < 0 then sup else sup - d), val, 0) := by
  unfold field_Drop.f
  rw [in7_pos h]
  have h' := h
  have q' := q
  unfold In7 In64 at h'
  unfold GoodP at q'
  rw [move_yes g d0 d1 h.2.2.2.2.2.1 h.2.2.1 (by unfold In64; omega) (by unfold In64; omega) q]
theorem undoI (inf d : Int) : (if d < 0 then infOf inf d - d else infOf inf d) = inf := by
  unfold infOf; by_cases c : d < 0 <;> simp only [c, if_true, if_false] <;> omega
theorem undoS (sup d : Int) : (if d < 0 then supOf sup d else supOf sup d - d) = sup := by
  unfold supOf; by_cases c : d < 0 <;> simp only [c, if_true, if_false] <;> omega
theorem FieldUndoes (a0 a1 a2 a3 a4 a5 d : Int) (w0 : In .i64 a0) (w1 : In .i64 a1) (w2 : In .i64 a2) (w3 : In .i64 a3) (w4 : In .i64 a4) (w5 : In .i64 a5) (w6 : In .i64 d) : pledgelaw17_FieldUndoes.f a0 a1 a2 a3 a4 a5 d = some true := by
  have i0 := wf64 w0; have i1 := wf64 w1; have i2 := wf64 w2; have i3 := wf64 w3; have i4 := wf64 w4; have i5 := wf64 w5; have id' := wf64 w6
  have h : In7 a0 a1 a2 a3 a4 a5 d := ⟨i0, i1, i2, i3, i4, i5, id'⟩
  unfold pledgelaw17_FieldUndoes.f
  by_cases g : Gr a0 a1 a2 a3 a4 a5 d
  · have j := g.ins h
    have h2 : In7 a0 a1 a2 (infOf a3 d) (supOf a4 d) (a5 + d) d := ⟨i0, i1, i2, j.1, j.2.1, j.2.2, id'⟩
    have h3 : In7 a0 a1 a2 (infOf a3 d) (supOf a4 d) a5 d := ⟨i0, i1, i2, j.1, j.2.1, i5, id'⟩
    have g2 := g.good
    have e : a5 + d - d = a5 := by omega
    have g3 : GoodP a0 a1 a2 (infOf a3 d) (supOf a4 d) a5 := by
      have g1 := g.1
      have g4 := g.2.2.2
      unfold GoodP infOf supOf at *
      by_cases c : d < 0
      · simp only [if_pos c] at *; omega
      · simp only [if_neg c] at *; omega
    have hu := undo_yes h2 g2 g.2.1 g.2.2.1 (by rw [undoI, undoS, e]; exact g.1)
    rw [undoI, undoS, e] at hu
    have hb := back_yes h2 g2 g.2.1 g.2.2.1 (by rw [e]; exact g3)
    rw [e] at hb
    have hf := forth_yes h3 g3 g.2.1 g.2.2.1 g2
    have hd := drop_yes h3 g3 g.2.1 g.2.2.1 (by rw [undoI, undoS]; exact g.1)
    rw [undoI, undoS] at hd
    rw [grant_yes h g]
    simp only [Option.bind_some, if_true]
    rw [hu, hb]
    simp only [Option.bind_some]
    rw [hf, hd]
    simp only [Option.bind_some, beq_self_eq_true, Bool.and_self, if_true, works]
  · obtain ⟨e, he, hg⟩ := grant_no h g
    rw [hg]
    simp only [Option.bind_some, he, if_false, beq_self_eq_true, Bool.and_self, if_true, works]
end Go.Proofs.Ytdpbfiifdphpcaa.Pure
