/- Grants go in any order: two additions are both granted in one order just if they are in the other one, and come to the same. -/
import Derived.Test.YtdpbfiifdphpcaaGx8
import Derived.Test.YtdpbfiifdphpcaaGrants
namespace Go.Proofs.Ytdpbfiifdphpcaa.Pure
open Go.RowKit Go.Proofs.Ytdpbfiifdphpcaa.G Go.Proofs.YtdpbfiifdphpcaaW.PrintWords Go.Proofs.YtdpbfiifdphpcaaW.PrintLast Go.Proofs.Ytdpbfiifdphpcaa.Open
theorem turn_cond {lo hi base inf sup val a b : Int} (g : Gr lo hi base inf sup val a) (h : Gr lo hi base (infOf inf a) (supOf sup a) (val + a) b) :
    Gr lo hi base inf sup val b ∧ Gr lo hi base (infOf inf b) (supOf sup b) (val + b) a := by
  have h1 := h.2.2.2.1
  have h2 := h.2.2.2.2
  have g1 := g.2.2.2.1
  have g2 := g.2.2.2.2
  have g3 := g.1
  unfold GoodP at g3
  have q : Gr lo hi base inf sup val b := by
    refine ⟨g.1, h.2.1, h.2.2.1, ?_, ?_⟩
    · unfold infOf at h1 g1 ⊢
      by_cases ca : a < 0 <;> by_cases cb : b < 0 <;> simp only [ca, cb, if_true, if_false] at h1 g1 ⊢ <;> omega
    · unfold supOf at h2 g2 ⊢
      by_cases ca : a < 0 <;> by_cases cb : b < 0 <;> simp only [ca, cb, if_true, if_false] at h2 g2 ⊢ <;> omega
  have q1 := q.2.2.2.1
  have q2 := q.2.2.2.2
  refine ⟨q, q.good, g.2.1, g.2.2.1, ?_, ?_⟩
  · unfold infOf at h1 g1 q1 ⊢
    by_cases ca : a < 0 <;> by_cases cb : b < 0 <;> simp only [ca, cb, if_true, if_false] at h1 g1 q1 ⊢ <;> omega
  · unfold supOf at h2 g2 q2 ⊢
    by_cases ca : a < 0 <;> by_cases cb : b < 0 <;> simp only [ca, cb, if_true, if_false] at h2 g2 q2 ⊢ <;> omega
theorem FieldTurns (a0 a1 a2 a3 a4 a5 a b : Int) (w0 : In .i64 a0) (w1 : In .i64 a1) (w2 : In .i64 a2) (w3 : In .i64 a3) (w4 : In .i64 a4) (w5 : In .i64 a5) (w6 : In .i64 a) (w7 : In .i64 b) : pledgelaw17_FieldTurns.f a0 a1 a2 a3 a4 a5 a b = some true := by
  have i0 := wf64 w0; have i1 := wf64 w1; have i2 := wf64 w2; have i3 := wf64 w3; have i4 := wf64 w4; have i5 := wf64 w5; have ia := wf64 w6; have ib := wf64 w7
  have ha : In7 a0 a1 a2 a3 a4 a5 a := ⟨i0, i1, i2, i3, i4, i5, ia⟩
  have hb : In7 a0 a1 a2 a3 a4 a5 b := ⟨i0, i1, i2, i3, i4, i5, ib⟩
  unfold pledgelaw17_FieldTurns.f
  by_cases ga : Gr a0 a1 a2 a3 a4 a5 a
  · have ja := ga.ins ha
    have hab : In7 a0 a1 a2 (infOf a3 a) (supOf a4 a) (a5 + a) b := ⟨i0, i1, i2, ja.1, ja.2.1, ja.2.2, ib⟩
    rw [grant_yes ha ga]
    simp only [Option.bind_some]
    by_cases gab : Gr a0 a1 a2 (infOf a3 a) (supOf a4 a) (a5 + a) b
    · obtain ⟨gb, gba⟩ := turn_cond ga gab
      have jb := gb.ins hb
      have hba : In7 a0 a1 a2 (infOf a3 b) (supOf a4 b) (a5 + b) a := ⟨i0, i1, i2, jb.1, jb.2.1, jb.2.2, ia⟩
      rw [grant_yes hab gab, grant_yes hb gb]
      simp only [Option.bind_some]
      rw [grant_yes hba gba]
      have e1 : infOf (infOf a3 a) b = infOf (infOf a3 b) a := by unfold infOf; by_cases ca : a < 0 <;> by_cases cb : b < 0 <;> simp only [ca, cb, if_true, if_false] <;> omega
      have e2 : supOf (supOf a4 a) b = supOf (supOf a4 b) a := by unfold supOf; by_cases ca : a < 0 <;> by_cases cb : b < 0 <;> simp only [ca, cb, if_true, if_false] <;> omega
      have e3 : a5 + a + b = a5 + b + a := by omega
      simp only [Option.bind_some, if_true, beq_self_eq_true, e1, e2, e3, Bool.and_self, works]
    · obtain ⟨e, he, hg⟩ := grant_no hab gab
      rw [hg]
      simp only [Option.bind_some]
      have z : (e == 0) = false := beq_eq_false_iff_ne.mpr he
      by_cases gb : Gr a0 a1 a2 a3 a4 a5 b
      · have jb := gb.ins hb
        have hba : In7 a0 a1 a2 (infOf a3 b) (supOf a4 b) (a5 + b) a := ⟨i0, i1, i2, jb.1, jb.2.1, jb.2.2, ia⟩
        have gba : ¬ Gr a0 a1 a2 (infOf a3 b) (supOf a4 b) (a5 + b) a := fun y => gab (turn_cond gb y).2
        obtain ⟨e', he', hg'⟩ := grant_no hba gba
        have z' : (e' == 0) = false := beq_eq_false_iff_ne.mpr he'
        rw [grant_yes hb gb]
        simp only [Option.bind_some]
        rw [hg']
        simp only [Option.bind_some, if_true, z, z', beq_self_eq_true, he, if_false, works]
      · obtain ⟨e', he', hg'⟩ := grant_no hb gb
        rw [hg']
        simp only [Option.bind_some]
        rw [grant_yes ha ga]
        simp only [Option.bind_some, if_true, z, he', if_false, beq_self_eq_true, works, he]
  · obtain ⟨e, he, hg⟩ := grant_no ha ga
    rw [hg]
    simp only [Option.bind_some]
    by_cases gb : Gr a0 a1 a2 a3 a4 a5 b
    · have jb := gb.ins hb
      have hba : In7 a0 a1 a2 (infOf a3 b) (supOf a4 b) (a5 + b) a := ⟨i0, i1, i2, jb.1, jb.2.1, jb.2.2, ia⟩
      have gba : ¬ Gr a0 a1 a2 (infOf a3 b) (supOf a4 b) (a5 + b) a := fun y => ga (turn_cond gb y).1
      obtain ⟨e', he', hg'⟩ := grant_no hba gba
      have z' : (e' == 0) = false := beq_eq_false_iff_ne.mpr he'
      rw [grant_yes hb gb]
      simp only [Option.bind_some]
      rw [hg']
      simp only [Option.bind_some, if_true, z', he, if_false, beq_self_eq_true, works]
    · obtain ⟨e', he', hg'⟩ := grant_no hb gb
      rw [hg']
      simp only [Option.bind_some]
      rw [hg]
      simp only [Option.bind_some, he, he', if_false, beq_self_eq_true, works, if_true]
end Go.Proofs.Ytdpbfiifdphpcaa.Pure
