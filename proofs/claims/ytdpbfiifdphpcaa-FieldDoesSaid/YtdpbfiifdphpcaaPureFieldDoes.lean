/- What any call makes of any field is the reference's, or it is told what is wrong first; of a field that is good a good one. -/
import Derived.Test.YtdpbfiifdphpcaaGx31
import Derived.Test.YtdpbfiifdphpcaaRefs
namespace Go.Proofs.Ytdpbfiifdphpcaa.Pure
set_option linter.unusedSimpArgs false
open Go.RowKit Go.Proofs.Ytdpbfiifdphpcaa.G Go.Proofs.YtdpbfiifdphpcaaW.PrintWords Go.Proofs.YtdpbfiifdphpcaaW.PrintLast Go.Proofs.Ytdpbfiifdphpcaa.Open
/-- A call leaves the field, or makes a good one of it. -/
def Fine (lo hi base inf sup val : Int) (r : Int × Int × Int × Int × Int × Int × Int) : Prop :=
  (∃ b i s v, r = (lo, hi, b, i, s, v, 0) ∧ GoodP lo hi b i s v) ∨ ∃ e, r = (lo, hi, base, inf, sup, val, e)
theorem move_fine (lo hi base inf sup val d v b i s : Int) : Fine lo hi base inf sup val (moveP lo hi base inf sup val d v b i s) := by
  unfold moveP
  split
  · exact .inr ⟨_, rfl⟩
  · split
    · exact .inr ⟨_, rfl⟩
    · split
      · rename_i h; exact .inl ⟨_, _, _, _, rfl, h.2.2.2.2⟩
      · exact .inr ⟨_, rfl⟩
theorem grant_fine {lo hi base inf sup val d : Int} (h : In7 lo hi base inf sup val d) : Fine lo hi base inf sup val (grantP lo hi base inf sup val d) := by
  by_cases g : Gr lo hi base inf sup val d
  · have e := grant_yes h g
    unfold field_Grant.f at e
    rw [in7_pos h] at e
    exact .inl ⟨_, _, _, _, Option.some.inj e, g.good⟩
  · obtain ⟨e, _, he⟩ := grant_no h g
    unfold field_Grant.f at he
    rw [in7_pos h] at he
    exact .inr ⟨_, Option.some.inj he⟩
theorem does_end (lo hi base inf sup val b0 b1 b2 b3 b4 b5 e : Int) (k : Nat) (h : Fine lo hi base inf sup val (b0, b1, b2, b3, b4, b5, e)) :
    pledgelaw17_FieldDoes.j0 (k + 1) e e lo hi base inf sup val b0 b1 b2 b3 b4 b5 b0 b1 b2 b3 b4 b5 = some true := by
  simp only [pledgelaw17_FieldDoes.j0, beq_self_eq_true, Bool.and_self, if_true, field_Good_eq, ref_good, Option.bind_some, works]
  rcases h with ⟨b, i, s, v, hr, hg⟩ | ⟨e', hr⟩
  · simp only [Prod.mk.injEq] at hr
    obtain ⟨rfl, rfl, rfl, rfl, rfl, rfl, rfl⟩ := hr
    rw [decide_eq_true hg]
    by_cases g : GoodP b0 b1 base inf sup val
    · rw [decide_eq_true g]; simp
    · rw [decide_eq_false g]; simp
  · simp only [Prod.mk.injEq] at hr
    obtain ⟨rfl, rfl, rfl, rfl, rfl, rfl, rfl⟩ := hr
    by_cases g : GoodP b0 b1 b2 b3 b4 b5
    · rw [decide_eq_true g]; simp
    · rw [decide_eq_false g]; simp
theorem does_one (lo hi base inf sup val d c : Int) (k : Nat) (r : Int × Int × Int × Int × Int × Int × Int) (n : Int) (hn : Int.tmod c 6 = n) (h0 : n > 0) (h5 : n ≤ 5)
    (hd : pledgelaw17_do.f c lo hi base inf sup val d = some r) (hg : ∃ q, pledgeref17_Grant.f (k + 1) lo hi base inf sup val d = some q) (m0 m1 m2 m3 : Int) (hm : pledgeref17_Moved.f n = some (m0, m1, m2, m3))
    (hx : pledgeref17_Do.f (k + 1) lo hi base inf sup val d m0 m1 m2 m3 = some r) (hf : Fine lo hi base inf sup val r) : pledgelaw17_FieldDoes.f (k + 1) lo hi base inf sup val d c = some true := by
  obtain ⟨q, hq⟩ := hg
  obtain ⟨b0, b1, b2, b3, b4, b5, e⟩ := r
  unfold pledgelaw17_FieldDoes.f
  have ew : wrap64 n = n := by unfold wrap64; omega
  rw [hd, hq, hn]
  simp only [Option.bind_some, h0, if_true]
  rw [ew, hm]
  simp only [Option.bind_some]
  rw [hx]
  simp only [Option.bind_some]
  exact does_end _ _ _ _ _ _ _ _ _ _ _ _ _ k hf
theorem mv_m (x d : Int) : mv x d (-1) = x - d := rfl
theorem mv_0 (x d : Int) : mv x d 0 = x := rfl
theorem mv_1 (x d : Int) : mv x d 1 = x + d := rfl
theorem mv_ite (p : Prop) [Decidable p] (x d a b : Int) : mv x d (if p then a else b) = if p then mv x d a else mv x d b := by split <;> rfl
theorem FieldDoes (a0 a1 a2 a3 a4 a5 d c : Int) (w0 : In .i64 a0) (w1 : In .i64 a1) (w2 : In .i64 a2) (w3 : In .i64 a3) (w4 : In .i64 a4) (w5 : In .i64 a5) (w6 : In .i64 d) (w7 : In .u8 c) : ∃ k, pledgelaw17_FieldDoes.f k a0 a1 a2 a3 a4 a5 d c = some true := by
  have h : In7 a0 a1 a2 a3 a4 a5 d := ⟨wf64 w0, wf64 w1, wf64 w2, wf64 w3, wf64 w4, wf64 w5, wf64 w6⟩
  have hc := wf8 w7
  refine ⟨50 + 1, ?_⟩
  have hg := ref_grant a0 a1 a2 a3 a4 a5 d h 51 (by omega)
  have hm := ref_do a0 a1 a2 a3 a4 a5 d
  have et : Int.tmod c 6 = c % 6 := Int.tmod_eq_emod_of_nonneg hc.1
  have cs : c % 6 = 0 ∨ c % 6 = 1 ∨ c % 6 = 2 ∨ c % 6 = 3 ∨ c % 6 = 4 ∨ c % 6 = 5 := by omega
  rcases cs with e | e | e | e | e | e
  · have fine := grant_fine h
    have eq : pledgelaw17_do.f c a0 a1 a2 a3 a4 a5 d = some (grantP a0 a1 a2 a3 a4 a5 d) := by
      unfold pledgelaw17_do.f
      rw [et, e, if_neg (by decide), if_neg (by decide), if_neg (by decide), if_neg (by decide), if_neg (by decide)]
      unfold field_Grant.f
      rw [in7_pos h]; rfl
    unfold pledgelaw17_FieldDoes.f
    rw [eq, hg, et, e]
    generalize grantP a0 a1 a2 a3 a4 a5 d = r at fine
    obtain ⟨b0, b1, b2, b3, b4, b5, e'⟩ := r
    simp only [Option.bind_some]
    rw [if_neg (by decide)]
    exact does_end _ _ _ _ _ _ _ _ _ _ _ _ _ 50 fine
  · refine does_one _ _ _ _ _ _ _ _ 50 _ 1 (et.trans e) (by decide) (by decide) ?_ ⟨_, hg⟩ _ _ _ _ rfl (hm _ _ _ _ h 51 (by omega)) (move_fine _ _ _ _ _ _ _ _ _ _ _)
    simp only [mv_m, mv_0, mv_ite]
    unfold pledgelaw17_do.f
    rw [et, e, if_pos rfl]
    unfold field_Undo.f
    rw [in7_pos h]; simp only [Option.bind_some, ite_self]
  · refine does_one _ _ _ _ _ _ _ _ 50 _ 2 (et.trans e) (by decide) (by decide) ?_ ⟨_, hg⟩ _ _ _ _ rfl (hm _ _ _ _ h 51 (by omega)) (move_fine _ _ _ _ _ _ _ _ _ _ _)
    simp only [mv_m, mv_0, mv_1, mv_ite]
    unfold pledgelaw17_do.f
    rw [et, e, if_neg (by decide), if_pos rfl]
    unfold field_Settle.f
    rw [in7_pos h]; simp only [Option.bind_some, ite_self]
  · refine does_one _ _ _ _ _ _ _ _ 50 _ 3 (et.trans e) (by decide) (by decide) ?_ ⟨_, hg⟩ _ _ _ _ rfl (hm _ _ _ _ h 51 (by omega)) (move_fine _ _ _ _ _ _ _ _ _ _ _)
    simp only [mv_m, mv_0, mv_ite]
    unfold pledgelaw17_do.f
    rw [et, e, if_neg (by decide), if_neg (by decide), if_pos rfl]
    unfold field_Back.f
    rw [in7_pos h]; simp only [Option.bind_some, ite_self]
  · refine does_one _ _ _ _ _ _ _ _ 50 _ 4 (et.trans e) (by decide) (by decide) ?_ ⟨_, hg⟩ _ _ _ _ rfl (hm _ _ _ _ h 51 (by omega)) (move_fine _ _ _ _ _ _ _ _ _ _ _)
    simp only [mv_m, mv_0, mv_1, mv_ite]
    unfold pledgelaw17_do.f
    rw [et, e, if_neg (by decide), if_neg (by decide), if_neg (by decide), if_pos rfl]
    unfold field_Forth.f
    rw [in7_pos h]; simp only [Option.bind_some, ite_self]
  · refine does_one _ _ _ _ _ _ _ _ 50 _ 5 (et.trans e) (by decide) (by decide) ?_ ⟨_, hg⟩ _ _ _ _ rfl (hm _ _ _ _ h 51 (by omega)) (move_fine _ _ _ _ _ _ _ _ _ _ _)
    simp only [mv_m, mv_0, mv_ite]
    unfold pledgelaw17_do.f
    rw [et, e, if_neg (by decide), if_neg (by decide), if_neg (by decide), if_neg (by decide), if_pos rfl]
    unfold field_Drop.f
    rw [in7_pos h]; simp only [Option.bind_some, ite_self]
end Go.Proofs.Ytdpbfiifdphpcaa.Pure
