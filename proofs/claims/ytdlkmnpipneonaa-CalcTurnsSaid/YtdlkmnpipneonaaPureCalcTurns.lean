/- The sum of any numbers does not hang on their order. -/
import Derived.Test.YtdlkmnpipneonaaGx7
import Derived.Test.YtdlkmnpipneonaaBase
namespace Go.Proofs.Ytdlkmnpipneonaa.Pure
open Go.RowKit Go.Proofs.Ytdlkmnpipneonaa.G Go.Proofs.YtdlkmnpipneonaaW.PrintWords Go.Proofs.YtdlkmnpipneonaaW.PrintLast

theorem sum_perm {l m : List Int} (h : l.Perm m) : l.sum = m.sum := by
  induction h with
  | nil => rfl
  | cons x _ ih => simp only [List.sum_cons, ih]
  | swap x y l => simp only [List.sum_cons]; omega
  | trans _ _ h1 h2 => rw [h1, h2]
theorem fit_perm {l m : List Int} (h : l.Perm m) : fit l.sum = fit m.sum := by rw [sum_perm h]
theorem turns_end (l m : List Int) (h : ∀ x ∈ l, -9223372036854775808 ≤ x ∧ x ≤ 9223372036854775807) (hn : l.length ≤ 1000) (hp : m.Perm l) (k : Nat) : pledgelaw01_CalcTurns.j1 (k + 1) l m = some true := by
  simp only [pledgelaw01_CalcTurns.j1]
  rw [sum_fit l h hn, sum_fit m (fun x hx => h x (hp.mem_iff.mp hx)) (by rw [hp.length_eq]; exact hn), fit_perm hp]
  simp only [Option.bind_some, same_self, if_true, works]
theorem turns_from (l : List Int) (b : Int) (hb : 0 ≤ b ∧ b ≤ 255) (h : ∀ x ∈ l, -9223372036854775808 ≤ x ∧ x ≤ 9223372036854775807) (hn : l.length ≤ 1000) (i : Nat) :
    ∀ (k : Nat) (m : List Int), i ≤ l.length → i + 3 < k → m = (l.drop i).reverse → pledgelaw01_CalcTurns.l0 k l b m ((i : Int) - 1) = some true := by
  induction i with
  | zero =>
    intro k m hi hk hm
    obtain ⟨k, rfl⟩ : ∃ q, k = q + 2 := ⟨k - 2, by omega⟩
    rw [List.drop_zero] at hm
    have hp : m.Perm l := by rw [hm]; exact List.reverse_perm l
    have hl : m.length ≤ 1000 := by rw [hp.length_eq]; exact hn
    simp only [pledgelaw01_CalcTurns.l0]
    have q0 : ((((0 : Nat) : Int) - 1) ≥ 0) = False := eq_false (by omega)
    simp only [q0, if_false]
    by_cases c : ((m.length : Int) > 0)
    · have q1 : ((m.length : Int) > 0) = True := eq_true c
      have q2 : ((m.length : Int) = 0) = False := eq_false (by omega)
      have e0 : wrap64 b = b := by unfold wrap64; omega
      have e1 : Int.tmod b (m.length : Int) = b % (m.length : Int) := Int.tmod_eq_emod_of_nonneg hb.1
      have b0 : 0 ≤ b % (m.length : Int) := Int.emod_nonneg _ (by omega)
      have b1 : b % (m.length : Int) < (m.length : Int) := Int.emod_lt_of_pos _ c
      have q3 : (0 ≤ b % (m.length : Int)) = True := eq_true b0
      have q4 : (b % (m.length : Int) ≤ (m.length : Int)) = True := eq_true (by omega)
      simp only [q1, q2, if_true, if_false, Option.bind_some, e0, e1, q3, q4]
      generalize (b % (m.length : Int)).toNat = n
      have g1 : (([] : List Int).length + (m.drop n).length < 17592186044416) = True := eq_true (by simp; omega)
      have g2 : ((([] : List Int) ++ m.drop n).length + (m.take n).length < 17592186044416) = True := eq_true (by simp; omega)
      simp only [g1, g2, if_true]
      refine turns_end l _ h hn ?_ k
      rw [List.nil_append]
      exact (List.perm_append_comm.trans (by rw [List.take_append_drop])).trans hp
    · have q1 : ((m.length : Int) > 0) = False := eq_false c
      simp only [q1, if_false]
      exact turns_end l m h hn hp k
  | succ i ih =>
    intro k m hi hk hm
    obtain ⟨k, rfl⟩ : ∃ q, k = q + 1 := ⟨k - 1, by omega⟩
    have hl : m.length ≤ 1000 := by rw [hm, List.length_reverse, List.length_drop]; omega
    have e1 : (((i + 1 : Nat) : Int) - 1) = (i : Int) := by omega
    have e2 : wrap64 ((i : Int) - 1) = (i : Int) - 1 := by unfold wrap64; omega
    have q0 : ((i : Int) ≥ 0) = True := eq_true (by omega)
    have q1 : ((i : Int) < (l.length : Int)) = True := eq_true (by omega)
    have q2 : (m.length < 17592186044416) = True := eq_true (by omega)
    rw [e1]
    simp only [pledgelaw01_CalcTurns.l0, q0, q1, q2, if_true]
    rw [e2]
    refine ih k _ (by omega) (by omega) ?_
    rw [hm, List.drop_eq_getElem_cons (by omega : i < l.length), List.reverse_cons]
    have e3 : rd l (i : Int) = l[i] := by simp [rd, show i < l.length by omega]
    rw [e3]
theorem CalcTurns : pledgelaw01_CalcTurns.Pure := by
  intro l b hm h8 hw hb
  refine ⟨1000, ?_⟩
  have hb' := wf8 hb
  have hx : ∀ x ∈ l, -9223372036854775808 ≤ x ∧ x ≤ 9223372036854775807 := fun x hx => wf64 (hw x hx)
  have h0 : 0 ≤ mn (l.length : Int) 200 ∧ mn (l.length : Int) 200 ≤ 200 ∧ mn (l.length : Int) 200 ≤ (l.length : Int) := by unfold mn; split <;> omega
  unfold pledgelaw01_CalcTurns.f
  rw [if_pos h0.1, if_pos h0.2.2]
  have hl : (l.take ((mn (l.length : Int) 200) : Int).toNat).length ≤ 200 := by rw [List.length_take]; omega
  have hx' : ∀ x ∈ l.take ((mn (l.length : Int) 200) : Int).toNat, -9223372036854775808 ≤ x ∧ x ≤ 9223372036854775807 := fun x h => hx x (List.mem_of_mem_take h)
  generalize l.take ((mn (l.length : Int) 200) : Int).toNat = m at *
  have e : wrap64 ((m.length : Int) - 1) = (m.length : Int) - 1 := by unfold wrap64; omega
  rw [e]
  exact turns_from m b hb' hx' (by omega) m.length 1000 [] (by omega) (by omega) (by simp)

end Go.Proofs.Ytdlkmnpipneonaa.Pure
