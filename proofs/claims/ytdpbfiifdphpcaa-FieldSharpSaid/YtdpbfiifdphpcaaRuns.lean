/- What becomes of a run of additions: what is granted adds up, and goes away again one by one. -/
import Derived.Test.YtdpbfiifdphpcaaMoves
import Derived.Test.YtdpbfiifdphpcaaGx9
namespace Go.Proofs.Ytdpbfiifdphpcaa.Pure
open Go.RowKit Go.Proofs.Ytdpbfiifdphpcaa.G Go.Proofs.YtdpbfiifdphpcaaW.PrintWords Go.Proofs.YtdpbfiifdphpcaaW.PrintLast Go.Proofs.Ytdpbfiifdphpcaa.Open
/-- The sum of those below 0, of the others. -/
def negS : List Int → Int
  | [] => 0
  | d :: t => (if d < 0 then d else 0) + negS t
def posS : List Int → Int
  | [] => 0
  | d :: t => (if d < 0 then 0 else d) + posS t
theorem negS_cons (d : Int) (t : List Int) : negS (d :: t) = (if d < 0 then d else 0) + negS t := rfl
theorem posS_cons (d : Int) (t : List Int) : posS (d :: t) = (if d < 0 then 0 else d) + posS t := rfl
theorem negS_le (l : List Int) : negS l ≤ 0 := by
  induction l with
  | nil => exact Int.le_refl _
  | cons d t ih => unfold negS; split <;> omega
theorem posS_ge (l : List Int) : 0 ≤ posS l := by
  induction l with
  | nil => exact Int.le_refl _
  | cons d t ih => unfold posS; split <;> omega
theorem negS_snoc (l : List Int) (d : Int) : negS (l ++ [d]) = negS l + (if d < 0 then d else 0) := by
  induction l with
  | nil => simp [negS]
  | cons a t ih => simp only [List.cons_append, negS, ih]; omega
theorem posS_snoc (l : List Int) (d : Int) : posS (l ++ [d]) = posS l + (if d < 0 then 0 else d) := by
  induction l with
  | nil => simp [posS]
  | cons a t ih => simp only [List.cons_append, posS, ih]; omega
def Adds (l : List Int) : Prop := ∀ d ∈ l, d ≠ 0 ∧ d ≠ -9223372036854775808 ∧ In64 d
theorem run_settle {lo hi a d : Int} {t : List Int} (h0 : In64 lo) (h1 : In64 hi) (h2 : lo ≤ a + negS (d :: t)) (h3 : a + posS (d :: t) ≤ hi) (hd : d ≠ 0 ∧ d ≠ -9223372036854775808 ∧ In64 d) :
    field_Settle.f lo hi a (a + negS (d :: t)) (a + posS (d :: t)) (a + negS (d :: t) + posS (d :: t)) d = some (lo, hi, a + d, a + d + negS t, a + d + posS t, a + d + negS t + posS t, 0) ∧ lo ≤ a + d + negS t ∧ a + d + posS t ≤ hi := by
  have n := negS_le t
  have p := posS_ge t
  obtain ⟨d0, d1, d2⟩ := hd
  simp only [negS_cons, posS_cons] at h2 h3 ⊢
  unfold In64 at h0 h1
  by_cases c : d < 0
  · simp only [if_pos c] at h2 h3 ⊢
    have e := settle_yes (lo := lo) (hi := hi) (base := a) (inf := a + (d + negS t)) (sup := a + (0 + posS t)) (val := a + (d + negS t) + (0 + posS t)) (d := d) ⟨h0, h1, by unfold In64; omega, by unfold In64; omega, by unfold In64; omega, by unfold In64; omega, d2⟩ (by unfold GoodP; omega) d0 d1 (by simp only [if_pos c]; unfold GoodP; omega)
    simp only [if_pos c] at e
    refine ⟨?_, by omega, by omega⟩
    rw [e]
    have e1 : a + (d + negS t) = a + d + negS t := by omega
    have e2 : a + (0 + posS t) + d = a + d + posS t := by omega
    have e3 : a + d + negS t + (0 + posS t) = a + d + negS t + posS t := by omega
    rw [e1, e2, e3]
  · simp only [if_neg c] at h2 h3 ⊢
    have e := settle_yes (lo := lo) (hi := hi) (base := a) (inf := a + (0 + negS t)) (sup := a + (d + posS t)) (val := a + (0 + negS t) + (d + posS t)) (d := d) ⟨h0, h1, by unfold In64; omega, by unfold In64; omega, by unfold In64; omega, by unfold In64; omega, d2⟩ (by unfold GoodP; omega) d0 d1 (by simp only [if_neg c]; unfold GoodP; omega)
    simp only [if_neg c] at e
    refine ⟨?_, by omega, by omega⟩
    rw [e]
    have e1 : a + (0 + negS t) + d = a + d + negS t := by omega
    have e2 : a + (d + posS t) = a + d + posS t := by omega
    have e3 : a + (0 + negS t) + (a + d + posS t - a) = a + d + negS t + posS t := by omega
    have e4 : a + (0 + negS t) + (d + posS t) = a + d + negS t + posS t := by omega
    rw [e1, e2, e4]
theorem run_undo {lo hi a d : Int} {t : List Int} (h0 : In64 lo) (h1 : In64 hi) (h2 : lo ≤ a + negS (d :: t)) (h3 : a + posS (d :: t) ≤ hi) (hd : d ≠ 0 ∧ d ≠ -9223372036854775808 ∧ In64 d) :
    field_Undo.f lo hi a (a + negS (d :: t)) (a + posS (d :: t)) (a + negS (d :: t) + posS (d :: t)) d = some (lo, hi, a, a + negS t, a + posS t, a + negS t + posS t, 0) ∧ lo ≤ a + negS t ∧ a + posS t ≤ hi := by
  have n := negS_le t
  have p := posS_ge t
  obtain ⟨d0, d1, d2⟩ := hd
  simp only [negS_cons, posS_cons] at h2 h3 ⊢
  unfold In64 at h0 h1
  by_cases c : d < 0
  · simp only [if_pos c] at h2 h3 ⊢
    have e := undo_yes (lo := lo) (hi := hi) (base := a) (inf := a + (d + negS t)) (sup := a + (0 + posS t)) (val := a + (d + negS t) + (0 + posS t)) (d := d) ⟨h0, h1, by unfold In64; omega, by unfold In64; omega, by unfold In64; omega, by unfold In64; omega, d2⟩ (by unfold GoodP; omega) d0 d1 (by simp only [if_pos c]; unfold GoodP; omega)
    simp only [if_pos c] at e
    refine ⟨?_, by omega, by omega⟩
    rw [e]
    have e1 : a + (d + negS t) - d = a + negS t := by omega
    have e2 : a + (0 + posS t) = a + posS t := by omega
    have e3 : a + (d + negS t) + (0 + posS t) - d = a + negS t + posS t := by omega
    rw [e1, e3, e2]
  · simp only [if_neg c] at h2 h3 ⊢
    have e := undo_yes (lo := lo) (hi := hi) (base := a) (inf := a + (0 + negS t)) (sup := a + (d + posS t)) (val := a + (0 + negS t) + (d + posS t)) (d := d) ⟨h0, h1, by unfold In64; omega, by unfold In64; omega, by unfold In64; omega, by unfold In64; omega, d2⟩ (by unfold GoodP; omega) d0 d1 (by simp only [if_neg c]; unfold GoodP; omega)
    simp only [if_neg c] at e
    refine ⟨?_, by omega, by omega⟩
    rw [e]
    have e1 : a + (0 + negS t) = a + negS t := by omega
    have e2 : a + (d + posS t) - d = a + posS t := by omega
    have e3 : a + (0 + negS t) + (d + posS t) - d = a + negS t + posS t := by omega
    rw [e3, e1, e2]

theorem rd_in {l : List Int} (h : ∀ x ∈ l, In64 x) (i : Nat) (hi : i < l.length) : In64 (rd l i) := by
  have : rd l (i : Int) = l[i] := by simp [rd, hi]
  rw [this]; exact h _ (List.getElem_mem hi)
theorem run_grant {lo hi a d : Int} {got : List Int} (h0 : In64 lo) (h1 : In64 hi) (g1 : lo ≤ a + negS got) (g2 : a + posS got ≤ hi) (hd : In64 d) :
    (field_Grant.f lo hi a (a + negS got) (a + posS got) (a + negS got + posS got) d = some (lo, hi, a, a + negS (got ++ [d]), a + posS (got ++ [d]), a + negS (got ++ [d]) + posS (got ++ [d]), 0) ∧ lo ≤ a + negS (got ++ [d]) ∧ a + posS (got ++ [d]) ≤ hi ∧ d ≠ 0 ∧ d ≠ -9223372036854775808) ∨
    ∃ e : Int, e ≠ 0 ∧ field_Grant.f lo hi a (a + negS got) (a + posS got) (a + negS got + posS got) d = some (lo, hi, a, a + negS got, a + posS got, a + negS got + posS got, e) := by
  have n' := negS_le got
  have p' := posS_ge got
  rw [negS_snoc, posS_snoc]
  generalize negS got = n at *
  generalize posS got = p at *
  have h0' := h0
  have h1' := h1
  unfold In64 at h0' h1'
  have h7 : In7 lo hi a (a + n) (a + p) (a + n + p) d := ⟨h0, h1, by unfold In64; omega, by unfold In64; omega, by unfold In64; omega, by unfold In64; omega, hd⟩
  by_cases g : Gr lo hi a (a + n) (a + p) (a + n + p) d
  · left
    have g4 := g.2.2.2
    have e1 : infOf (a + n) d = a + (n + if d < 0 then d else 0) := by
      unfold infOf; by_cases cd : d < 0 <;> simp only [cd, if_true, if_false] <;> omega
    have e2 : supOf (a + p) d = a + (p + if d < 0 then 0 else d) := by
      unfold supOf; by_cases cd : d < 0 <;> simp only [cd, if_true, if_false] <;> omega
    have e3 : a + n + p + d = a + (n + if d < 0 then d else 0) + (p + if d < 0 then 0 else d) := by
      by_cases cd : d < 0 <;> simp only [cd, if_true, if_false] <;> omega
    rw [e1, e2] at g4
    have r := grant_yes h7 g
    rw [e1, e2, e3] at r
    exact ⟨r, g4.1, g4.2, g.2.1, g.2.2.1⟩
  · exact .inr (grant_no h7 g)
theorem idx (i : Nat) (h : i ≤ 40) : wrap64 ((i : Int) + 1) = ((i + 1 : Nat) : Int) := by unfold wrap64; omega
/-- What a run grants: from the i-th addition on, with what was granted of those ahead. -/
theorem played_from (lo hi a e c0 c1 c2 c3 c4 c5 : Int) (l6 l7 : List Int) (h0 : In64 lo) (h1 : In64 hi) (hl : ∀ x ∈ l6, In64 x) (n : Nat) :
    ∀ (k i : Nat) (got : List Int), i + n = 40 → got.length ≤ i → Adds got → lo ≤ a + negS got → a + posS got ≤ hi → 2 * n + 5 < k →
      ∃ got', pledgelaw17_played.l0 k e got i c0 c1 c2 c3 c4 c5 l6 l7 lo hi a (a + negS got) (a + posS got) (a + negS got + posS got) = some (lo, hi, a, a + negS got', a + posS got', a + negS got' + posS got', got', (e == 0)) ∧ got'.length ≤ 40 ∧ Adds got' ∧ lo ≤ a + negS got' ∧ a + posS got' ≤ hi := by
  induction n with
  | zero =>
    intro k i got hi' hgl hg g1 g2 hk
    obtain ⟨k, rfl⟩ : ∃ q, k = q + 2 := ⟨k - 2, by omega⟩
    have q : decide ((i : Int) < 40) = false := decide_eq_false (by omega)
    refine ⟨got, ?_, by omega, hg, g1, g2⟩
    simp only [pledgelaw17_played.l0, pledgelaw17_played.j1]
    by_cases c : (i : Int) < (l6.length : Int)
    · simp only [c, q, if_true, Bool.false_eq_true, if_false]
    · simp only [c, Bool.false_eq_true, if_false]
  | succ n ih =>
    intro k i got hi' hgl hg g1 g2 hk
    obtain ⟨k, rfl⟩ : ∃ q, k = q + 2 := ⟨k - 2, by omega⟩
    have q : decide ((i : Int) < 40) = true := decide_eq_true (by omega)
    have q0 : (0 : Int) ≤ (i : Int) := by omega
    have ew := idx i (by omega)
    have ql : got.length < 17592186044416 := by omega
    have ihs := fun got' (z : got'.length ≤ i + 1) ha h2 h3 => ih k (i + 1) got' (by omega) z ha h2 h3 (by omega)
    have hlen : got.length + 1 ≤ i + 1 := by omega
    have h40 : got.length ≤ 40 := by omega
    clear ih hi' hk
    by_cases c : (i : Int) < (l6.length : Int)
    · have hil' : i < l6.length := by omega
      have hd := rd_in hl i hil'
      simp only [pledgelaw17_played.l0, pledgelaw17_played.j1, c, q, q0, if_true]
      generalize rd l6 i = d at *
      rcases run_grant h0 h1 g1 g2 hd with ⟨hr, r1, r2, r3, r4⟩ | ⟨e', he', hr⟩
      · rw [hr]
        simp only [Option.bind_some, if_true, ql]
        rw [ew]
        refine ihs _ (by rw [List.length_append]; exact hlen) ?_ r1 r2
        intro x hm
        rcases List.mem_append.1 hm with hm | hm
        · exact hg x hm
        · obtain rfl := List.mem_singleton.1 hm
          exact ⟨r3, r4, hd⟩
      · rw [hr]
        simp only [Option.bind_some, he', if_false]
        rw [ew]
        exact ihs got (Nat.le_trans hgl (Nat.le_succ _)) hg g1 g2
    · refine ⟨got, ?_, h40, hg, g1, g2⟩
      simp only [pledgelaw17_played.l0, pledgelaw17_played.j1, c, Bool.false_eq_true, if_false]
theorem New_eq (a0 a1 a2 a3 a4 a5 : Int) : field_New.f a0 a1 a2 a3 a4 a5 = some (if a3 ≤ a4 ∧ a4 ≤ a5 then (a3, a5, a4, a4, a4, a4, 0) else (0, 0, 0, 0, 0, 0, 3)) := by
  unfold field_New.f
  rw [field_Good_eq, Option.bind_some]
  by_cases g : a3 ≤ a4 ∧ a4 ≤ a5
  · rw [decide_eq_true (show GoodP a3 a5 a4 a4 a4 a4 from ⟨g.1, Int.le_refl _, Int.le_refl _, Int.le_refl _, Int.le_refl _, g.2⟩), if_pos rfl, if_pos g]
  · rw [decide_eq_false (fun z : GoodP a3 a5 a4 a4 a4 a4 => g ⟨z.1, z.2.2.2.2.2⟩), if_neg Bool.false_ne_true, if_neg g]
/-- A run: where the declaration is none it is told so; else what is granted. -/
theorem played_eq (a0 a1 a2 a3 a4 a5 : Int) (l6 l7 : List Int) (h3 : In64 a3) (h5 : In64 a5) (hl : ∀ x ∈ l6, In64 x) (k : Nat) (hk : 90 < k) :
    (∃ b0 b1 b2 b3 b4 b5 got, pledgelaw17_played.f k a0 a1 a2 a3 a4 a5 l6 l7 = some (b0, b1, b2, b3, b4, b5, got, false)) ∨
    ∃ got, pledgelaw17_played.f k a0 a1 a2 a3 a4 a5 l6 l7 = some (a3, a5, a4, a4 + negS got, a4 + posS got, a4 + negS got + posS got, got, true) ∧ got.length ≤ 40 ∧ Adds got ∧ a3 ≤ a4 + negS got ∧ a4 + posS got ≤ a5 := by
  unfold pledgelaw17_played.f
  rw [New_eq, Option.bind_some]
  by_cases g : a3 ≤ a4 ∧ a4 ≤ a5
  · rw [if_pos g]
    right
    obtain ⟨got, h, r⟩ := played_from a3 a5 a4 0 a0 a1 a2 a3 a4 a5 l6 l7 h3 h5 hl 40 k 0 [] (by omega) (by simp) (fun d hd => by cases hd) (by simp [negS]; omega) (by simp [posS]; omega) (by omega)
    simp only [negS, posS, Int.add_zero] at h
    exact ⟨got, h, r⟩
  · rw [if_neg g]
    left
    obtain ⟨got, h, r⟩ := played_from 0 0 0 3 a0 a1 a2 a3 a4 a5 l6 l7 (by decide) (by decide) hl 40 k 0 [] (by omega) (by simp) (fun d hd => by cases hd) (by simp [negS]) (by simp [posS]) (by omega)
    simp only [negS, posS, Int.add_zero] at h
    exact ⟨_, _, _, _, _, _, got, h⟩
end Go.Proofs.Ytdpbfiifdphpcaa.Pure
