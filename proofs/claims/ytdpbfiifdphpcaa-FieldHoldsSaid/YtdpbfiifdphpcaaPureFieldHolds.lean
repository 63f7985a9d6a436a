/- Whatever becomes of what was granted, it stays between the ends that were told, which are within the bounds. -/
import Derived.Test.YtdpbfiifdphpcaaGx13
import Derived.Test.YtdpbfiifdphpcaaRuns
namespace Go.Proofs.Ytdpbfiifdphpcaa.Pure
set_option linter.unusedSimpArgs false
set_option linter.unusedVariables false
open Go.RowKit Go.Proofs.Ytdpbfiifdphpcaa.G Go.Proofs.YtdpbfiifdphpcaaW.PrintWords Go.Proofs.YtdpbfiifdphpcaaW.PrintLast Go.Proofs.Ytdpbfiifdphpcaa.Open
theorem idx2 (i : Nat) (h : i ≤ 1000) : wrap64 ((i : Int) + 1) = ((i + 1 : Nat) : Int) := by unfold wrap64; omega
theorem narrow {d : Int} {t : List Int} (a : Int) : a + negS (d :: t) ≤ a + d + negS t ∧ a + d + posS t ≤ a + posS (d :: t) ∧ a + negS (d :: t) ≤ a + negS t ∧ a + posS t ≤ a + posS (d :: t) := by
  simp only [negS_cons, posS_cons]
  by_cases c : d < 0 <;> simp only [c, if_true, if_false] <;> omega
theorem small (a d lo hi n p : Int) (h0 : In64 lo) (h1 : In64 hi) (h2 : lo ≤ a + d + n) (h3 : a + d + p ≤ hi) (hn : n ≤ 0) (hp : 0 ≤ p) : wrap64 (a + d) = a + d := by
  unfold In64 at h0 h1
  unfold wrap64; omega
theorem holds_from (lo hi fb fi fs fv c0 c1 c2 c3 c4 c5 : Int) (l6 l7 got : List Int) (h0 : In64 lo) (h1 : In64 hi) (hg : Adds got) (hl : got.length ≤ 40) (e0 : lo ≤ fi) (e1 : fs ≤ hi) (n : Nat) :
    ∀ (k i : Nat) (a : Int), i + n = got.length → lo ≤ a + negS (got.drop i) → a + posS (got.drop i) ≤ hi → fi ≤ a + negS (got.drop i) → a + posS (got.drop i) ≤ fs → 2 * n + 5 < k →
      pledgelaw17_FieldHolds.l0 k got a i c0 c1 c2 c3 c4 c5 l6 l7 lo hi fb fi fs fv lo hi a (a + negS (got.drop i)) (a + posS (got.drop i)) (a + negS (got.drop i) + posS (got.drop i)) = some true := by
  induction n with
  | zero =>
    intro k i a hi' g1 g2 g3 g4 hk
    obtain ⟨k, rfl⟩ : ∃ q, k = q + 1 := ⟨k - 1, by omega⟩
    rw [List.drop_of_length_le (by omega)] at g1 g2 g3 g4 ⊢
    simp only [negS, posS, Int.add_zero] at g1 g2 g3 g4 ⊢
    have q : ((i : Int) < (got.length : Int)) = False := eq_false (by omega)
    simp only [pledgelaw17_FieldHolds.l0, q, if_false, if_true, g3, g4, e0, e1, works, Option.bind_some]
  | succ n ih =>
    intro k i a hi' g1 g2 g3 g4 hk
    obtain ⟨k, rfl⟩ : ∃ q, k = q + 2 := ⟨k - 2, by omega⟩
    have hil : i < got.length := by omega
    have q : ((i : Int) < (got.length : Int)) = True := eq_true (by omega)
    have q0 : (0 ≤ (i : Int)) = True := eq_true (by omega)
    have ew := idx2 i (by omega)
    have ih' := fun a' z1 z2 z3 z4 => ih k (i + 1) a' (by omega) z1 z2 z3 z4 (by omega)
    clear ih hk hi'
    have ed : got.drop i = got[i] :: got.drop (i + 1) := List.drop_eq_getElem_cons hil
    have er : rd got (i : Int) = got[i] := by simp [rd, hil]
    have hd := hg _ (List.getElem_mem hil)
    have step : ∀ b : Bool, pledgelaw17_FieldHolds.j1 (k + 1) got a i b c0 c1 c2 c3 c4 c5 l6 l7 lo hi fb fi fs fv lo hi a (a + negS (got.drop i)) (a + posS (got.drop i)) (a + negS (got.drop i) + posS (got.drop i)) = some true := by
      intro b
      simp only [pledgelaw17_FieldHolds.j1, q, q0, if_true, er, ew]
      rw [ed] at g1 g2 g3 g4 ⊢
      generalize got[i] = d at *
      generalize got.drop (i + 1) = t at *
      have nn := narrow (d := d) (t := t) a
      cases b with
      | true =>
        obtain ⟨r1, r2, r3⟩ := run_settle h0 h1 g1 g2 hd
        simp only [if_true]
        rw [r1]
        simp only [Option.bind_some, if_true]
        rw [small a d lo hi _ _ h0 h1 r2 r3 (negS_le t) (posS_ge t)]
        exact ih' _ r2 r3 (Int.le_trans g3 nn.1) (Int.le_trans nn.2.1 g4)
      | false =>
        obtain ⟨r1, r2, r3⟩ := run_undo h0 h1 g1 g2 hd
        simp only [Bool.false_eq_true, if_false]
        rw [r1]
        simp only [Option.bind_some, if_true]
        exact ih' _ r2 r3 (Int.le_trans g3 nn.2.2.1) (Int.le_trans nn.2.2.2 g4)
    simp only [pledgelaw17_FieldHolds.l0, q, q0, if_true]
    by_cases c : (i : Int) < (l7.length : Int)
    · rw [if_pos c]; exact step _
    · rw [if_neg c]; exact step _
theorem FieldHolds (a0 a1 a2 a3 a4 a5 : Int) (l6 l7 : List Int) (w0 : In .u8 a0) (w1 : In .u8 a1) (w2 : In .u8 a2) (w3 : In .i64 a3) (w4 : In .i64 a4) (w5 : In .i64 a5) (hm6 : l6.length ≤ maxLen) (hw6 : ∀ x ∈ l6, (Lit.int .i64 x).wf = true) (hm7 : l7.length ≤ maxLen) (hw7 : ∀ x ∈ l7, (Lit.int .u8 x).wf = true) : ∃ k, pledgelaw17_FieldHolds.f k a0 a1 a2 a3 a4 a5 l6 l7 = some true := by
  refine ⟨200, ?_⟩
  unfold pledgelaw17_FieldHolds.f
  rcases played_eq a0 a1 a2 a3 a4 a5 l6 l7 (wf64 w3) (wf64 w5) (fun x hx => wf64 (hw6 x hx)) 200 (by omega) with ⟨b0, b1, b2, b3, b4, b5, got, h⟩ | ⟨got, h, hl, hg, g1, g2⟩
  · rw [h]
    simp only [Option.bind_some, Bool.false_eq_true, if_false, works]
  · rw [h]
    simp only [Option.bind_some, if_true]
    exact holds_from a3 a5 a4 (a4 + negS got) (a4 + posS got) (a4 + negS got + posS got) a0 a1 a2 a3 a4 a5 l6 l7 got (wf64 w3) (wf64 w5) hg hl g1 g2 got.length 200 0 a4 (by omega) g1 g2 (Int.le_refl _) (Int.le_refl _) (by omega)
end Go.Proofs.Ytdpbfiifdphpcaa.Pure
