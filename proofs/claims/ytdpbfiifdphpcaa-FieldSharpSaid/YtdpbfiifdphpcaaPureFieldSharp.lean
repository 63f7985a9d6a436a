/- The ends are come to: settling just those below 0 comes to Inf, just those above 0 to Sup; one more is granted just if it leads from these to no place beyond a bound. -/
import Derived.Test.YtdpbfiifdphpcaaGx15
import Derived.Test.YtdpbfiifdphpcaaRuns
namespace Go.Proofs.Ytdpbfiifdphpcaa.Pure
set_option linter.unusedSimpArgs false
set_option linter.unusedVariables false
open Go.RowKit Go.Proofs.Ytdpbfiifdphpcaa.G Go.Proofs.YtdpbfiifdphpcaaW.PrintWords Go.Proofs.YtdpbfiifdphpcaaW.PrintLast Go.Proofs.Ytdpbfiifdphpcaa.Open
theorem dist_eq (a b : Int) (ha : In64 a) (hb : In64 b) (h : a ≤ b) : pledgeref01_Dist.f a b = some (b - a) := by
  unfold In64 at ha hb
  unfold pledgeref01_Dist.f
  rw [if_neg (by omega)]
  by_cases c2 : a ≥ 0
  · rw [if_pos c2]; congr 1; simp only [IntKind.wrap_u64]; unfold wrap64; omega
  · rw [if_neg c2]
    by_cases c3 : b < 0
    · rw [if_pos c3]; congr 1; simp only [IntKind.wrap_u64]; unfold wrap64; omega
    · rw [if_neg c3]
      unfold pledgeref01_Size.f
      rw [if_pos (by omega)]
      simp only [Option.bind_some]; congr 1; simp only [IntKind.wrap_u64]; unfold wrap64; omega
theorem sharp_end (d lo hi a fi fs fv : Int) (got : List Int) (k : Nat) (h : In7 lo hi a fi fs fv d) (g : GoodP lo hi a fi fs fv) : pledgelaw17_FieldSharp.l0 (k + 1) d got 2 lo hi a fi fs fv = some true := by
  have q2 : ((2 : Int) < 2) = False := eq_false (by decide)
  have h' := h
  unfold In7 In64 at h'
  have g' := g
  unfold GoodP at g'
  have e1 := dist_eq fs hi h.2.2.2.2.1 h.2.1 (by omega)
  have e2 := dist_eq lo fi h.1 h.2.2.2.1 (by omega)
  simp only [pledgelaw17_FieldSharp.l0, q2, if_false]
  by_cases gr : Gr lo hi a fi fs fv d
  · rw [grant_yes h gr]
    simp only [Option.bind_some, beq_self_eq_true]
    obtain ⟨_, d0, d1, r1, r2⟩ := gr
    unfold infOf at r1
    unfold supOf at r2
    by_cases c : d < 0
    · have n : ¬ d > 0 := by omega
      simp only [if_pos c] at r1
      rw [if_neg n, if_pos c, if_neg d1, e2]
      have e3 : IntKind.u64.wrap (wrap64 (-d)) ≤ fi - lo := by rw [IntKind.wrap_u64]; unfold wrap64; omega
      simp only [Option.bind_some, e3, decide_true, beq_self_eq_true, if_true, works]
    · have n : d > 0 := by omega
      simp only [if_neg c] at r2
      rw [if_pos n, e1]
      have e3 : IntKind.u64.wrap d ≤ hi - fs := by rw [IntKind.wrap_u64]; omega
      simp only [Option.bind_some, e3, beq_self_eq_true, if_true, works]
  · obtain ⟨e, he, hr⟩ := grant_no h gr
    have z : (e == 0) = false := beq_eq_false_iff_ne.mpr he
    rw [hr]
    simp only [Option.bind_some, z]
    by_cases c : d < 0
    · have n : ¬ d > 0 := by omega
      rw [if_neg n, if_pos c]
      by_cases c1 : d = -9223372036854775808
      · rw [if_pos c1]
        simp only [Option.bind_some, beq_self_eq_true, if_true, works]
      · rw [if_neg c1, e2]
        have e3 : ¬ IntKind.u64.wrap (wrap64 (-d)) ≤ fi - lo := by
          intro y
          apply gr
          refine ⟨g, by omega, c1, ?_, ?_⟩
          · unfold infOf; rw [if_pos c]; rw [IntKind.wrap_u64] at y; unfold wrap64 at y; omega
          · unfold supOf; rw [if_pos c]; omega
        simp only [Option.bind_some, e3, decide_false, beq_self_eq_true, if_true, works]
    · by_cases n : d > 0
      · rw [if_pos n, e1]
        have e3 : ¬ IntKind.u64.wrap d ≤ hi - fs := by
          intro y
          apply gr
          refine ⟨g, by omega, by omega, ?_, ?_⟩
          · unfold infOf; rw [if_neg c]; omega
          · unfold supOf; rw [if_neg c]; rw [IntKind.wrap_u64] at y; omega
        simp only [Option.bind_some, e3, c, if_false, beq_self_eq_true, if_true, works]
      · rw [if_neg n, if_neg c]
        simp only [Option.bind_some, beq_self_eq_true, if_true, works]
theorem idx3 (i : Nat) (h : i ≤ 1000) : wrap64 ((i : Int) + 1) = ((i + 1 : Nat) : Int) := by unfold wrap64; omega
/-- One of the two ways: those of the sign s are settled, the others undone. -/
theorem sharp_from (d lo hi fb fi fs fv : Int) (got : List Int) (h0 : In64 lo) (h1 : In64 hi) (hg : Adds got) (hl : got.length ≤ 40) (s : Int) (hs : s = 0 ∨ s = 1) (K : Nat)
    (fin : ∀ k, K < k → pledgelaw17_FieldSharp.l0 k d got (s + 1) lo hi fb fi fs fv = some true) (n : Nat) :
    ∀ (k i : Nat) (a : Int), i + n = got.length → lo ≤ a + negS (got.drop i) → a + posS (got.drop i) ≤ hi → (s = 0 → a + negS (got.drop i) = fi) → (s = 1 → a + posS (got.drop i) = fs) → n + K + 5 < k →
      pledgelaw17_FieldSharp.l1 k d got s i lo hi fb fi fs fv lo hi a (a + negS (got.drop i)) (a + posS (got.drop i)) (a + negS (got.drop i) + posS (got.drop i)) = some true := by
  induction n with
  | zero =>
    intro k i a hi' g1 g2 g3 g4 hk
    obtain ⟨k, rfl⟩ : ∃ q, k = q + 1 := ⟨k - 1, by omega⟩
    rw [List.drop_of_length_le (by omega)] at g1 g2 g3 g4 ⊢
    simp only [negS, posS, Int.add_zero] at g1 g2 g3 g4 ⊢
    have q : ((i : Int) < (got.length : Int)) = False := eq_false (by omega)
    have f := fin k (by omega)
    simp only [pledgelaw17_FieldSharp.l1, q, if_false]
    rcases hs with rfl | rfl
    · have e := g3 rfl
      have ew : wrap64 ((0 : Int) + 1) = 0 + 1 := by unfold wrap64; omega
      have z : ((0 : Int) = 1) = False := eq_false (by decide)
      simp only [z, if_true, if_false, e, ew, f]
    · have e := g4 rfl
      have ew : wrap64 ((1 : Int) + 1) = 1 + 1 := by unfold wrap64; omega
      have z : ((1 : Int) = 0) = False := eq_false (by decide)
      simp only [z, if_true, if_false, e, ew, f]
  | succ n ih =>
    intro k i a hi' g1 g2 g3 g4 hk
    obtain ⟨k, rfl⟩ : ∃ q, k = q + 1 := ⟨k - 1, by omega⟩
    have hil : i < got.length := by omega
    have q : ((i : Int) < (got.length : Int)) = True := eq_true (by omega)
    have q0 : (0 ≤ (i : Int)) = True := eq_true (by omega)
    have ew := idx3 i (by omega)
    have ih' := fun a' z1 z2 z3 z4 => ih k (i + 1) a' (by omega) z1 z2 z3 z4 (by omega)
    clear ih hk hi' fin
    have ed : got.drop i = got[i] :: got.drop (i + 1) := List.drop_eq_getElem_cons hil
    have er : rd got (i : Int) = got[i] := by simp [rd, hil]
    have hd := hg _ (List.getElem_mem hil)
    simp only [pledgelaw17_FieldSharp.l1, q, q0, if_true, er, ew]
    rw [ed] at g1 g2 g3 g4 ⊢
    generalize got[i] = x at *
    generalize got.drop (i + 1) = t at *
    by_cases c : ((decide (x < 0)) == (s == 0)) = true
    · rw [if_pos c]
      obtain ⟨r1, r2, r3⟩ := run_settle h0 h1 g1 g2 hd
      rw [r1]
      simp only [Option.bind_some]
      refine ih' _ r2 r3 (fun e => ?_) (fun e => ?_)
      · have z := g3 e
        subst e
        have cx : x < 0 := by simpa using c
        rw [negS_cons, if_pos cx] at z; omega
      · have z := g4 e
        subst e
        have cx : ¬ x < 0 := by simpa using c
        rw [posS_cons, if_neg cx] at z; omega
    · rw [if_neg c]
      obtain ⟨r1, r2, r3⟩ := run_undo h0 h1 g1 g2 hd
      rw [r1]
      simp only [Option.bind_some]
      refine ih' _ r2 r3 (fun e => ?_) (fun e => ?_)
      · have z := g3 e
        subst e
        have cx : ¬ x < 0 := by simpa using c
        rw [negS_cons, if_neg cx] at z; omega
      · have z := g4 e
        subst e
        have cx : x < 0 := by simpa using c
        rw [posS_cons, if_pos cx] at z; omega
theorem FieldSharp (a0 a1 a2 a3 a4 a5 : Int) (l6 l7 : List Int) (d : Int) (w0 : In .u8 a0) (w1 : In .u8 a1) (w2 : In .u8 a2) (w3 : In .i64 a3) (w4 : In .i64 a4) (w5 : In .i64 a5) (hm6 : l6.length ≤ maxLen) (hw6 : ∀ x ∈ l6, (Lit.int .i64 x).wf = true) (hm7 : l7.length ≤ maxLen) (hw7 : ∀ x ∈ l7, (Lit.int .u8 x).wf = true) (w8 : In .i64 d) : ∃ k, pledgelaw17_FieldSharp.f k a0 a1 a2 a3 a4 a5 l6 l7 d = some true := by
  refine ⟨500, ?_⟩
  unfold pledgelaw17_FieldSharp.f
  rcases played_eq a0 a1 a2 a3 a4 a5 l6 l7 (wf64 w3) (wf64 w5) (fun x hx => wf64 (hw6 x hx)) 500 (by omega) with ⟨b0, b1, b2, b3, b4, b5, got, h⟩ | ⟨got, h, hl, hg, g1, g2⟩
  · rw [h]
    simp only [Option.bind_some, Bool.false_eq_true, if_false, works]
  · rw [h]
    simp only [Option.bind_some, if_true]
    have n := negS_le got
    have p := posS_ge got
    have h3 := wf64 w3
    have h5 := wf64 w5
    have g : GoodP a3 a5 a4 (a4 + negS got) (a4 + posS got) (a4 + negS got + posS got) := by unfold GoodP; omega
    have h7 : In7 a3 a5 a4 (a4 + negS got) (a4 + posS got) (a4 + negS got + posS got) d := by
      unfold In64 at h3 h5
      exact ⟨h3, h5, by unfold In64; omega, by unfold In64; omega, by unfold In64; omega, by unfold In64; omega, wf64 w8⟩
    have q0 : ((0 : Int) < 2) = True := eq_true (by decide)
    have q1 : ((0 : Int) + 1 < 2) = True := eq_true (by decide)
    have end2 : ∀ k, 0 < k → pledgelaw17_FieldSharp.l0 k d got (1 + 1) a3 a5 a4 (a4 + negS got) (a4 + posS got) (a4 + negS got + posS got) = some true := by
      intro k hk
      obtain ⟨k, rfl⟩ : ∃ q, k = q + 1 := ⟨k - 1, by omega⟩
      exact sharp_end d a3 a5 a4 _ _ _ got k h7 g
    have end1 : ∀ k, 100 < k → pledgelaw17_FieldSharp.l0 k d got (0 + 1) a3 a5 a4 (a4 + negS got) (a4 + posS got) (a4 + negS got + posS got) = some true := by
      intro k hk
      obtain ⟨k, rfl⟩ : ∃ q, k = q + 1 := ⟨k - 1, by omega⟩
      simp only [pledgelaw17_FieldSharp.l0, q1, if_true]
      exact sharp_from d a3 a5 a4 (a4 + negS got) (a4 + posS got) (a4 + negS got + posS got) got h3 h5 hg hl 1 (.inr rfl) 0 end2 got.length k 0 a4 (by omega) g1 g2 (fun z => by cases z) (fun _ => rfl) (by omega)
    simp only [pledgelaw17_FieldSharp.l0, q0, if_true]
    exact sharp_from d a3 a5 a4 (a4 + negS got) (a4 + posS got) (a4 + negS got + posS got) got h3 h5 hg hl 0 (.inl rfl) 100 end1 got.length 499 0 a4 (by omega) g1 g2 (fun _ => rfl) (fun z => by cases z) (by omega)
end Go.Proofs.Ytdpbfiifdphpcaa.Pure
