/- The walks of a fund's Grant, Settle and Undo. -/
import Derived.Test.YtnipjfciphgfjaaFundChange
namespace Go.Proofs.Ytnipjfciphgfjaa.V
open Go.RowKit Go.Proofs.Ytnipjfciphgfjaa.G Go.Proofs.YtnipjfciphgfjaaW.PrintWords Go.Proofs.YtnipjfciphgfjaaW.PrintLast Go.Proofs.YtnipjfciphgfjaaW.PrintMore
set_option linter.unusedVariables false
set_option linter.unusedSimpArgs false
set_option maxHeartbeats 2000000
set_option maxRecDepth 100000
/-- What a call makes of what a fund holds: the new rows, and the error's number. -/
def stepOf (how : F6 → Int → F6 × Int) (M : Rowmap) (k : Int × Int × Int) (d : Int) : Rowmap × Int :=
  match M k with
  | none => (M, 10)
  | some x => if (how x d).2 = 0 then (M.put k (how x d).1, 0) else (M, (how x d).2)
theorem change.calls (how : F6 → Int → F6 × Int) (w : World) (f t b n p q : Nat) (M : Rowmap) (k0 k1 k2 d : Int) (g : FuncId) (hg : g = 26 ∨ g = 38 ∨ g = 39) (hF : IsFund w f t b n M) (hn : n < maxLen) (u0 : U8 k0) (u1 : U8 k1) (u2 : U8 k2)
    (hp : w.heap[p]? = some (.cells #[.func (.func g) #[] #[]] 73 (0, 0))) (hq : w.heap[q]? = some (.cells #[.int .i64 d] 2 (0, 0))) (hm : ∀ x, M (k0, k1, k2) = some x → Makes g x d (how x d).1 (how x d).2) :
    Calls Try.prog 24 #[.pointer (some ⟨f, 0, none⟩), .agg #[.int .u8 k0, .int .u8 k1, .int .u8 k2], .func (.func 41) #[] #[.pointer (some ⟨p, 0, none⟩), .pointer (some ⟨q, 0, none⟩)]] w fun e w' =>
      e = .returned (.int .i64 (stepOf how M (k0, k1, k2) d).2) ∧ w.grownBy w' (some b) ∧ IsFund w' f t b (n + 1) (stepOf how M (k0, k1, k2) d).1 := by
  unfold stepOf
  cases hM : M (k0, k1, k2) with
  | none => exact (change_none w f t b n p q M k0 k1 k2 hF u0 u1 u2 hM).mono fun e w' ⟨e1, e2⟩ => ⟨e1, grown_of_below e2 b, (hF.below e2).mono (Nat.le_succ n)⟩
  | some x =>
    have h := hm x hM
    obtain ⟨x0, x1, x2, x3, x4, x5⟩ := x
    generalize hy : how (x0, x1, x2, x3, x4, x5) d = yc at h ⊢
    obtain ⟨⟨y0, y1, y2, y3, y4, y5⟩, c⟩ := yc
    refine (change_some w f t b n p q M k0 k1 k2 g hg x0 x1 x2 x3 x4 x5 d y0 y1 y2 y3 y4 y5 c hF hn u0 u1 u2 hM hp hq h).mono fun e w' ⟨e1, e2, e3⟩ => ?_
    by_cases h0 : c = 0
    · rw [if_pos h0] at e3
      simp only [hy, h0, if_true]
      subst h0
      exact ⟨e1, e2, e3⟩
    · rw [if_neg h0] at e3
      simp only [hy, h0, if_false]
      exact ⟨e1, e2, e3⟩
theorem fund_Grant.calls (how : F6 → Int → F6 × Int) (w : World) (f t b n : Nat) (M : Rowmap) (k0 k1 k2 d : Int) (hF : IsFund w f t b n M) (hn : n < maxLen) (u0 : U8 k0) (u1 : U8 k1) (u2 : U8 k2)
    (hm : ∀ x, M (k0, k1, k2) = some x → Makes 26 x d (how x d).1 (how x d).2) :
    Calls Try.prog 8 #[.pointer (some ⟨f, 0, none⟩), .agg #[.int .u8 k0, .int .u8 k1, .int .u8 k2, .int .i64 d]] w fun e w' =>
      e = .returned (.int .i64 (stepOf how M (k0, k1, k2) d).2) ∧ w.grownBy w' (some b) ∧ IsFund w' f t b (n + 1) (stepOf how M (k0, k1, k2) d).1 := by
  have hc : ∀ W p q, Below w.heap.size w W → W.heap[p]? = some (.cells #[.func (.func 26) #[] #[]] 73 (0, 0)) → W.heap[q]? = some (.cells #[.int .i64 d] 2 (0, 0)) →
      Calls Try.prog 24 #[.pointer (some ⟨f, 0, none⟩), .agg #[.int .u8 k0, .int .u8 k1, .int .u8 k2], .func (.func 41) #[] #[.pointer (some ⟨p, 0, none⟩), .pointer (some ⟨q, 0, none⟩)]] W fun e w' =>
      e = .returned (.int .i64 (stepOf how M (k0, k1, k2) d).2) ∧ w.grownBy w' (some b) ∧ IsFund w' f t b (n + 1) (stepOf how M (k0, k1, k2) d).1 := fun W p q hW h1 h2 =>
    (change.calls how W f t b n p q M k0 k1 k2 d 26 (by decide) (hF.below hW) hn u0 u1 u2 h1 h2 hm).mono fun e w' ⟨e1, e2, e3⟩ =>
      ⟨e1, ⟨e2.os.trans hW.os, e2.tape.trans hW.tape, e2.output.trans hW.output, Nat.le_trans hW.size e2.size, fun i hi hr => (e2.block i (Nat.lt_of_lt_of_le hi hW.size) hr).trans (hW.block i hi)⟩, e3⟩
  generalize stepOf how M (k0, k1, k2) d = S at hc ⊢
  have hc2 : ∀ o : Obj, Calls Try.prog 24 #[.pointer (some ⟨f, 0, none⟩), .agg #[.int .u8 k0, .int .u8 k1, .int .u8 k2], .func (.func 41) #[] #[.pointer (some ⟨w.heap.size + 1, 0, none⟩), .pointer (some ⟨w.heap.size + 1 + 1, 0, none⟩)]]
      (((w.alloc o).alloc (.cells #[.func (.func 26) #[] #[]] 73 (0, 0))).alloc (.cells #[.int .i64 d] 2 (0, 0))).drew fun e w' =>
      e = .returned (.int .i64 S.2) ∧ w.grownBy w' (some b) ∧ IsFund w' f t b (n + 1) S.1 := fun o =>
    hc _ _ _ (below_drew1 (below_alloc (below_alloc (below_alloc (Below.refl _ _) _) _) _)) (by
      have z := blk_drew (blk_alloc (blk_new (w.alloc o) (.cells #[.func (.func 26) #[] #[]] 73 (0, 0))) (.cells #[.int .i64 d] 2 (0, 0)))
      simpa using z) (by
      have z := blk_drew (blk_new ((w.alloc o).alloc (.cells #[.func (.func 26) #[] #[]] 73 (0, 0))) (.cells #[.int .i64 d] 2 (0, 0)))
      simpa using z)
  have HC := Aside0.mk hc2
  clear hc2
  clear hc hF u0 u1 u2 hm
  go_enter Try.func8, Try.ntmps8
  go_wp2
  go_region_with (first | (go_at_call 25; ((with_reducible refine (fund_by.calls _ _ _).mono ?_); rintro e w' ⟨rfl, rfl⟩)) | (go_at_call 24; ((with_reducible refine (HC.out _).mono ?_); rintro e w1 ⟨rfl, hg1, hF1⟩)))
  all_goals go_wp2
  all_goals refine bodyPost_ret (v := .int .i64 S.2) (by simp [results, Try.results8, go_sem]) rfl ⟨rfl, hg1, hF1⟩
theorem fund_Settle.calls (how : F6 → Int → F6 × Int) (w : World) (f t b n : Nat) (M : Rowmap) (k0 k1 k2 d : Int) (hF : IsFund w f t b n M) (hn : n < maxLen) (u0 : U8 k0) (u1 : U8 k1) (u2 : U8 k2)
    (hm : ∀ x, M (k0, k1, k2) = some x → Makes 38 x d (how x d).1 (how x d).2) :
    Calls Try.prog 19 #[.pointer (some ⟨f, 0, none⟩), .agg #[.int .u8 k0, .int .u8 k1, .int .u8 k2, .int .i64 d]] w fun e w' =>
      e = .returned (.int .i64 (stepOf how M (k0, k1, k2) d).2) ∧ w.grownBy w' (some b) ∧ IsFund w' f t b (n + 1) (stepOf how M (k0, k1, k2) d).1 := by
  have hc : ∀ W p q, Below w.heap.size w W → W.heap[p]? = some (.cells #[.func (.func 38) #[] #[]] 73 (0, 0)) → W.heap[q]? = some (.cells #[.int .i64 d] 2 (0, 0)) →
      Calls Try.prog 24 #[.pointer (some ⟨f, 0, none⟩), .agg #[.int .u8 k0, .int .u8 k1, .int .u8 k2], .func (.func 41) #[] #[.pointer (some ⟨p, 0, none⟩), .pointer (some ⟨q, 0, none⟩)]] W fun e w' =>
      e = .returned (.int .i64 (stepOf how M (k0, k1, k2) d).2) ∧ w.grownBy w' (some b) ∧ IsFund w' f t b (n + 1) (stepOf how M (k0, k1, k2) d).1 := fun W p q hW h1 h2 =>
    (change.calls how W f t b n p q M k0 k1 k2 d 38 (by decide) (hF.below hW) hn u0 u1 u2 h1 h2 hm).mono fun e w' ⟨e1, e2, e3⟩ =>
      ⟨e1, ⟨e2.os.trans hW.os, e2.tape.trans hW.tape, e2.output.trans hW.output, Nat.le_trans hW.size e2.size, fun i hi hr => (e2.block i (Nat.lt_of_lt_of_le hi hW.size) hr).trans (hW.block i hi)⟩, e3⟩
  generalize stepOf how M (k0, k1, k2) d = S at hc ⊢
  have hc2 : ∀ o : Obj, Calls Try.prog 24 #[.pointer (some ⟨f, 0, none⟩), .agg #[.int .u8 k0, .int .u8 k1, .int .u8 k2], .func (.func 41) #[] #[.pointer (some ⟨w.heap.size + 1, 0, none⟩), .pointer (some ⟨w.heap.size + 1 + 1, 0, none⟩)]]
      (((w.alloc o).alloc (.cells #[.func (.func 38) #[] #[]] 73 (0, 0))).alloc (.cells #[.int .i64 d] 2 (0, 0))).drew fun e w' =>
      e = .returned (.int .i64 S.2) ∧ w.grownBy w' (some b) ∧ IsFund w' f t b (n + 1) S.1 := fun o =>
    hc _ _ _ (below_drew1 (below_alloc (below_alloc (below_alloc (Below.refl _ _) _) _) _)) (by
      have z := blk_drew (blk_alloc (blk_new (w.alloc o) (.cells #[.func (.func 38) #[] #[]] 73 (0, 0))) (.cells #[.int .i64 d] 2 (0, 0)))
      simpa using z) (by
      have z := blk_drew (blk_new ((w.alloc o).alloc (.cells #[.func (.func 38) #[] #[]] 73 (0, 0))) (.cells #[.int .i64 d] 2 (0, 0)))
      simpa using z)
  have HC := Aside0.mk hc2
  clear hc2
  clear hc hF u0 u1 u2 hm
  go_enter Try.func19, Try.ntmps19
  go_wp2
  go_region_with (first | (go_at_call 25; ((with_reducible refine (fund_by.calls _ _ _).mono ?_); rintro e w' ⟨rfl, rfl⟩)) | (go_at_call 24; ((with_reducible refine (HC.out _).mono ?_); rintro e w1 ⟨rfl, hg1, hF1⟩)))
  all_goals go_wp2
  all_goals refine bodyPost_ret (v := .int .i64 S.2) (by simp [results, Try.results19, go_sem]) rfl ⟨rfl, hg1, hF1⟩
theorem fund_Undo.calls (how : F6 → Int → F6 × Int) (w : World) (f t b n : Nat) (M : Rowmap) (k0 k1 k2 d : Int) (hF : IsFund w f t b n M) (hn : n < maxLen) (u0 : U8 k0) (u1 : U8 k1) (u2 : U8 k2)
    (hm : ∀ x, M (k0, k1, k2) = some x → Makes 39 x d (how x d).1 (how x d).2) :
    Calls Try.prog 20 #[.pointer (some ⟨f, 0, none⟩), .agg #[.int .u8 k0, .int .u8 k1, .int .u8 k2, .int .i64 d]] w fun e w' =>
      e = .returned (.int .i64 (stepOf how M (k0, k1, k2) d).2) ∧ w.grownBy w' (some b) ∧ IsFund w' f t b (n + 1) (stepOf how M (k0, k1, k2) d).1 := by
  have hc : ∀ W p q, Below w.heap.size w W → W.heap[p]? = some (.cells #[.func (.func 39) #[] #[]] 73 (0, 0)) → W.heap[q]? = some (.cells #[.int .i64 d] 2 (0, 0)) →
      Calls Try.prog 24 #[.pointer (some ⟨f, 0, none⟩), .agg #[.int .u8 k0, .int .u8 k1, .int .u8 k2], .func (.func 41) #[] #[.pointer (some ⟨p, 0, none⟩), .pointer (some ⟨q, 0, none⟩)]] W fun e w' =>
      e = .returned (.int .i64 (stepOf how M (k0, k1, k2) d).2) ∧ w.grownBy w' (some b) ∧ IsFund w' f t b (n + 1) (stepOf how M (k0, k1, k2) d).1 := fun W p q hW h1 h2 =>
    (change.calls how W f t b n p q M k0 k1 k2 d 39 (by decide) (hF.below hW) hn u0 u1 u2 h1 h2 hm).mono fun e w' ⟨e1, e2, e3⟩ =>
      ⟨e1, ⟨e2.os.trans hW.os, e2.tape.trans hW.tape, e2.output.trans hW.output, Nat.le_trans hW.size e2.size, fun i hi hr => (e2.block i (Nat.lt_of_lt_of_le hi hW.size) hr).trans (hW.block i hi)⟩, e3⟩
  generalize stepOf how M (k0, k1, k2) d = S at hc ⊢
  have hc2 : ∀ o : Obj, Calls Try.prog 24 #[.pointer (some ⟨f, 0, none⟩), .agg #[.int .u8 k0, .int .u8 k1, .int .u8 k2], .func (.func 41) #[] #[.pointer (some ⟨w.heap.size + 1, 0, none⟩), .pointer (some ⟨w.heap.size + 1 + 1, 0, none⟩)]]
      (((w.alloc o).alloc (.cells #[.func (.func 39) #[] #[]] 73 (0, 0))).alloc (.cells #[.int .i64 d] 2 (0, 0))).drew fun e w' =>
      e = .returned (.int .i64 S.2) ∧ w.grownBy w' (some b) ∧ IsFund w' f t b (n + 1) S.1 := fun o =>
    hc _ _ _ (below_drew1 (below_alloc (below_alloc (below_alloc (Below.refl _ _) _) _) _)) (by
      have z := blk_drew (blk_alloc (blk_new (w.alloc o) (.cells #[.func (.func 39) #[] #[]] 73 (0, 0))) (.cells #[.int .i64 d] 2 (0, 0)))
      simpa using z) (by
      have z := blk_drew (blk_new ((w.alloc o).alloc (.cells #[.func (.func 39) #[] #[]] 73 (0, 0))) (.cells #[.int .i64 d] 2 (0, 0)))
      simpa using z)
  have HC := Aside0.mk hc2
  clear hc2
  clear hc hF u0 u1 u2 hm
  go_enter Try.func20, Try.ntmps20
  go_wp2
  go_region_with (first | (go_at_call 25; ((with_reducible refine (fund_by.calls _ _ _).mono ?_); rintro e w' ⟨rfl, rfl⟩)) | (go_at_call 24; ((with_reducible refine (HC.out _).mono ?_); rintro e w1 ⟨rfl, hg1, hF1⟩)))
  all_goals go_wp2
  all_goals refine bodyPost_ret (v := .int .i64 S.2) (by simp [results, Try.results20, go_sem]) rfl ⟨rfl, hg1, hF1⟩
end Go.Proofs.Ytnipjfciphgfjaa.V
