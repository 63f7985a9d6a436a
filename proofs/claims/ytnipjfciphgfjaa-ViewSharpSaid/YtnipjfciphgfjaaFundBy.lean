/- The walks of a fund's grants. -/
import Derived.Test.YtnipjfciphgfjaaFundPut
namespace Go.Proofs.Ytnipjfciphgfjaa.V
open Go.RowKit Go.Proofs.Ytnipjfciphgfjaa.G Go.Proofs.YtnipjfciphgfjaaW.PrintWords Go.Proofs.YtnipjfciphgfjaaW.PrintLast Go.Proofs.YtnipjfciphgfjaaW.PrintMore
set_option linter.unusedVariables false
set_option linter.unusedSimpArgs false
set_option maxHeartbeats 2000000
set_option maxRecDepth 100000
theorem fund_by.calls (w : World) (g : FuncId) (d : Int) :
    Calls Try.prog 25 #[.func (.func g) #[] #[], .int .i64 d] w fun e w' =>
      e = .returned (.func (.func 41) #[] #[.pointer (some ⟨w.heap.size, 0, none⟩), .pointer (some ⟨w.heap.size + 1, 0, none⟩)]) ∧ w' = (w.alloc (.cells #[.func (.func g) #[] #[]] 73 (0, 0))).alloc (.cells #[.int .i64 d] 2 (0, 0)) := by
  go_enter Try.func25, Try.ntmps25
  go_wp2
  refine bodyPost_ret (v := .func (.func 41) #[] #[.pointer (some ⟨w.heap.size, 0, none⟩), .pointer (some ⟨w.heap.size + 1, 0, none⟩)]) (by simp [results, Try.results25, go_sem]) rfl ⟨rfl, rfl⟩
/-- What a field's call makes, whatever the world. -/
def Makes (g : FuncId) (x : F6) (d : Int) (y : F6) (c : Int) : Prop :=
  ∀ w, Calls Try.prog g #[fv x, .int .i64 d] w fun e w' => e = .returned (.tuple #[fv y, .int .i64 c]) ∧ Below w.heap.size w w'
theorem by_one.calls (w : World) (g : FuncId) (hg : g = 26 ∨ g = 38 ∨ g = 39) (p q : Nat) (x0 x1 x2 x3 x4 x5 d y0 y1 y2 y3 y4 y5 c : Int) (hp : w.heap[p]? = some (.cells #[.func (.func g) #[] #[]] 73 (0, 0))) (hq : w.heap[q]? = some (.cells #[.int .i64 d] 2 (0, 0)))
    (hm : Makes g (x0, x1, x2, x3, x4, x5) d (y0, y1, y2, y3, y4, y5) c) :
    Calls Try.prog 41 #[.agg #[.int .i64 x0, .int .i64 x1, .int .i64 x2, .int .i64 x3, .int .i64 x4, .int .i64 x5], .pointer (some ⟨p, 0, none⟩), .pointer (some ⟨q, 0, none⟩)] w fun e w' =>
      e = .returned (.tuple #[.agg #[.int .i64 y0, .int .i64 y1, .int .i64 y2, .int .i64 y3, .int .i64 y4, .int .i64 y5], .int .i64 c]) ∧ Below w.heap.size w w' := by
  have c1 : w.cell? ⟨p, 0, none⟩ = some (.func (.func g) #[] #[]) := blk_cell hp 0
  have c2 : w.cell? ⟨q, 0, none⟩ = some (.int .i64 d) := blk_cell hq 0
  have l1 := World.block_lt_of_cell? _ _ c1
  have l2 := World.block_lt_of_cell? _ _ c2
  have HM : Aside0 (∀ W : World, Calls Try.prog g #[.agg #[.int .i64 x0, .int .i64 x1, .int .i64 x2, .int .i64 x3, .int .i64 x4, .int .i64 x5], .int .i64 d] W fun e w' => e = .returned (.tuple #[.agg #[.int .i64 y0, .int .i64 y1, .int .i64 y2, .int .i64 y3, .int .i64 y4, .int .i64 y5], .int .i64 c]) ∧ Below W.heap.size W w') := ⟨hm⟩
  clear hm hp hq
  rcases hg with rfl | rfl | rfl
  all_goals
    go_enter Try.func41, Try.ntmps41
    go_wp2_with (first | (go_at_call 26; ((with_reducible refine (HM.out _).mono ?_); rintro e w1 ⟨rfl, hb⟩; obtain ⟨hcc, hff⟩ := bcell hb; have hz : w.heap.size + 1 < w1.heap.size := (by have := hb.size; simp at this; omega))) | (go_at_call 38; ((with_reducible refine (HM.out _).mono ?_); rintro e w1 ⟨rfl, hb⟩; obtain ⟨hcc, hff⟩ := bcell hb; have hz : w.heap.size + 1 < w1.heap.size := (by have := hb.size; simp at this; omega))) | (go_at_call 39; ((with_reducible refine (HM.out _).mono ?_); rintro e w1 ⟨rfl, hb⟩; obtain ⟨hcc, hff⟩ := bcell hb; have hz : w.heap.size + 1 < w1.heap.size := (by have := hb.size; simp at this; omega))))
    refine bodyPost_ret (v := .tuple #[.agg #[.int .i64 y0, .int .i64 y1, .int .i64 y2, .int .i64 y3, .int .i64 y4, .int .i64 y5], .int .i64 c]) (by simp [results, Try.results41, go_sem, hcc, hz]) rfl ⟨rfl, ?_⟩
    have h3 : Below w.heap.size w w1 := below_step (below_alloc (below_alloc (Below.refl _ _) _) _) hb
    (with_reducible repeat (first | exact h3 | apply below_alloc | apply below_drew1 | refine below_set ?_ (by simp)))
end Go.Proofs.Ytnipjfciphgfjaa.V
