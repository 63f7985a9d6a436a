/- The walks of a table's Put and of a fund's grants. -/
import Derived.Test.YtnipjfciphgfjaaFundGet
import Derived.Laws.Cover3
namespace Go.Proofs.Ytnipjfciphgfjaa.V
open Go.RowKit Go.Proofs.Ytnipjfciphgfjaa.G Go.Proofs.YtnipjfciphgfjaaW.PrintWords Go.Proofs.YtnipjfciphgfjaaW.PrintLast Go.Proofs.YtnipjfciphgfjaaW.PrintMore
set_option linter.unusedVariables false
set_option linter.unusedSimpArgs false
set_option maxHeartbeats 2000000
set_option maxRecDepth 100000
theorem map_made (b : Nat) (W : World) : (binOp BinOp.eql 90 (.map (some b)) (.map none)).run Try.prog W = .ok (.bool false) W := by
  have h := run_equal_map_nil (P := Try.prog) W 90 25 64 (some b) Try.underlying90
  simp [binOp, Result.andThen, h]
theorem grown_turned {w W W' : World} {b : Nat} (h : Below w.heap.size w W) (ht : W.mapTurned W' b) : w.grownBy W' (some b) := by
  have g := ht.grown
  exact ⟨g.os.trans h.os, g.tape.trans h.tape, g.output.trans h.output, Nat.le_trans h.size g.size, fun i hi hr => (g.block i (Nat.lt_of_lt_of_le hi h.size) hr).trans (h.block i hi)⟩
theorem table_Put.calls (w : World) (t b n : Nat) (M : Rowmap) (k0 k1 k2 x0 x1 x2 x3 x4 x5 : Int) (ht : w.heap[t]? = some (.cells #[.map (some b)] 92 (0, 0))) (hM : Tab w b n M) (hn : n < maxLen)
    (u0 : U8 k0) (u1 : U8 k1) (u2 : U8 k2) :
    Calls Try.prog 23 #[.pointer (some ⟨t, 0, none⟩), .agg #[.int .u8 k0, .int .u8 k1, .int .u8 k2], .agg #[.int .i64 x0, .int .i64 x1, .int .i64 x2, .int .i64 x3, .int .i64 x4, .int .i64 x5]] w fun e w' =>
      e = .returned (.tuple #[]) ∧ w.grownBy w' (some b) ∧ Tab w' b (n + 1) (M.put (k0, k1, k2) (x0, x1, x2, x3, x4, x5)) := by
  have hc : w.cell? ⟨t, 0, none⟩ = some (.map (some b)) := blk_cell ht 0
  have hlt := World.block_lt_of_cell? _ _ hc
  have q : ∀ c1 c2 t1 t2, Tab ((w.alloc (.cells c1 t1)).alloc (.cells c2 t2)).drew b n M := fun c1 c2 t1 t2 => hM.kept (by
    show ((w.alloc (.cells c1 t1)).alloc (.cells c2 t2)).heap[b]? = _
    have := hM.lt
    rw [Below.heap_alloc _ _ _ (by simp; omega), Below.heap_alloc _ _ _ this])
  have hl : ∀ c1 c2 t1 t2, (Instr.mapUpdate 90 (.map (some b)) (.agg #[.int .u8 k0, .int .u8 k1, .int .u8 k2]) (.agg #[.int .i64 x0, .int .i64 x1, .int .i64 x2, .int .i64 x3, .int .i64 x4, .int .i64 x5])).run Try.prog ((w.alloc (.cells c1 t1)).alloc (.cells c2 t2)).drew = _ :=
    fun c1 c2 t1 t2 => run_putW (q c1 c2 t1 t2) hn u0 u1 u2 x0 x1 x2 x3 x4 x5
  have hp := fun c1 c2 t1 t2 => putW_tab (q c1 c2 t1 t2) hn u0 u1 u2 x0 x1 x2 x3 x4 x5
  have HP := Aside0.mk hp
  have hmm := map_made b
  clear ht hM u0 u1 u2 q hp
  go_enter Try.func23, Try.ntmps23
  go_wp2
  go_region
  all_goals go_wp2
  all_goals (obtain ⟨h1, h2⟩ := HP.out #[.int .u8 k0, .int .u8 k1, .int .u8 k2] #[.int .i64 x0, .int .i64 x1, .int .i64 x2, .int .i64 x3, .int .i64 x4, .int .i64 x5] 25 64)
  all_goals refine bodyPost_end (v := .tuple #[]) (by simp [results, Try.results23, go_sem]) rfl ⟨rfl, ?_, h1⟩
  all_goals exact grown_turned (below_drew1 (below_alloc (below_alloc (Below.refl _ _) _) _)) h2
end Go.Proofs.Ytnipjfciphgfjaa.V
