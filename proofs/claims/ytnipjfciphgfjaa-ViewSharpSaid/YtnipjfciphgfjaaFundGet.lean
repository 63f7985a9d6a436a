/- The walks of a table's functions. -/
import Derived.Test.YtnipjfciphgfjaaFundTab
import Derived.Test.YtnipjfciphgfjaaGx3
import Derived.Test.YtnipjfciphgfjaaGx5
import Derived.Test.YtnipjfciphgfjaaGx6
namespace Go.Proofs.Ytnipjfciphgfjaa.V
open Go.RowKit Go.Proofs.Ytnipjfciphgfjaa.G Go.Proofs.YtnipjfciphgfjaaW.PrintWords Go.Proofs.YtnipjfciphgfjaaW.PrintLast Go.Proofs.YtnipjfciphgfjaaW.PrintMore
set_option linter.unusedVariables false
set_option linter.unusedSimpArgs false
set_option maxHeartbeats 2000000
set_option maxRecDepth 100000
theorem table_New.calls (w : World) :
    Calls Try.prog 21 #[] w fun e w' => e = .returned (.pointer (some ⟨w.heap.size + 1, 0, none⟩)) ∧ w' = (w.alloc (.map #[] 0)).alloc (.cells #[.map (some w.heap.size)] 92 (0, 0)) := by
  have hmm := @run_makeMap Try.prog
  go_enter Try.func21, Try.ntmps21
  go_wp2
  refine bodyPost_ret (v := .pointer (some ⟨w.heap.size + 1, 0, none⟩)) (by simp [results, Try.results21, go_sem]) rfl ⟨rfl, rfl⟩
theorem fund_all.calls (w : World) (f t : Nat) (hf : w.heap[f]? = some (.cells #[.pointer (some ⟨t, 0, none⟩)] 66 (0, 0))) :
    Calls Try.prog 44 #[.pointer (some ⟨f, 0, none⟩)] w fun e w' => e = .returned (.pointer (some ⟨t, 0, none⟩)) ∧ w' = w := by
  have hc : w.cell? ⟨f, 0, none⟩ = some (.pointer (some ⟨t, 0, none⟩)) := blk_cell hf 0
  clear hf
  go_enter Try.func44, Try.ntmps44
  go_wp2
  refine bodyPost_ret (v := .pointer (some ⟨t, 0, none⟩)) (by simp [results, Try.results44, go_sem]) rfl ⟨rfl, rfl⟩
theorem table_Get.calls (w : World) (t b n : Nat) (M : Rowmap) (k0 k1 k2 x0 x1 x2 x3 x4 x5 : Int) (s : Bool) (ht : w.heap[t]? = some (.cells #[.map (some b)] 92 (0, 0))) (hM : Tab w b n M)
    (u0 : U8 k0) (u1 : U8 k1) (u2 : U8 k2) (hv : (M (k0, k1, k2)).getD F6.zero = (x0, x1, x2, x3, x4, x5)) (hs : (M (k0, k1, k2)).isSome = s) :
    Calls Try.prog 45 #[.pointer (some ⟨t, 0, none⟩), .agg #[.int .u8 k0, .int .u8 k1, .int .u8 k2]] w fun e w' =>
      e = .returned (.tuple #[.agg #[.int .i64 x0, .int .i64 x1, .int .i64 x2, .int .i64 x3, .int .i64 x4, .int .i64 x5], .bool s]) ∧ Below w.heap.size w w' := by
  have hc : w.cell? ⟨t, 0, none⟩ = some (.map (some b)) := blk_cell ht 0
  have hlt := World.block_lt_of_cell? _ _ hc
  have hl : ∀ c1 c2 t1 t2, (Instr.lookup 90 (.map (some b)) (.agg #[.int .u8 k0, .int .u8 k1, .int .u8 k2]) true).run Try.prog ((w.alloc (.cells c1 t1)).alloc (.cells c2 t2)).drew =
      .ok (.tuple #[.agg #[.int .i64 x0, .int .i64 x1, .int .i64 x2, .int .i64 x3, .int .i64 x4, .int .i64 x5], .bool s]) ((w.alloc (.cells c1 t1)).alloc (.cells c2 t2)).drew := fun c1 c2 t1 t2 => by
    have q : Tab ((w.alloc (.cells c1 t1)).alloc (.cells c2 t2)).drew b n M := hM.kept (by
      show ((w.alloc (.cells c1 t1)).alloc (.cells c2 t2)).heap[b]? = _
      have := hM.lt
      rw [Below.heap_alloc _ _ _ (by simp; omega), Below.heap_alloc _ _ _ this])
    exact run_look q u0 u1 u2 hv hs
  clear ht hM hv hs u0 u1 u2
  go_enter Try.func45, Try.ntmps45
  go_wp2
  go_region
  all_goals go_wp2
  all_goals refine bodyPost_ret (v := .tuple #[.agg #[.int .i64 x0, .int .i64 x1, .int .i64 x2, .int .i64 x3, .int .i64 x4, .int .i64 x5], .bool s]) (by simp [results, Try.results45, go_sem]) rfl ⟨rfl, ?_⟩
  all_goals (with_reducible repeat (first | exact Below.refl _ _ | apply below_alloc | apply below_drew1 | refine below_set ?_ (by simp)))
theorem fund_Get.calls (w : World) (f t b n : Nat) (M : Rowmap) (k0 k1 k2 x0 x1 x2 x3 x4 x5 : Int) (s : Bool) (hf : w.heap[f]? = some (.cells #[.pointer (some ⟨t, 0, none⟩)] 66 (0, 0))) (ht : w.heap[t]? = some (.cells #[.map (some b)] 92 (0, 0))) (hM : Tab w b n M)
    (u0 : U8 k0) (u1 : U8 k1) (u2 : U8 k2) (hv : (M (k0, k1, k2)).getD F6.zero = (x0, x1, x2, x3, x4, x5)) (hs : (M (k0, k1, k2)).isSome = s) :
    Calls Try.prog 27 #[.pointer (some ⟨f, 0, none⟩), .agg #[.int .u8 k0, .int .u8 k1, .int .u8 k2]] w fun e w' =>
      e = .returned (.tuple #[.agg #[.int .i64 x0, .int .i64 x1, .int .i64 x2, .int .i64 x3, .int .i64 x4, .int .i64 x5], .bool s]) ∧ Below w.heap.size w w' := by
  have hc : w.cell? ⟨f, 0, none⟩ = some (.pointer (some ⟨t, 0, none⟩)) := blk_cell hf 0
  have hlt := World.block_lt_of_cell? _ _ hc
  have hg : ∀ W, Below w.heap.size w W → Calls Try.prog 45 #[.pointer (some ⟨t, 0, none⟩), .agg #[.int .u8 k0, .int .u8 k1, .int .u8 k2]] W fun e w' =>
      e = .returned (.tuple #[.agg #[.int .i64 x0, .int .i64 x1, .int .i64 x2, .int .i64 x3, .int .i64 x4, .int .i64 x5], .bool s]) ∧ Below W.heap.size W w' :=
    fun W hW => table_Get.calls W t b n M k0 k1 k2 x0 x1 x2 x3 x4 x5 s (blk_below ht hW) (hM.kept (hW.block b hM.lt)) u0 u1 u2 hv hs
  have HG := Aside0.mk hg
  have HF := Aside0.mk hf
  clear ht hM hv hs u0 u1 u2 hg hf
  go_enter Try.func27, Try.ntmps27
  go_wp2
  go_region_with (first | (go_at_call 44; ((with_reducible refine (fund_all.calls _ f t (blk_drew (blk_alloc (blk_alloc HF.out _) _))).mono ?_); rintro e w' ⟨rfl, rfl⟩)) | (go_at_call 45; ((with_reducible refine (HG.out _ (below_drew1 (below_alloc (below_alloc (Below.refl _ _) _) _))).mono ?_); rintro e w1 ⟨rfl, hb⟩; obtain ⟨hcc, hff⟩ := bcell hb)))
  all_goals go_wp2
  all_goals (try refine bodyPost_ret (v := .tuple #[.agg #[.int .i64 x0, .int .i64 x1, .int .i64 x2, .int .i64 x3, .int .i64 x4, .int .i64 x5], .bool s]) (by simp [results, Try.results27, go_sem, hcc]) rfl ⟨rfl, ?_⟩)
  all_goals (have h3 : Below w.heap.size w w1 := below_step (below_drew1 (below_alloc (below_alloc (Below.refl _ _) _) _)) hb)
  all_goals (with_reducible repeat (first | exact h3 | apply below_alloc | apply below_drew1 | refine below_set ?_ (by simp)))
end Go.Proofs.Ytnipjfciphgfjaa.V
