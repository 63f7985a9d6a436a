/- Several texts of this seat put together, each as it stands: FundGet, FundPut, FundBy, FundChange, FundGrant, FundTell, FundNew, FundSpans, FundFrees, FundPlain, WSized, Open. -/
import Derived.Test.YtnipjfciphgfjaaSays3
import Derived.Laws.Cover3
import Derived.SizedLaws
import Derived.ChangeSlices
import Derived.Test.YtnipjfciphgfjaaRows
import Derived.WalkKit
import Derived.ProofKit
import Derived.OpenShut
import Derived.ShutString
import Derived.ChangeOld
import Derived.Below
/- The walks of a table's functions. -/
namespace Go.Proofs.Ytnipjfciphgfjaa.V
open Go.RowKit Go.Proofs.Ytnipjfciphgfjaa.G Go.Proofs.YtnipjfciphgfjaaW.PrintWords Go.Proofs.YtnipjfciphgfjaaW.PrintLast Go.Proofs.YtnipjfciphgfjaaW.PrintMore
set_option linter.unusedVariables false
set_option linter.unusedSimpArgs false
set_option maxHeartbeats 2000000
set_option maxRecDepth 100000
theorem table_New.calls (w : World) :
    Calls Try.prog 21 #[] w fun e w' => e = .returned (.pointer (some ⟨w.heap.size + 1, 0, none⟩)) ∧ w' = (w.alloc (.map #[] 0)).alloc (.cells #[.map (some w.heap.size)] 92 (0, 0)) := by
  have hmm := @run_makeMap Try.prog
  go_enter Try.func21, Try.ntmps21
  go_wp2
  refine bodyPost_ret (v := .pointer (some ⟨w.heap.size + 1, 0, none⟩)) (by simp [results, Try.results21, go_sem]) rfl ⟨rfl, rfl⟩
theorem fund_all.calls (w : World) (f t : Nat) (hf : w.heap[f]? = some (.cells #[.pointer (some ⟨t, 0, none⟩)] 66 (0, 0))) :
    Calls Try.prog 44 #[.pointer (some ⟨f, 0, none⟩)] w fun e w' => e = .returned (.pointer (some ⟨t, 0, none⟩)) ∧ w' = w := by
  have hc : w.cell? ⟨f, 0, none⟩ = some (.pointer (some ⟨t, 0, none⟩)) := blk_cell hf 0
  clear hf
  go_enter Try.func44, Try.ntmps44
  go_wp2
  refine bodyPost_ret (v := .pointer (some ⟨t, 0, none⟩)) (by simp [results, Try.results44, go_sem]) rfl ⟨rfl, rfl⟩
theorem table_Get.calls (w : World) (t b n : Nat) (M : Rowmap) (k0 k1 k2 x0 x1 x2 x3 x4 x5 : Int) (s : Bool) (ht : w.heap[t]? = some (.cells #[.map (some b)] 92 (0, 0))) (hM : Tab w b n M)
    (u0 : U8 k0) (u1 : U8 k1) (u2 : U8 k2) (hv : (M (k0, k1, k2)).getD F6.zero = (x0, x1, x2, x3, x4, x5)) (hs : (M (k0, k1, k2)).isSome = s) :
    Calls Try.prog 45 #[.pointer (some ⟨t, 0, none⟩), .agg #[.int .u8 k0, .int .u8 k1, .int .u8 k2]] w fun e w' =>
      e = .returned (.tuple #[.agg #[.int .i64 x0, .int .i64 x1, .int .i64 x2, .int .i64 x3, .int .i64 x4, .int .i64 x5], .bool s]) ∧ Below w.heap.size w w' := by
  have hc : w.cell? ⟨t, 0, none⟩ = some (.map (some b)) := blk_cell ht 0
  have hlt := World.block_lt_of_cell? _ _ hc
  have hl : ∀ c1 c2 t1 t2, (Instr.lookup 90 (.map (some b)) (.agg #[.int .u8 k0, .int .u8 k1, .int .u8 k2]) true).run Try.prog ((w.alloc (.cells c1 t1)).alloc (.cells c2 t2)).drew =
      .ok (.tuple #[.agg #[.int .i64 x0, .int .i64 x1, .int .i64 x2, .int .i64 x3, .int .i64 x4, .int .i64 x5], .bool s]) ((w.alloc (.cells c1 t1)).alloc (.cells c2 t2)).drew := fun c1 c2 t1 t2 => by
    have q : Tab ((w.alloc (.cells c1 t1)).alloc (.cells c2 t2)).drew b n M := hM.kept (by
      show ((w.alloc (.cells c1 t1)).alloc (.cells c2 t2)).heap[b]? = _
      have := hM.lt
      rw [Below.heap_alloc _ _ _ (by simp; omega), Below.heap_alloc _ _ _ this])
    exact run_look q u0 u1 u2 hv hs
  clear ht hM hv hs u0 u1 u2
  go_enter Try.func45, Try.ntmps45
  go_wp2
  go_region
  all_goals go_wp2
  all_goals refine bodyPost_ret (v := .tuple #[.agg #[.int .i64 x0, .int .i64 x1, .int .i64 x2, .int .i64 x3, .int .i64 x4, .int .i64 x5], .bool s]) (by simp [results, Try.results45, go_sem]) rfl ⟨rfl, ?_⟩
  all_goals (with_reducible repeat (first | exact Below.refl _ _ | apply below_alloc | apply below_drew1 | refine below_set ?_ (by simp)))
theorem fund_Get.calls (w : World) (f t b n : Nat) (M : Rowmap) (k0 k1 k2 x0 x1 x2 x3 x4 x5 : Int) (s : Bool) (hf : w.heap[f]? = some (.cells #[.pointer (some ⟨t, 0, none⟩)] 66 (0, 0))) (ht : w.heap[t]? = some (.cells #[.map (some b)] 92 (0, 0))) (hM : Tab w b n M)
    (u0 : U8 k0) (u1 : U8 k1) (u2 : U8 k2) (hv : (M (k0, k1, k2)).getD F6.zero = (x0, x1, x2, x3, x4, x5)) (hs : (M (k0, k1, k2)).isSome = s) :
    Calls Try.prog 27 #[.pointer (some ⟨f, 0, none⟩), .agg #[.int .u8 k0, .int .u8 k1, .int .u8 k2]] w fun e w' =>
      e = .returned (.tuple #[.agg #[.int .i64 x0, .int .i64 x1, .int .i64 x2, .int .i64 x3, .int .i64 x4, .int .i64 x5], .bool s]) ∧ Below w.heap.size w w' := by
  have hc : w.cell? ⟨f, 0, none⟩ = some (.pointer (some ⟨t, 0, none⟩)) := blk_cell hf 0
  have hlt := World.block_lt_of_cell? _ _ hc
  have hg : ∀ W, Below w.heap.size w W → Calls Try.prog 45 #[.pointer (some ⟨t, 0, none⟩), .agg #[.int .u8 k0, .int .u8 k1, .int .u8 k2]] W fun e w' =>
      e = .returned (.tuple #[.agg #[.int .i64 x0, .int .i64 x1, .int .i64 x2, .int .i64 x3, .int .i64 x4, .int .i64 x5], .bool s]) ∧ Below W.heap.size W w' :=
    fun W hW => table_Get.calls W t b n M k0 k1 k2 x0 x1 x2 x3 x4 x5 s (blk_below ht hW) (hM.kept (hW.block b hM.lt)) u0 u1 u2 hv hs
  have HG := Aside0.mk hg
  have HF := Aside0.mk hf
  clear ht hM hv hs u0 u1 u2 hg hf
  go_enter Try.func27, Try.ntmps27
  go_wp2
  go_region_with (first | (go_at_call 44; ((with_reducible refine (fund_all.calls _ f t (blk_drew (blk_alloc (blk_alloc HF.out _) _))).mono ?_); rintro e w' ⟨rfl, rfl⟩)) | (go_at_call 45; ((with_reducible refine (HG.out _ (below_drew1 (below_alloc (below_alloc (Below.refl _ _) _) _))).mono ?_); rintro e w1 ⟨rfl, hb⟩; obtain ⟨hcc, hff⟩ := bcell hb)))
  all_goals go_wp2
  all_goals (try refine bodyPost_ret (v := .tuple #[.agg #[.int .i64 x0, .int .i64 x1, .int .i64 x2, .int .i64 x3, .int .i64 x4, .int .i64 x5], .bool s]) (by simp [results, Try.results27, go_sem, hcc]) rfl ⟨rfl, ?_⟩)
  all_goals (have h3 : Below w.heap.size w w1 := below_step (below_drew1 (below_alloc (below_alloc (Below.refl _ _) _) _)) hb)
  all_goals (with_reducible repeat (first | exact h3 | apply below_alloc | apply below_drew1 | refine below_set ?_ (by simp)))
end Go.Proofs.Ytnipjfciphgfjaa.V
/- The walks of a table's Put and of a fund's grants. -/
namespace Go.Proofs.Ytnipjfciphgfjaa.V
open Go.RowKit Go.Proofs.Ytnipjfciphgfjaa.G Go.Proofs.YtnipjfciphgfjaaW.PrintWords Go.Proofs.YtnipjfciphgfjaaW.PrintLast Go.Proofs.YtnipjfciphgfjaaW.PrintMore
set_option linter.unusedVariables false
set_option linter.unusedSimpArgs false
set_option maxHeartbeats 2000000
set_option maxRecDepth 100000
theorem map_made (b : Nat) (W : World) : (binOp BinOp.eql 90 (.map (some b)) (.map none)).run Try.prog W = .ok (.bool false) W := by
  have h := run_equal_map_nil (P := Try.prog) W 90 25 64 (some b) Try.underlying90
  simp [binOp, Result.andThen, h]
theorem grown_turned {w W W' : World} {b : Nat} (h : Below w.heap.size w W) (ht : W.mapTurned W' b) : w.grownBy W' (some b) := by
  have g := ht.grown
  exact ⟨g.os.trans h.os, g.tape.trans h.tape, g.output.trans h.output, Nat.le_trans h.size g.size, fun i hi hr => (g.block i (Nat.lt_of_lt_of_le hi h.size) hr).trans (h.block i hi)⟩
theorem table_Put.calls (w : World) (t b n : Nat) (M : Rowmap) (k0 k1 k2 x0 x1 x2 x3 x4 x5 : Int) (ht : w.heap[t]? = some (.cells #[.map (some b)] 92 (0, 0))) (hM : Tab w b n M) (hn : n < maxLen)
    (u0 : U8 k0) (u1 : U8 k1) (u2 : U8 k2) :
    Calls Try.prog 23 #[.pointer (some ⟨t, 0, none⟩), .agg #[.int .u8 k0, .int .u8 k1, .int .u8 k2], .agg #[.int .i64 x0, .int .i64 x1, .int .i64 x2, .int .i64 x3, .int .i64 x4, .int .i64 x5]] w fun e w' =>
      e = .returned (.tuple #[]) ∧ w.grownBy w' (some b) ∧ Tab w' b (n + 1) (M.put (k0, k1, k2) (x0, x1, x2, x3, x4, x5)) := by
  have hc : w.cell? ⟨t, 0, none⟩ = some (.map (some b)) := blk_cell ht 0
  have hlt := World.block_lt_of_cell? _ _ hc
  have q : ∀ c1 c2 t1 t2, Tab ((w.alloc (.cells c1 t1)).alloc (.cells c2 t2)).drew b n M := fun c1 c2 t1 t2 => hM.kept (by
    show ((w.alloc (.cells c1 t1)).alloc (.cells c2 t2)).heap[b]? = _
    have := hM.lt
    rw [Below.heap_alloc _ _ _ (by simp; omega), Below.heap_alloc _ _ _ this])
  have hl : ∀ c1 c2 t1 t2, (Instr.mapUpdate 90 (.map (some b)) (.agg #[.int .u8 k0, .int .u8 k1, .int .u8 k2]) (.agg #[.int .i64 x0, .int .i64 x1, .int .i64 x2, .int .i64 x3, .int .i64 x4, .int .i64 x5])).run Try.prog ((w.alloc (.cells c1 t1)).alloc (.cells c2 t2)).drew = _ :=
    fun c1 c2 t1 t2 => run_putW (q c1 c2 t1 t2) hn u0 u1 u2 x0 x1 x2 x3 x4 x5
  have hp := fun c1 c2 t1 t2 => putW_tab (q c1 c2 t1 t2) hn u0 u1 u2 x0 x1 x2 x3 x4 x5
  have HP := Aside0.mk hp
  have hmm := map_made b
  clear ht hM u0 u1 u2 q hp
  go_enter Try.func23, Try.ntmps23
  go_wp2
  go_region
  all_goals go_wp2
  all_goals (obtain ⟨h1, h2⟩ := HP.out #[.int .u8 k0, .int .u8 k1, .int .u8 k2] #[.int .i64 x0, .int .i64 x1, .int .i64 x2, .int .i64 x3, .int .i64 x4, .int .i64 x5] 25 64)
  all_goals refine bodyPost_end (v := .tuple #[]) (by simp [results, Try.results23, go_sem]) rfl ⟨rfl, ?_, h1⟩
  all_goals exact grown_turned (below_drew1 (below_alloc (below_alloc (Below.refl _ _) _) _)) h2
end Go.Proofs.Ytnipjfciphgfjaa.V
/- The walks of a fund's grants. -/
namespace Go.Proofs.Ytnipjfciphgfjaa.V
open Go.RowKit Go.Proofs.Ytnipjfciphgfjaa.G Go.Proofs.YtnipjfciphgfjaaW.PrintWords Go.Proofs.YtnipjfciphgfjaaW.PrintLast Go.Proofs.YtnipjfciphgfjaaW.PrintMore
set_option linter.unusedVariables false
set_option linter.unusedSimpArgs false
set_option maxHeartbeats 2000000
set_option maxRecDepth 100000
theorem fund_by.calls (w : World) (g : FuncId) (d : Int) :
    Calls Try.prog 25 #[.func (.func g) #[] #[], .int .i64 d] w fun e w' =>
      e = .returned (.func (.func 41) #[] #[.pointer (some ⟨w.heap.size, 0, none⟩), .pointer (some ⟨w.heap.size + 1, 0, none⟩)]) ∧ w' = (w.alloc (.cells #[.func (.func g) #[] #[]] 73 (0, 0))).alloc (.cells #[.int .i64 d] 2 (0, 0)) := by
  go_enter Try.func25, Try.ntmps25
  go_wp2
  refine bodyPost_ret (v := .func (.func 41) #[] #[.pointer (some ⟨w.heap.size, 0, none⟩), .pointer (some ⟨w.heap.size + 1, 0, none⟩)]) (by simp [results, Try.results25, go_sem]) rfl ⟨rfl, rfl⟩
/-- What a field's call makes, whatever the world. -/
def Makes (g : FuncId) (x : F6) (d : Int) (y : F6) (c : Int) : Prop :=
  ∀ w, Calls Try.prog g #[fv x, .int .i64 d] w fun e w' => e = .returned (.tuple #[fv y, .int .i64 c]) ∧ Below w.heap.size w w'
theorem by_one.calls (w : World) (g : FuncId) (hg : g = 26 ∨ g = 38 ∨ g = 39) (p q : Nat) (x0 x1 x2 x3 x4 x5 d y0 y1 y2 y3 y4 y5 c : Int) (hp : w.heap[p]? = some (.cells #[.func (.func g) #[] #[]] 73 (0, 0))) (hq : w.heap[q]? = some (.cells #[.int .i64 d] 2 (0, 0)))
    (hm : Makes g (x0, x1, x2, x3, x4, x5) d (y0, y1, y2, y3, y4, y5) c) :
    Calls Try.prog 41 #[.agg #[.int .i64 x0, .int .i64 x1, .int .i64 x2, .int .i64 x3, .int .i64 x4, .int .i64 x5], .pointer (some ⟨p, 0, none⟩), .pointer (some ⟨q, 0, none⟩)] w fun e w' =>
      e = .returned (.tuple #[.agg #[.int .i64 y0, .int .i64 y1, .int .i64 y2, .int .i64 y3, .int .i64 y4, .int .i64 y5], .int .i64 c]) ∧ Below w.heap.size w w' := by
  have c1 : w.cell? ⟨p, 0, none⟩ = some (.func (.func g) #[] #[]) := blk_cell hp 0
  have c2 : w.cell? ⟨q, 0, none⟩ = some (.int .i64 d) := blk_cell hq 0
  have l1 := World.block_lt_of_cell? _ _ c1
  have l2 := World.block_lt_of_cell? _ _ c2
  have HM : Aside0 (∀ W : World, Calls Try.prog g #[.agg #[.int .i64 x0, .int .i64 x1, .int .i64 x2, .int .i64 x3, .int .i64 x4, .int .i64 x5], .int .i64 d] W fun e w' => e = .returned (.tuple #[.agg #[.int .i64 y0, .int .i64 y1, .int .i64 y2, .int .i64 y3, .int .i64 y4, .int .i64 y5], .int .i64 c]) ∧ Below W.heap.size W w') := ⟨hm⟩
  clear hm hp hq
  rcases hg with rfl | rfl | rfl
  all_goals
    go_enter Try.func41, Try.ntmps41
    go_wp2_with (first | (go_at_call 26; ((with_reducible refine (HM.out _).mono ?_); rintro e w1 ⟨rfl, hb⟩; obtain ⟨hcc, hff⟩ := bcell hb; have hz : w.heap.size + 1 < w1.heap.size := (by have := hb.size; simp at this; omega))) | (go_at_call 38; ((with_reducible refine (HM.out _).mono ?_); rintro e w1 ⟨rfl, hb⟩; obtain ⟨hcc, hff⟩ := bcell hb; have hz : w.heap.size + 1 < w1.heap.size := (by have := hb.size; simp at this; omega))) | (go_at_call 39; ((with_reducible refine (HM.out _).mono ?_); rintro e w1 ⟨rfl, hb⟩; obtain ⟨hcc, hff⟩ := bcell hb; have hz : w.heap.size + 1 < w1.heap.size := (by have := hb.size; simp at this; omega))))
    refine bodyPost_ret (v := .tuple #[.agg #[.int .i64 y0, .int .i64 y1, .int .i64 y2, .int .i64 y3, .int .i64 y4, .int .i64 y5], .int .i64 c]) (by simp [results, Try.results41, go_sem, hcc, hz]) rfl ⟨rfl, ?_⟩
    have h3 : Below w.heap.size w w1 := below_step (below_alloc (below_alloc (Below.refl _ _) _) _) hb
    (with_reducible repeat (first | exact h3 | apply below_alloc | apply below_drew1 | refine below_set ?_ (by simp)))
end Go.Proofs.Ytnipjfciphgfjaa.V
/- The walk of a fund's change. -/
namespace Go.Proofs.Ytnipjfciphgfjaa.V
open Go.RowKit Go.Proofs.Ytnipjfciphgfjaa.G Go.Proofs.YtnipjfciphgfjaaW.PrintWords Go.Proofs.YtnipjfciphgfjaaW.PrintLast Go.Proofs.YtnipjfciphgfjaaW.PrintMore
set_option linter.unusedVariables false
set_option linter.unusedSimpArgs false
set_option maxHeartbeats 2000000
set_option maxRecDepth 100000
/-- A fund: its block, its table's, the map's. -/
structure IsFund (w : World) (f t b n : Nat) (M : Rowmap) : Prop where
  fund : w.heap[f]? = some (.cells #[.pointer (some ⟨t, 0, none⟩)] 66 (0, 0))
  table : w.heap[t]? = some (.cells #[.map (some b)] 92 (0, 0))
  map : Tab w b n M
theorem IsFund.below {w W : World} {f t b n : Nat} {M : Rowmap} (h : IsFund w f t b n M) (hb : Below w.heap.size w W) : IsFund W f t b n M :=
  ⟨blk_below h.fund hb, blk_below h.table hb, h.map.kept (hb.block b h.map.lt)⟩
theorem IsFund.mono {w : World} {f t b n m : Nat} {M : Rowmap} (h : IsFund w f t b n M) (hn : n ≤ m) : IsFund w f t b m M := ⟨h.fund, h.table, h.map.mono hn⟩
theorem IsFund.apart {w : World} {f t b n : Nat} {M : Rowmap} (h : IsFund w f t b n M) : f ≠ b ∧ t ≠ b := by
  obtain ⟨D, ⟨es, clock, hb, _⟩, _⟩ := h.map
  refine ⟨?_, ?_⟩ <;> rintro rfl
  · have := h.fund.symm.trans hb; simp at this
  · have := h.table.symm.trans hb; simp at this
theorem IsFund.grown {w W : World} {f t b n m : Nat} {M M' : Rowmap} (h : IsFund w f t b n M) (hg : w.grownBy W (some b)) (ht : Tab W b m M') : IsFund W f t b m M' :=
  ⟨blk_grown h.fund hg (by simpa using h.apart.1), blk_grown h.table hg (by simpa using h.apart.2), ht⟩
theorem grown_of_below {w W : World} (h : Below w.heap.size w W) (b : Nat) : w.grownBy W (some b) := ⟨h.os, h.tape, h.output, h.size, fun i hi _ => h.block i hi⟩
/-- A key of which there is no field. -/
theorem change_none (w : World) (f t b n p q : Nat) (M : Rowmap) (k0 k1 k2 : Int) (hF : IsFund w f t b n M) (u0 : U8 k0) (u1 : U8 k1) (u2 : U8 k2) (hM : M (k0, k1, k2) = none) :
    Calls Try.prog 24 #[.pointer (some ⟨f, 0, none⟩), .agg #[.int .u8 k0, .int .u8 k1, .int .u8 k2], .func (.func 41) #[] #[.pointer (some ⟨p, 0, none⟩), .pointer (some ⟨q, 0, none⟩)]] w fun e w' =>
      e = .returned (.int .i64 10) ∧ Below w.heap.size w w' := by
  have hg : ∀ W, Below w.heap.size w W → Calls Try.prog 27 #[.pointer (some ⟨f, 0, none⟩), .agg #[.int .u8 k0, .int .u8 k1, .int .u8 k2]] W fun e w' =>
      e = .returned (.tuple #[.agg #[.int .i64 0, .int .i64 0, .int .i64 0, .int .i64 0, .int .i64 0, .int .i64 0], .bool false]) ∧ Below W.heap.size W w' :=
    fun W hW => fund_Get.calls W f t b n M k0 k1 k2 0 0 0 0 0 0 false (hF.below hW).fund (hF.below hW).table (hF.below hW).map u0 u1 u2 (by rw [hM]; rfl) (by rw [hM]; rfl)
  have HG := Aside0.mk hg
  clear hg hF u0 u1 u2 hM
  go_enter Try.func24, Try.ntmps24
  go_wp2_with (go_at_call 27; ((with_reducible refine (HG.out _ (below_alloc (Below.refl _ _) _)).mono ?_); rintro e w1 ⟨rfl, hb⟩; obtain ⟨hcc, hff⟩ := bcell hb))
  refine bodyPost_ret (v := .int .i64 10) (by simp [results, Try.results24, go_sem]) rfl ⟨rfl, ?_⟩
  have h3 : Below w.heap.size w w1 := below_step (below_alloc (Below.refl _ _) _) hb
  have h4 := h3.size
  (with_reducible repeat (first | exact h3 | apply below_alloc | apply below_drew1 | refine below_set ?_ (by simpa using h4)))
/-- A field that is changed. -/
theorem change_some (w : World) (f t b n p q : Nat) (M : Rowmap) (k0 k1 k2 : Int) (g : FuncId) (hg : g = 26 ∨ g = 38 ∨ g = 39) (x0 x1 x2 x3 x4 x5 d y0 y1 y2 y3 y4 y5 c : Int) (hF : IsFund w f t b n M) (hn : n < maxLen) (u0 : U8 k0) (u1 : U8 k1) (u2 : U8 k2)
    (hM : M (k0, k1, k2) = some (x0, x1, x2, x3, x4, x5)) (hp : w.heap[p]? = some (.cells #[.func (.func g) #[] #[]] 73 (0, 0))) (hq : w.heap[q]? = some (.cells #[.int .i64 d] 2 (0, 0))) (hm : Makes g (x0, x1, x2, x3, x4, x5) d (y0, y1, y2, y3, y4, y5) c) :
    Calls Try.prog 24 #[.pointer (some ⟨f, 0, none⟩), .agg #[.int .u8 k0, .int .u8 k1, .int .u8 k2], .func (.func 41) #[] #[.pointer (some ⟨p, 0, none⟩), .pointer (some ⟨q, 0, none⟩)]] w fun e w' =>
      e = .returned (.int .i64 c) ∧ w.grownBy w' (some b) ∧ IsFund w' f t b (n + 1) (if c = 0 then M.put (k0, k1, k2) (y0, y1, y2, y3, y4, y5) else M) := by
  have hget : ∀ W, Below w.heap.size w W → Calls Try.prog 27 #[.pointer (some ⟨f, 0, none⟩), .agg #[.int .u8 k0, .int .u8 k1, .int .u8 k2]] W fun e w' =>
      e = .returned (.tuple #[.agg #[.int .i64 x0, .int .i64 x1, .int .i64 x2, .int .i64 x3, .int .i64 x4, .int .i64 x5], .bool true]) ∧ Below W.heap.size W w' :=
    fun W hW => fund_Get.calls W f t b n M k0 k1 k2 x0 x1 x2 x3 x4 x5 true (hF.below hW).fund (hF.below hW).table (hF.below hW).map u0 u1 u2 (by rw [hM]; rfl) (by rw [hM]; rfl)
  have hby : ∀ W, Below w.heap.size w W → Calls Try.prog 41 #[.agg #[.int .i64 x0, .int .i64 x1, .int .i64 x2, .int .i64 x3, .int .i64 x4, .int .i64 x5], .pointer (some ⟨p, 0, none⟩), .pointer (some ⟨q, 0, none⟩)] W fun e w' =>
      e = .returned (.tuple #[.agg #[.int .i64 y0, .int .i64 y1, .int .i64 y2, .int .i64 y3, .int .i64 y4, .int .i64 y5], .int .i64 c]) ∧ Below W.heap.size W w' :=
    fun W hW => by_one.calls W g hg p q x0 x1 x2 x3 x4 x5 d y0 y1 y2 y3 y4 y5 c (blk_below hp hW) (blk_below hq hW) hm
  have hput : ∀ W, Below w.heap.size w W → Calls Try.prog 23 #[.pointer (some ⟨t, 0, none⟩), .agg #[.int .u8 k0, .int .u8 k1, .int .u8 k2], .agg #[.int .i64 y0, .int .i64 y1, .int .i64 y2, .int .i64 y3, .int .i64 y4, .int .i64 y5]] W fun e w' =>
      e = .returned (.tuple #[]) ∧ w.grownBy w' (some b) ∧ IsFund w' f t b (n + 1) (M.put (k0, k1, k2) (y0, y1, y2, y3, y4, y5)) :=
    fun W hW => (table_Put.calls W t b n M k0 k1 k2 y0 y1 y2 y3 y4 y5 (hF.below hW).table (hF.below hW).map hn u0 u1 u2).mono (fun e w' ⟨e1, e2, e3⟩ => by
      have g : w.grownBy w' (some b) := ⟨e2.os.trans hW.os, e2.tape.trans hW.tape, e2.output.trans hW.output, Nat.le_trans hW.size e2.size, fun i hi hr => (e2.block i (Nat.lt_of_lt_of_le hi hW.size) hr).trans (hW.block i hi)⟩
      exact ⟨e1, g, hF.grown g e3⟩)
  have hc : w.cell? ⟨f, 0, none⟩ = some (.pointer (some ⟨t, 0, none⟩)) := blk_cell hF.fund 0
  have hlt := World.block_lt_of_cell? _ _ hc
  have HGET := Aside0.mk hget
  have HBY := Aside0.mk hby
  have HPUT := Aside0.mk hput
  have HF := Aside0.mk hF
  clear hget hby hput hF hp hq hm hM hg u0 u1 u2
  by_cases h0 : c = 0
  · subst h0
    rw [if_pos rfl]
    go_enter Try.func24, Try.ntmps24
    go_wp2_with (first | (go_at_call 27; ((with_reducible refine (HGET.out _ (below_alloc (Below.refl _ _) _)).mono ?_); rintro e w1 ⟨rfl, hb⟩; have h3 : Below w.heap.size w w1 := below_step (below_alloc (Below.refl _ _) _) hb; obtain ⟨hcc, hff⟩ := bcell hb; have hz1 : w.heap.size < w1.heap.size := (by have := hb.size; simp at this; omega))) | (go_at_call 41; ((with_reducible refine (HBY.out _ (below_alloc h3 _)).mono ?_); rintro e w2 ⟨rfl, hb2⟩; obtain ⟨hcc2, hff2⟩ := bcell hb2; have h4 : Below w.heap.size w w2 := below_step (below_alloc h3 _) hb2; have hz2 : w1.heap.size < w2.heap.size := (by have := hb2.size; simp at this; omega))))
    have kf : w2.cell? ⟨f, 0, none⟩ = some (.pointer (some ⟨t, 0, none⟩)) := (h4.cell hlt).trans hc
    have hz3 : f < w2.heap.size := Nat.lt_of_lt_of_le hlt h4.size
    have hz4 : w.heap.size < w2.heap.size := Nat.lt_trans hz1 hz2
    have j0 : w1.cell? ⟨w.heap.size, 0, none⟩ = some (.int .u8 k0) := by simp [hcc, go_sem]
    have j1 : w1.cell? ⟨w.heap.size, 1, none⟩ = some (.int .u8 k1) := by simp [hcc, go_sem]
    have j2 : w1.cell? ⟨w.heap.size, 2, none⟩ = some (.int .u8 k2) := by simp [hcc, go_sem]
    have i0 : w2.cell? ⟨w.heap.size, 0, none⟩ = some (.int .u8 k0) := by simp [hcc2, go_sem, j0, hz1, Nat.lt_succ_of_lt hz1]
    have i1 : w2.cell? ⟨w.heap.size, 1, none⟩ = some (.int .u8 k1) := by simp [hcc2, go_sem, j1, hz1, Nat.lt_succ_of_lt hz1]
    have i2 : w2.cell? ⟨w.heap.size, 2, none⟩ = some (.int .u8 k2) := by simp [hcc2, go_sem, j2, hz1, Nat.lt_succ_of_lt hz1]
    clear hcc hff hcc2 hff2 hb hb2 j0 j1 j2
    go_region_with (go_at_call 23; ((with_reducible refine (HPUT.out _ (below_drew1 (below_alloc h4 _))).mono ?_); rintro e w3 ⟨rfl, hg3, hF3⟩))
    all_goals go_wp2
    all_goals refine bodyPost_ret (v := .int .i64 0) (by simp [results, Try.results24, go_sem]) rfl ⟨rfl, hg3, hF3⟩
  · rw [if_neg h0]
    have hd : (c == 0) = false := by simpa using h0
    have hd2 : decide (c = 0) = false := decide_eq_false h0
    go_enter Try.func24, Try.ntmps24
    go_wp2_with (first | (go_at_call 27; ((with_reducible refine (HGET.out _ (below_alloc (Below.refl _ _) _)).mono ?_); rintro e w1 ⟨rfl, hb⟩; have h3 : Below w.heap.size w w1 := below_step (below_alloc (Below.refl _ _) _) hb; obtain ⟨hcc, hff⟩ := bcell hb; have hz1 : w.heap.size < w1.heap.size := (by have := hb.size; simp at this; omega))) | (go_at_call 41; ((with_reducible refine (HBY.out _ (below_alloc h3 _)).mono ?_); rintro e w2 ⟨rfl, hb2⟩; obtain ⟨hcc2, hff2⟩ := bcell hb2; have h4 : Below w.heap.size w w2 := below_step (below_alloc h3 _) hb2; have hz2 : w1.heap.size < w2.heap.size := (by have := hb2.size; simp at this; omega))))
    refine bodyPost_ret (v := .int .i64 c) (by simp [results, Try.results24, go_sem]) rfl ⟨rfl, ?_⟩
    have h5 : Below w.heap.size w w2 := h4
    have h6 := h5.size
    have h7 : Below w.heap.size w (w2.alloc (.cells #[.int .i64 y0, .int .i64 y1, .int .i64 y2, .int .i64 y3, .int .i64 y4, .int .i64 y5] 64 (0, 0))) := below_alloc h4 _
    exact ⟨grown_of_below h7 b, (HF.out.below h7).mono (Nat.le_succ n)⟩
end Go.Proofs.Ytnipjfciphgfjaa.V
/- The walks of a fund's Grant, Settle and Undo. -/
namespace Go.Proofs.Ytnipjfciphgfjaa.V
open Go.RowKit Go.Proofs.Ytnipjfciphgfjaa.G Go.Proofs.YtnipjfciphgfjaaW.PrintWords Go.Proofs.YtnipjfciphgfjaaW.PrintLast Go.Proofs.YtnipjfciphgfjaaW.PrintMore
set_option linter.unusedVariables false
set_option linter.unusedSimpArgs false
set_option maxHeartbeats 2000000
set_option maxRecDepth 100000
/-- What a call makes of what a fund holds: the new rows, and the error's number. -/
def stepOf (how : F6 → Int → F6 × Int) (M : Rowmap) (k : Int × Int × Int) (d : Int) : Rowmap × Int :=
  match M k with
  | none => (M, 10)
  | some x => if (how x d).2 = 0 then (M.put k (how x d).1, 0) else (M, (how x d).2)
theorem change.calls (how : F6 → Int → F6 × Int) (w : World) (f t b n p q : Nat) (M : Rowmap) (k0 k1 k2 d : Int) (g : FuncId) (hg : g = 26 ∨ g = 38 ∨ g = 39) (hF : IsFund w f t b n M) (hn : n < maxLen) (u0 : U8 k0) (u1 : U8 k1) (u2 : U8 k2)
    (hp : w.heap[p]? = some (.cells #[.func (.func g) #[] #[]] 73 (0, 0))) (hq : w.heap[q]? = some (.cells #[.int .i64 d] 2 (0, 0))) (hm : ∀ x, M (k0, k1, k2) = some x → Makes g x d (how x d).1 (how x d).2) :
    Calls Try.prog 24 #[.pointer (some ⟨f, 0, none⟩), .agg #[.int .u8 k0, .int .u8 k1, .int .u8 k2], .func (.func 41) #[] #[.pointer (some ⟨p, 0, none⟩), .pointer (some ⟨q, 0, none⟩)]] w fun e w' =>
      e = .returned (.int .i64 (stepOf how M (k0, k1, k2) d).2) ∧ w.grownBy w' (some b) ∧ IsFund w' f t b (n + 1) (stepOf how M (k0, k1, k2) d).1 := by
  unfold stepOf
  cases hM : M (k0, k1, k2) with
  | none => exact (change_none w f t b n p q M k0 k1 k2 hF u0 u1 u2 hM).mono fun e w' ⟨e1, e2⟩ => ⟨e1, grown_of_below e2 b, (hF.below e2).mono (Nat.le_succ n)⟩
  | some x =>
    have h := hm x hM
    obtain ⟨x0, x1, x2, x3, x4, x5⟩ := x
    generalize hy : how (x0, x1, x2, x3, x4, x5) d = yc at h ⊢
    obtain ⟨⟨y0, y1, y2, y3, y4, y5⟩, c⟩ := yc
    refine (change_some w f t b n p q M k0 k1 k2 g hg x0 x1 x2 x3 x4 x5 d y0 y1 y2 y3 y4 y5 c hF hn u0 u1 u2 hM hp hq h).mono fun e w' ⟨e1, e2, e3⟩ => ?_
    by_cases h0 : c = 0
    · rw [if_pos h0] at e3
      simp only [hy, h0, if_true]
      subst h0
      exact ⟨e1, e2, e3⟩
    · rw [if_neg h0] at e3
      simp only [hy, h0, if_false]
      exact ⟨e1, e2, e3⟩
theorem fund_Grant.calls (how : F6 → Int → F6 × Int) (w : World) (f t b n : Nat) (M : Rowmap) (k0 k1 k2 d : Int) (hF : IsFund w f t b n M) (hn : n < maxLen) (u0 : U8 k0) (u1 : U8 k1) (u2 : U8 k2)
    (hm : ∀ x, M (k0, k1, k2) = some x → Makes 26 x d (how x d).1 (how x d).2) :
    Calls Try.prog 8 #[.pointer (some ⟨f, 0, none⟩), .agg #[.int .u8 k0, .int .u8 k1, .int .u8 k2, .int .i64 d]] w fun e w' =>
      e = .returned (.int .i64 (stepOf how M (k0, k1, k2) d).2) ∧ w.grownBy w' (some b) ∧ IsFund w' f t b (n + 1) (stepOf how M (k0, k1, k2) d).1 := by
  have hc : ∀ W p q, Below w.heap.size w W → W.heap[p]? = some (.cells #[.func (.func 26) #[] #[]] 73 (0, 0)) → W.heap[q]? = some (.cells #[.int .i64 d] 2 (0, 0)) →
      Calls Try.prog 24 #[.pointer (some ⟨f, 0, none⟩), .agg #[.int .u8 k0, .int .u8 k1, .int .u8 k2], .func (.func 41) #[] #[.pointer (some ⟨p, 0, none⟩), .pointer (some ⟨q, 0, none⟩)]] W fun e w' =>
      e = .returned (.int .i64 (stepOf how M (k0, k1, k2) d).2) ∧ w.grownBy w' (some b) ∧ IsFund w' f t b (n + 1) (stepOf how M (k0, k1, k2) d).1 := fun W p q hW h1 h2 =>
    (change.calls how W f t b n p q M k0 k1 k2 d 26 (by decide) (hF.below hW) hn u0 u1 u2 h1 h2 hm).mono fun e w' ⟨e1, e2, e3⟩ =>
      ⟨e1, ⟨e2.os.trans hW.os, e2.tape.trans hW.tape, e2.output.trans hW.output, Nat.le_trans hW.size e2.size, fun i hi hr => (e2.block i (Nat.lt_of_lt_of_le hi hW.size) hr).trans (hW.block i hi)⟩, e3⟩
  generalize stepOf how M (k0, k1, k2) d = S at hc ⊢
  have hc2 : ∀ o : Obj, Calls Try.prog 24 #[.pointer (some ⟨f, 0, none⟩), .agg #[.int .u8 k0, .int .u8 k1, .int .u8 k2], .func (.func 41) #[] #[.pointer (some ⟨w.heap.size + 1, 0, none⟩), .pointer (some ⟨w.heap.size + 1 + 1, 0, none⟩)]]
      (((w.alloc o).alloc (.cells #[.func (.func 26) #[] #[]] 73 (0, 0))).alloc (.cells #[.int .i64 d] 2 (0, 0))).drew fun e w' =>
      e = .returned (.int .i64 S.2) ∧ w.grownBy w' (some b) ∧ IsFund w' f t b (n + 1) S.1 := fun o =>
    hc _ _ _ (below_drew1 (below_alloc (below_alloc (below_alloc (Below.refl _ _) _) _) _)) (by
      have z := blk_drew (blk_alloc (blk_new (w.alloc o) (.cells #[.func (.func 26) #[] #[]] 73 (0, 0))) (.cells #[.int .i64 d] 2 (0, 0)))
      simpa using z) (by
      have z := blk_drew (blk_new ((w.alloc o).alloc (.cells #[.func (.func 26) #[] #[]] 73 (0, 0))) (.cells #[.int .i64 d] 2 (0, 0)))
      simpa using z)
  have HC := Aside0.mk hc2
  clear hc2
  clear hc hF u0 u1 u2 hm
  go_enter Try.func8, Try.ntmps8
  go_wp2
  go_region_with (first | (go_at_call 25; ((with_reducible refine (fund_by.calls _ _ _).mono ?_); rintro e w' ⟨rfl, rfl⟩)) | (go_at_call 24; ((with_reducible refine (HC.out _).mono ?_); rintro e w1 ⟨rfl, hg1, hF1⟩)))
  all_goals go_wp2
  all_goals refine bodyPost_ret (v := .int .i64 S.2) (by simp [results, Try.results8, go_sem]) rfl ⟨rfl, hg1, hF1⟩
theorem fund_Settle.calls (how : F6 → Int → F6 × Int) (w : World) (f t b n : Nat) (M : Rowmap) (k0 k1 k2 d : Int) (hF : IsFund w f t b n M) (hn : n < maxLen) (u0 : U8 k0) (u1 : U8 k1) (u2 : U8 k2)
    (hm : ∀ x, M (k0, k1, k2) = some x → Makes 38 x d (how x d).1 (how x d).2) :
    Calls Try.prog 19 #[.pointer (some ⟨f, 0, none⟩), .agg #[.int .u8 k0, .int .u8 k1, .int .u8 k2, .int .i64 d]] w fun e w' =>
      e = .returned (.int .i64 (stepOf how M (k0, k1, k2) d).2) ∧ w.grownBy w' (some b) ∧ IsFund w' f t b (n + 1) (stepOf how M (k0, k1, k2) d).1 := by
  have hc : ∀ W p q, Below w.heap.size w W → W.heap[p]? = some (.cells #[.func (.func 38) #[] #[]] 73 (0, 0)) → W.heap[q]? = some (.cells #[.int .i64 d] 2 (0, 0)) →
      Calls Try.prog 24 #[.pointer (some ⟨f, 0, none⟩), .agg #[.int .u8 k0, .int .u8 k1, .int .u8 k2], .func (.func 41) #[] #[.pointer (some ⟨p, 0, none⟩), .pointer (some ⟨q, 0, none⟩)]] W fun e w' =>
      e = .returned (.int .i64 (stepOf how M (k0, k1, k2) d).2) ∧ w.grownBy w' (some b) ∧ IsFund w' f t b (n + 1) (stepOf how M (k0, k1, k2) d).1 := fun W p q hW h1 h2 =>
    (change.calls how W f t b n p q M k0 k1 k2 d 38 (by decide) (hF.below hW) hn u0 u1 u2 h1 h2 hm).mono fun e w' ⟨e1, e2, e3⟩ =>
      ⟨e1, ⟨e2.os.trans hW.os, e2.tape.trans hW.tape, e2.output.trans hW.output, Nat.le_trans hW.size e2.size, fun i hi hr => (e2.block i (Nat.lt_of_lt_of_le hi hW.size) hr).trans (hW.block i hi)⟩, e3⟩
  generalize stepOf how M (k0, k1, k2) d = S at hc ⊢
  have hc2 : ∀ o : Obj, Calls Try.prog 24 #[.pointer (some ⟨f, 0, none⟩), .agg #[.int .u8 k0, .int .u8 k1, .int .u8 k2], .func (.func 41) #[] #[.pointer (some ⟨w.heap.size + 1, 0, none⟩), .pointer (some ⟨w.heap.size + 1 + 1, 0, none⟩)]]
      (((w.alloc o).alloc (.cells #[.func (.func 38) #[] #[]] 73 (0, 0))).alloc (.cells #[.int .i64 d] 2 (0, 0))).drew fun e w' =>
      e = .returned (.int .i64 S.2) ∧ w.grownBy w' (some b) ∧ IsFund w' f t b (n + 1) S.1 := fun o =>
    hc _ _ _ (below_drew1 (below_alloc (below_alloc (below_alloc (Below.refl _ _) _) _) _)) (by
      have z := blk_drew (blk_alloc (blk_new (w.alloc o) (.cells #[.func (.func 38) #[] #[]] 73 (0, 0))) (.cells #[.int .i64 d] 2 (0, 0)))
      simpa using z) (by
      have z := blk_drew (blk_new ((w.alloc o).alloc (.cells #[.func (.func 38) #[] #[]] 73 (0, 0))) (.cells #[.int .i64 d] 2 (0, 0)))
      simpa using z)
  have HC := Aside0.mk hc2
  clear hc2
  clear hc hF u0 u1 u2 hm
  go_enter Try.func19, Try.ntmps19
  go_wp2
  go_region_with (first | (go_at_call 25; ((with_reducible refine (fund_by.calls _ _ _).mono ?_); rintro e w' ⟨rfl, rfl⟩)) | (go_at_call 24; ((with_reducible refine (HC.out _).mono ?_); rintro e w1 ⟨rfl, hg1, hF1⟩)))
  all_goals go_wp2
  all_goals refine bodyPost_ret (v := .int .i64 S.2) (by simp [results, Try.results19, go_sem]) rfl ⟨rfl, hg1, hF1⟩
theorem fund_Undo.calls (how : F6 → Int → F6 × Int) (w : World) (f t b n : Nat) (M : Rowmap) (k0 k1 k2 d : Int) (hF : IsFund w f t b n M) (hn : n < maxLen) (u0 : U8 k0) (u1 : U8 k1) (u2 : U8 k2)
    (hm : ∀ x, M (k0, k1, k2) = some x → Makes 39 x d (how x d).1 (how x d).2) :
    Calls Try.prog 20 #[.pointer (some ⟨f, 0, none⟩), .agg #[.int .u8 k0, .int .u8 k1, .int .u8 k2, .int .i64 d]] w fun e w' =>
      e = .returned (.int .i64 (stepOf how M (k0, k1, k2) d).2) ∧ w.grownBy w' (some b) ∧ IsFund w' f t b (n + 1) (stepOf how M (k0, k1, k2) d).1 := by
  have hc : ∀ W p q, Below w.heap.size w W → W.heap[p]? = some (.cells #[.func (.func 39) #[] #[]] 73 (0, 0)) → W.heap[q]? = some (.cells #[.int .i64 d] 2 (0, 0)) →
      Calls Try.prog 24 #[.pointer (some ⟨f, 0, none⟩), .agg #[.int .u8 k0, .int .u8 k1, .int .u8 k2], .func (.func 41) #[] #[.pointer (some ⟨p, 0, none⟩), .pointer (some ⟨q, 0, none⟩)]] W fun e w' =>
      e = .returned (.int .i64 (stepOf how M (k0, k1, k2) d).2) ∧ w.grownBy w' (some b) ∧ IsFund w' f t b (n + 1) (stepOf how M (k0, k1, k2) d).1 := fun W p q hW h1 h2 =>
    (change.calls how W f t b n p q M k0 k1 k2 d 39 (by decide) (hF.below hW) hn u0 u1 u2 h1 h2 hm).mono fun e w' ⟨e1, e2, e3⟩ =>
      ⟨e1, ⟨e2.os.trans hW.os, e2.tape.trans hW.tape, e2.output.trans hW.output, Nat.le_trans hW.size e2.size, fun i hi hr => (e2.block i (Nat.lt_of_lt_of_le hi hW.size) hr).trans (hW.block i hi)⟩, e3⟩
  generalize stepOf how M (k0, k1, k2) d = S at hc ⊢
  have hc2 : ∀ o : Obj, Calls Try.prog 24 #[.pointer (some ⟨f, 0, none⟩), .agg #[.int .u8 k0, .int .u8 k1, .int .u8 k2], .func (.func 41) #[] #[.pointer (some ⟨w.heap.size + 1, 0, none⟩), .pointer (some ⟨w.heap.size + 1 + 1, 0, none⟩)]]
      (((w.alloc o).alloc (.cells #[.func (.func 39) #[] #[]] 73 (0, 0))).alloc (.cells #[.int .i64 d] 2 (0, 0))).drew fun e w' =>
      e = .returned (.int .i64 S.2) ∧ w.grownBy w' (some b) ∧ IsFund w' f t b (n + 1) S.1 := fun o =>
    hc _ _ _ (below_drew1 (below_alloc (below_alloc (below_alloc (Below.refl _ _) _) _) _)) (by
      have z := blk_drew (blk_alloc (blk_new (w.alloc o) (.cells #[.func (.func 39) #[] #[]] 73 (0, 0))) (.cells #[.int .i64 d] 2 (0, 0)))
      simpa using z) (by
      have z := blk_drew (blk_new ((w.alloc o).alloc (.cells #[.func (.func 39) #[] #[]] 73 (0, 0))) (.cells #[.int .i64 d] 2 (0, 0)))
      simpa using z)
  have HC := Aside0.mk hc2
  clear hc2
  clear hc hF u0 u1 u2 hm
  go_enter Try.func20, Try.ntmps20
  go_wp2
  go_region_with (first | (go_at_call 25; ((with_reducible refine (fund_by.calls _ _ _).mono ?_); rintro e w' ⟨rfl, rfl⟩)) | (go_at_call 24; ((with_reducible refine (HC.out _).mono ?_); rintro e w1 ⟨rfl, hg1, hF1⟩)))
  all_goals go_wp2
  all_goals refine bodyPost_ret (v := .int .i64 S.2) (by simp [results, Try.results20, go_sem]) rfl ⟨rfl, hg1, hF1⟩
end Go.Proofs.Ytnipjfciphgfjaa.V
/- The walks of what a view tells of one field. -/
namespace Go.Proofs.Ytnipjfciphgfjaa.V
open Go.RowKit Go.Proofs.Ytnipjfciphgfjaa.G Go.Proofs.YtnipjfciphgfjaaW.PrintWords Go.Proofs.YtnipjfciphgfjaaW.PrintLast Go.Proofs.YtnipjfciphgfjaaW.PrintMore
set_option linter.unusedVariables false
set_option linter.unusedSimpArgs false
set_option maxHeartbeats 2000000
set_option maxRecDepth 100000
theorem view_Free.calls (w : World) (f t b n : Nat) (M : Rowmap) (k0 k1 k2 x0 x1 x2 x3 x4 x5 r : Int) (hF : IsFund w f t b n M) (u0 : U8 k0) (u1 : U8 k1) (u2 : U8 k2) (hv : (M (k0, k1, k2)).getD F6.zero = (x0, x1, x2, x3, x4, x5)) (hr : view_far.f x0 x3 = some r) :
    Calls Try.prog 9 #[.pointer (some ⟨f, 0, none⟩), .agg #[.int .u8 k0, .int .u8 k1, .int .u8 k2]] w fun e w' => e = .returned (.int .i64 r) ∧ Below w.heap.size w w' := by
  have hg : ∀ W, Below w.heap.size w W → Calls Try.prog 27 #[.pointer (some ⟨f, 0, none⟩), .agg #[.int .u8 k0, .int .u8 k1, .int .u8 k2]] W fun e w' =>
      e = .returned (.tuple #[.agg #[.int .i64 x0, .int .i64 x1, .int .i64 x2, .int .i64 x3, .int .i64 x4, .int .i64 x5], .bool (M (k0, k1, k2)).isSome]) ∧ Below W.heap.size W w' :=
    fun W hW => fund_Get.calls W f t b n M k0 k1 k2 x0 x1 x2 x3 x4 x5 _ (hF.below hW).fund (hF.below hW).table (hF.below hW).map u0 u1 u2 hv rfl
  have HG := Aside0.mk hg
  have HR := Aside0.mk hr
  clear hg hF u0 u1 u2 hv hr
  go_enter Try.func9, Try.ntmps9
  go_wp2_with (first | (go_at_call 27; ((with_reducible refine (HG.out _ (below_alloc (Below.refl _ _) _)).mono ?_); rintro e w1 ⟨rfl, hb⟩; have h3 : Below w.heap.size w w1 := below_step (below_alloc (Below.refl _ _) _) hb; obtain ⟨hcc, hff⟩ := bcell hb)) | (go_at_call 28; ((with_reducible refine (view_far.calls _ _ _ _ HR.out).mono ?_); rintro e w2 ⟨rfl, ⟨nd, rfl⟩⟩)))
  refine bodyPost_ret (v := .int .i64 r) (by simp [results, Try.results9, go_sem]) rfl ⟨rfl, ?_⟩
  exact pw_below_drewN (below_alloc h3 _) nd
theorem view_Room.calls (w : World) (f t b n : Nat) (M : Rowmap) (k0 k1 k2 x0 x1 x2 x3 x4 x5 r : Int) (hF : IsFund w f t b n M) (u0 : U8 k0) (u1 : U8 k1) (u2 : U8 k2) (hv : (M (k0, k1, k2)).getD F6.zero = (x0, x1, x2, x3, x4, x5)) (hr : view_far.f x4 x1 = some r) :
    Calls Try.prog 10 #[.pointer (some ⟨f, 0, none⟩), .agg #[.int .u8 k0, .int .u8 k1, .int .u8 k2]] w fun e w' => e = .returned (.int .i64 r) ∧ Below w.heap.size w w' := by
  have hg : ∀ W, Below w.heap.size w W → Calls Try.prog 27 #[.pointer (some ⟨f, 0, none⟩), .agg #[.int .u8 k0, .int .u8 k1, .int .u8 k2]] W fun e w' =>
      e = .returned (.tuple #[.agg #[.int .i64 x0, .int .i64 x1, .int .i64 x2, .int .i64 x3, .int .i64 x4, .int .i64 x5], .bool (M (k0, k1, k2)).isSome]) ∧ Below W.heap.size W w' :=
    fun W hW => fund_Get.calls W f t b n M k0 k1 k2 x0 x1 x2 x3 x4 x5 _ (hF.below hW).fund (hF.below hW).table (hF.below hW).map u0 u1 u2 hv rfl
  have HG := Aside0.mk hg
  have HR := Aside0.mk hr
  clear hg hF u0 u1 u2 hv hr
  go_enter Try.func10, Try.ntmps10
  go_wp2_with (first | (go_at_call 27; ((with_reducible refine (HG.out _ (below_alloc (Below.refl _ _) _)).mono ?_); rintro e w1 ⟨rfl, hb⟩; have h3 : Below w.heap.size w w1 := below_step (below_alloc (Below.refl _ _) _) hb; obtain ⟨hcc, hff⟩ := bcell hb)) | (go_at_call 28; ((with_reducible refine (view_far.calls _ _ _ _ HR.out).mono ?_); rintro e w2 ⟨rfl, ⟨nd, rfl⟩⟩)))
  refine bodyPost_ret (v := .int .i64 r) (by simp [results, Try.results10, go_sem]) rfl ⟨rfl, ?_⟩
  exact pw_below_drewN (below_alloc h3 _) nd
end Go.Proofs.Ytnipjfciphgfjaa.V
/- The walk of a fund's making. -/
namespace Go.Proofs.Ytnipjfciphgfjaa.V
open Go.RowKit Go.Proofs.Ytnipjfciphgfjaa.G Go.Proofs.YtnipjfciphgfjaaW.PrintWords Go.Proofs.YtnipjfciphgfjaaW.PrintLast Go.Proofs.YtnipjfciphgfjaaW.PrintMore
set_option linter.unusedVariables false
set_option linter.unusedSimpArgs false
set_option maxHeartbeats 2000000
set_option maxRecDepth 100000
/-- The field that a declaration makes, if it does. -/
def newOf (a b c : Int) : Option F6 := if a ≤ b ∧ b ≤ c then some (a, c, b, b, b, b) else none
def addDecl (M : Rowmap) (d : S60) : Rowmap := match newOf d.f1 d.f2 d.f3 with | some x => M.put (d.f0.f0, d.f0.f1, d.f0.f2) x | none => M
def newMap (l : List S60) : Rowmap := l.foldl addDecl (fun _ => none)
theorem newMap_snoc (l : List S60) (d : S60) : newMap (l ++ [d]) = addDecl (newMap l) d := by simp [newMap]
theorem take_succ_rd (l : List S60) (i : Nat) (h : i < l.length) : l.take (i + 1) = l.take i ++ [rd_T60 l (i : Int)] := by
  have e : rd_T60 l (i : Int) = l[i] := by simp [rd_T60, h]
  rw [e, List.take_append_getElem h]
theorem newMap_take (l : List S60) (i : Nat) (h : i < l.length) : newMap (l.take (i + 1)) = addDecl (newMap (l.take i)) (rd_T60 l (i : Int)) := by
  rw [take_succ_rd l i h, newMap_snoc]
theorem rd60_mem (l : List S60) (i : Nat) (h : i < l.length) : rd_T60 l (i : Int) ∈ l := by
  have e : rd_T60 l (i : Int) = l[i] := by simp [rd_T60, h]
  rw [e]; exact List.getElem_mem h
/-- A declaration's key may be one. -/
def DKey (d : S60) : Prop := U8 d.f0.f0 ∧ U8 d.f0.f1 ∧ U8 d.f0.f2
theorem field_New_eq (a0 a1 a2 a b c : Int) : field_New.f a0 a1 a2 a b c = some (match newOf a b c with | some x => (x.1, x.2.1, x.2.2.1, x.2.2.2.1, x.2.2.2.2.1, x.2.2.2.2.2, 0) | none => (0, 0, 0, 0, 0, 0, 3)) := by
  unfold field_New.f field_Good.f newOf
  simp only [mn, mx]
  by_cases h1 : a ≤ b
  · by_cases h2 : b ≤ c
    · simp [h1, h2]
    · simp [h1, h2]
  · simp [h1]
theorem grown_below {m : Nat} {w w' : World} {b : Nat} (h : w.grownBy w' (some b)) (hm : m ≤ w.heap.size) (hb : m ≤ b) : Below m w w' :=
  ⟨h.os, h.tape, h.output, h.size, fun i hi => h.block i (Nat.lt_of_lt_of_le hi hm) (by simp; omega)⟩
theorem fund_New.calls (w : World) (A : Option Addr) (c : Nat) (l : List S60) (hr : Kd.C k60 w A l.length l) (hc : l.length ≤ c) (hl : l.length ≤ 40) (hk : ∀ d ∈ l, DKey d) :
    Calls Try.prog 7 #[.slice A l.length c] w fun e w' => e = .returned (.pointer (some ⟨w.heap.size + 1 + 1, 0, none⟩)) ∧ Below w.heap.size w w' ∧ IsFund w' (w.heap.size + 1 + 1) (w.heap.size + 1) w.heap.size l.length (newMap l) := by
  have hF0 : IsFund (((w.alloc (.map #[] 0)).alloc (.cells #[.map (some w.heap.size)] 92 (0, 0))).alloc (.cells #[.pointer (some ⟨w.heap.size + 1, 0, none⟩)] 66 (0, 0))) (w.heap.size + 1 + 1) (w.heap.size + 1) w.heap.size 0 (fun _ => none) := by
    refine ⟨?_, ?_, ?_⟩
    · have z := blk_new ((w.alloc (.map #[] 0)).alloc (.cells #[.map (some w.heap.size)] 92 (0, 0))) (.cells #[.pointer (some ⟨w.heap.size + 1, 0, none⟩)] 66 (0, 0))
      simpa using z
    · have z := blk_alloc (blk_new (w.alloc (.map #[] 0)) (.cells #[.map (some w.heap.size)] 92 (0, 0))) (.cells #[.pointer (some ⟨w.heap.size + 1, 0, none⟩)] 66 (0, 0))
      simpa using z
    · refine (Tab.made w).kept ?_
      rw [Below.heap_alloc _ _ _ (by simp; omega), Below.heap_alloc _ _ _ (by simp)]
  have HF0 := Aside0.mk hF0
  clear hF0
  have HR0 := Aside0.mk hr
  have HC0 := Aside0.mk hc
  have HL := Aside0.mk hl
  have HK := Aside0.mk hk
  clear hr hc hl hk
  go_enter Try.func7, Try.ntmps7
  go_wp2_with (go_at_call 21; ((with_reducible refine (table_New.calls _).mono ?_); rintro e w1 ⟨rfl, rfl⟩))
  go_loopg [13] l.length (fun kq v13 w' => ∃ i : Nat, v13 = .int .i64 (i : Int) ∧ Aside0 (kq + i = l.length) ∧ Aside0 (IsFund w' (w.heap.size + 1 + 1) (w.heap.size + 1) w.heap.size i (newMap (l.take i))) ∧ Aside0 (Below w.heap.size w w'))
  case atStart => exact ⟨0, rfl, ⟨rfl⟩, HF0, ⟨below_alloc (below_alloc (below_alloc (Below.refl _ _) _) _) _⟩⟩
  case round =>
    obtain ⟨i, rfl, HI, HF, HB⟩ := hrel
    cases gk with
    | zero =>
      have hi : i = l.length := by have := HI.out; omega
      have c2 : decide ((i : Int) < (l.length : Int)) = false := decide_eq_false (by omega)
      clear HK HF0
      go_wp2
      go_ret
      exact ⟨rfl, HB.out, by have := HF.out; rw [hi, List.take_length] at this; exact this⟩
    | succ k1 =>
      have hi : i < l.length := by have := HI.out; omega
      have c2 : decide ((i : Int) < (l.length : Int)) = true := decide_eq_true (by omega)
      obtain ⟨ad, e0, hx0, hx1, hx2, hx3, hx4, hx5⟩ := at_T60 HR0.out (i : Int) (by omega) (by omega)
      cases e0
      replace hx0 := (HB.out.cell (World.block_lt_of_cell? w _ hx0)).trans hx0
      replace hx1 := (HB.out.cell (World.block_lt_of_cell? w _ hx1)).trans hx1
      replace hx2 := (HB.out.cell (World.block_lt_of_cell? w _ hx2)).trans hx2
      replace hx3 := (HB.out.cell (World.block_lt_of_cell? w _ hx3)).trans hx3
      replace hx4 := (HB.out.cell (World.block_lt_of_cell? w _ hx4)).trans hx4
      replace hx5 := (HB.out.cell (World.block_lt_of_cell? w _ hx5)).trans hx5
      have hN := newMap_take l i hi
      have hD := HK.out _ (rd60_mem l i hi)
      have p0 : (0 ≤ (i : Int)) = True := eq_true (by omega)
      have q0 : ((i : Int) < (l.length : Int)) = True := eq_true (by omega)
      have hHI := HI.out
      have hHL := HL.out
      generalize rd_T60 l (i : Int) = d at *
      obtain ⟨⟨k0, k1', k2⟩, x0, x1, x2⟩ := d
      simp only [Int.toNat_natCast] at hx0 hx1 hx2 hx3 hx4 hx5
      have HN := Aside0.mk hN
      have HD := Aside0.mk hD
      clear hN hD
      have hnew := field_New_eq k0 k1' k2 x0 x1 x2
      simp only [addDecl] at HN
      cases hc : newOf x0 x1 x2 with
      | none =>
        rw [hc] at hnew
        have HNE := Aside0.mk hnew
        clear hnew
        go_wp2_with (go_at_call 22; ((with_reducible refine (field_New.calls _ _ _ _ _ _ _ _ _ _ _ _ _ _ HNE.out).mono ?_); rintro e w1 ⟨rfl, hb⟩; obtain ⟨hcc, hff⟩ := bcell hb))
        have h3 : Below wr.heap.size wr (w1.alloc (.cells #[.int .i64 0, .int .i64 0, .int .i64 0, .int .i64 0, .int .i64 0, .int .i64 0] 64 (0, 0))) := below_alloc (below_step (below_alloc (Below.refl _ _) _) hb) _
        go_roundg k1
        case measure => omega
        case rel =>
          refine ⟨i + 1, by simp, ⟨by omega⟩, ⟨?_⟩, ⟨below_step HB.out h3⟩⟩
          rw [HN.out, hc]
          exact (HF.out.below h3).mono (Nat.le_succ i)
      | some y =>
        rw [hc] at hnew
        obtain ⟨y0, y1, y2, y3, y4, y5⟩ := y
        have HNE := Aside0.mk hnew
        clear hnew
        have hput : ∀ W, Below wr.heap.size wr W → Calls Try.prog 23 #[.pointer (some ⟨w.heap.size + 1, 0, none⟩), .agg #[.int .u8 k0, .int .u8 k1', .int .u8 k2], .agg #[.int .i64 y0, .int .i64 y1, .int .i64 y2, .int .i64 y3, .int .i64 y4, .int .i64 y5]] W fun e w' =>
            e = .returned (.tuple #[]) ∧ wr.grownBy w' (some w.heap.size) ∧ IsFund w' (w.heap.size + 1 + 1) (w.heap.size + 1) w.heap.size (i + 1) ((newMap (l.take i)).put (k0, k1', k2) (y0, y1, y2, y3, y4, y5)) := fun W hW =>
          (table_Put.calls W _ _ _ _ k0 k1' k2 y0 y1 y2 y3 y4 y5 (HF.out.below hW).table (HF.out.below hW).map (Nat.lt_of_le_of_lt (show i ≤ 40 by omega) (by decide)) HD.out.1 HD.out.2.1 HD.out.2.2).mono (fun e w' ⟨e1, e2, e3⟩ => by
            have g : wr.grownBy w' (some w.heap.size) := ⟨e2.os.trans hW.os, e2.tape.trans hW.tape, e2.output.trans hW.output, Nat.le_trans hW.size e2.size, fun i hi hr => (e2.block i (Nat.lt_of_lt_of_le hi hW.size) hr).trans (hW.block i hi)⟩
            exact ⟨e1, g, HF.out.grown g e3⟩)
        have HPUT := Aside0.mk hput
        clear hput
        have hcF : wr.cell? ⟨w.heap.size + 1 + 1, 0, none⟩ = some (.pointer (some ⟨w.heap.size + 1, 0, none⟩)) := blk_cell HF.out.fund 0
        have hltF := World.block_lt_of_cell? _ _ hcF
        go_wp2_with (go_at_call 22; ((with_reducible refine (field_New.calls _ _ _ _ _ _ _ _ _ _ _ _ _ _ HNE.out).mono ?_); rintro e w1 ⟨rfl, hb⟩; obtain ⟨hcc, hff⟩ := bcell hb))
        have h3 : Below wr.heap.size wr w1 := below_step (below_alloc (Below.refl _ _) _) hb
        have hz1 : wr.heap.size < w1.heap.size := (by have := hb.size; simp at this; omega)
        have kf : w1.cell? ⟨w.heap.size + 1 + 1, 0, none⟩ = some (.pointer (some ⟨w.heap.size + 1, 0, none⟩)) := (h3.cell hltF).trans hcF
        have hltW : w.heap.size + 1 + 1 < w1.heap.size := Nat.lt_trans hltF hz1
        have j0 : w1.cell? ⟨wr.heap.size, 0, none⟩ = some (.int .u8 k0) := by simp [hcc, go_sem]
        have j1 : w1.cell? ⟨wr.heap.size, 1, none⟩ = some (.int .u8 k1') := by simp [hcc, go_sem]
        have j2 : w1.cell? ⟨wr.heap.size, 2, none⟩ = some (.int .u8 k2) := by simp [hcc, go_sem]
        clear hcc hff hb hx0 hx1 hx2 hx3 hx4 hx5
        go_region_with (go_at_call 23; ((with_reducible refine (HPUT.out _ (below_drew1 (below_alloc h3 _))).mono ?_); rintro e w3 ⟨rfl, hg3, hF3⟩))
        all_goals go_wp2
        all_goals
          go_roundg k1
          case measure => omega
          case rel =>
            refine ⟨i + 1, by simp, ⟨by omega⟩, ⟨?_⟩, ⟨HB.out.grown hg3 (below_size HB.out) (fun k hk => by cases hk; exact Nat.le_refl _)⟩⟩
            rw [HN.out, hc]
            exact hF3
end Go.Proofs.Ytnipjfciphgfjaa.V
/- The walk of what a view tells of an article. -/
namespace Go.Proofs.Ytnipjfciphgfjaa.V
open Go.RowKit Go.Proofs.Ytnipjfciphgfjaa.G Go.Proofs.YtnipjfciphgfjaaW.PrintWords Go.Proofs.YtnipjfciphgfjaaW.PrintLast Go.Proofs.YtnipjfciphgfjaaW.PrintMore
attribute [local go_sem] max2_int min2_int max_two min_two max_three min_three max_four min_four
set_option linter.unusedVariables false
set_option linter.unusedSimpArgs false
set_option maxHeartbeats 2000000
set_option maxRecDepth 100000
/-- A span: its least, its present, its greatest value. -/
structure S49 where
  f0 : Int
  f1 : Int
  f2 : Int
def z49 : S49 := ⟨(0 : Int), (0 : Int), (0 : Int)⟩
def k49 : Kd S49 := Kd.iso (Kd.pair (Kd.int .i64) (Kd.pair (Kd.int .i64) (Kd.int .i64))) (fun x : S49 => (x.f0, x.f1, x.f2))
theorem k49_open {w : World} {x : S49} {cs : List Value} (h : k49.K w x cs) : cs = [.int .i64 x.f0, .int .i64 x.f1, .int .i64 x.f2] := by
  obtain ⟨_, _, rfl, rfl, ⟨_, _, rfl, rfl, rfl⟩⟩ := h
  exact rfl
theorem k49_mkM (w : World) (base : Nat) (ok : Nat → Prop) (x : S49)  : k49.M w base ok x [.int .i64 x.f0, .int .i64 x.f1, .int .i64 x.f2] := ⟨[.int .i64 x.f0], [.int .i64 x.f1, .int .i64 x.f2], rfl, rfl, ⟨[.int .i64 x.f1], [.int .i64 x.f2], rfl, rfl, rfl⟩⟩
def rd_T49 (xs : List S49) (i : Int) : S49 := xs.getD i.toNat z49
theorem at_T49 {w : World} {A : Option Addr} {n : Nat} {xs : List S49} (h : Kd.C k49 w A n xs) (i : Int) (h0 : 0 ≤ i) (h1 : i < n) : ∃ ad , A = some ad ∧ w.cell? (ad.add (i.toNat * 3)) = some (.int .i64 (rd_T49 xs i).f0) ∧ w.cell? ⟨(ad.add (i.toNat * 3)).block, (ad.add (i.toNat * 3)).off + 1, none⟩ = some (.int .i64 (rd_T49 xs i).f1) ∧ w.cell? ⟨(ad.add (i.toNat * 3)).block, (ad.add (i.toNat * 3)).off + 2, none⟩ = some (.int .i64 (rd_T49 xs i).f2) := by
  obtain ⟨ad, c, e, _, hK, hc0⟩ := Kd.C_get h z49 i h0 h1
  have hc : ∀ j u, c[j]? = some u → w.cell? (ad.add (i.toNat * 3 + j)) = some u := hc0
  obtain rfl := k49_open hK
  exact ⟨ad, e, hc 0 _ rfl, by rw [← add_field _ _ 1 (by omega)]; exact hc 1 _ rfl, by rw [← add_field _ _ 2 (by omega)]; exact hc 2 _ rfl⟩
theorem info49 : (Try.prog.info? 49).map (fun i => (i.zero, i.size, i.bytes)) = some (some (.agg #[.int .i64 0, .int .i64 0, .int .i64 0]), 3, 24) := by kernel_rfl
/-- The cells of a configuration of so many articles and warehouses. -/
abbrev cfg (skus wares : Int) : Array Value := #[.int .i64 skus, .int .i64 wares, .slice none 0 0, .int .u8 0, .int .u8 0, .int .u8 0, .int .u8 0, .int .u8 0, .int .u8 0, .int .u8 0, .int .u8 0, .int .u8 0, .int .u8 0, .int .u8 0, .int .u8 0, .int .u8 0, .int .u8 0, .int .u8 0, .int .u8 0, .int .i64 0, .int .i64 0, .int .i64 0, .int .i64 0, .int .i64 0, .int .i64 0, .int .i64 0]
theorem zero44 : (Try.prog.info? 44).map (fun i => (i.zero, i.size)) = some (some (.agg (cfg 0 0)), 26) := by kernel_rfl
def spanOf : F6 → S49
  | (_, _, _, x3, x4, x5) => ⟨x3, x5, x4⟩
/-- What is seen of a warehouse. -/
def seen (M : Rowmap) (s k : Int) : S49 := spanOf ((M (1, s, k)).getD F6.zero)
def seens (M : Rowmap) (s : Int) (n : Nat) : List S49 := (List.range n).map fun k : Nat => seen M s (k : Int)
theorem seens_succ (M : Rowmap) (s : Int) (n : Nat) : seens M s (n + 1) = seens M s n ++ [seen M s n] := by simp [seens, List.range_succ]
/-- So many warehouses are seen. -/
def most4 (n : Int) : Nat := (mn n 4).toNat
def spansOf (M : Rowmap) (skus wares s : Int) : List S49 := if mn skus 4 ≤ s then [] else seens M s (most4 wares)
theorem seen_open (M : Rowmap) (s k x0 x1 x2 x3 x4 x5 : Int) (h : (M (1, s, k)).getD F6.zero = (x0, x1, x2, x3, x4, x5)) : seen M s k = ⟨x3, x5, x4⟩ := by
  unfold seen; rw [h]; rfl
theorem mn4_in {a : Int} (h : In64 a) : wrap64 (if (4 : Int) < a then 4 else a) = (if (4 : Int) < a then 4 else a) := by
  unfold In64 at h; unfold wrap64; split <;> omega
theorem u8_iff {s : Int} : U8 s ↔ 0 ≤ s ∧ s < 256 := by
  have e1 : IntKind.u8.min = 0 := by decide
  have e2 : IntKind.u8.max = 255 := by decide
  unfold U8 Lit.wf
  simp only [decide_eq_true_eq, Bool.and_eq_true, e1, e2]
  omega
theorem u8_in {s : Int} (h : U8 s) : 0 ≤ s ∧ s < 256 := u8_iff.1 h
theorem view_Spans.calls (w : World) (f t b n : Nat) (M : Rowmap) (skus wares s : Int) (hF : IsFund w f t b n M) (us : U8 s) (hskus : In64 skus) (hwares : In64 wares) :
    Calls Try.prog 13 #[.agg (cfg skus wares), .pointer (some ⟨f, 0, none⟩), .int .u8 s] w fun e w' => ∃ v, e = .returned v ∧ Kd.R k49 49 w' w.heap.size (fun _ => True) v (spansOf M skus wares s) ∧ Below w.heap.size w w' := by
  have HF := Aside0.mk hF
  have HB := Aside0.mk (Below.refl w.heap.size w)
  have U := Aside0.mk us
  have us' := u8_in us
  obtain ⟨a, ha⟩ : ∃ a, (if (4 : Int) < skus then 4 else skus) = a := ⟨_, rfl⟩
  obtain ⟨c, hc⟩ : ∃ c, (if (4 : Int) < wares then 4 else wares) = c := ⟨_, rfl⟩
  have hws : wrap64 s = s := by unfold wrap64; omega
  unfold spansOf most4 mn
  rw [ha, hc]
  have hc4 : c ≤ 4 := by rw [← hc]; split <;> omega
  clear hF us
  by_cases hsa : a ≤ s
  · rw [if_pos hsa]
    have d1 : decide (a ≤ s) = true := decide_eq_true hsa
    go_enter Try.func13, Try.ntmps13
    go_wp2_with (fail)
    go_ret
    exact ⟨_, rfl, Kd.R_nil _ _ _ _ _, below_alloc (Below.refl _ _) _⟩
  · rw [if_neg hsa]
    have d1 : decide (a ≤ s) = false := decide_eq_false hsa
    go_enter Try.func13, Try.ntmps13
    go_wp2_with (fail)
    go_loopg [7, 8] c.toNat (fun kq v7 v8 w' => ∃ i : Nat, v8 = .int .i64 (i : Int) ∧ Aside0 (kq + i = c.toNat) ∧ Aside0 (Kd.R k49 49 w' w.heap.size (fun _ => True) v7 (seens M s i)) ∧ Aside0 (w'.heap[w.heap.size]? = some (.cells (cfg skus wares) 44 (0, 0))) ∧ Aside0 (Below w.heap.size w w'))
    case atStart => exact ⟨0, rfl, ⟨rfl⟩, ⟨Kd.R_nil _ _ _ _ _⟩, ⟨blk_new _ _⟩, ⟨below_alloc (Below.refl _ _) _⟩⟩
    case round =>
      obtain ⟨i, rfl, HI, HO, HK, HB1⟩ := hrel
      have kc : wr.cell? ⟨w.heap.size, 1, none⟩ = some (.int .i64 wares) := blk_cell HK.out 1
      have kf := blk_frozen HK.out 1
      cases gk with
      | zero =>
        have hi := HI.out
        have c2 : decide ((i : Int) < c) = false := decide_eq_false (by omega)
        go_wp2
        go_ret
        rw [show c.toNat = i by omega]
        exact ⟨_, rfl, HO.out, HB1.out⟩
      | succ k1 =>
        have hi := HI.out
        have c2 : decide ((i : Int) < c) = true := decide_eq_true (by omega)
        have hst : view_stock.f s (i : Int) = some (1, s, (i : Int)) := by unfold view_stock.f; rw [show s % 256 = s by omega, show (i : Int) % 256 = (i : Int) by omega]
        have ui : U8 (i : Int) := u8_iff.2 (by omega)
        have hsn := seens_succ M s i
        obtain ⟨x0, x1, x2, x3, x4, x5, hx⟩ : ∃ x0 x1 x2 x3 x4 x5, (M (1, s, (i : Int))).getD F6.zero = (x0, x1, x2, x3, x4, x5) := ⟨_, _, _, _, _, _, rfl⟩
        rw [seen_open M s i x0 x1 x2 x3 x4 x5 hx] at hsn
        have HSN := Aside0.mk hsn
        have hg : ∀ W, Below wr.heap.size wr W → Calls Try.prog 27 #[.pointer (some ⟨f, 0, none⟩), .agg #[.int .u8 1, .int .u8 s, .int .u8 (i : Int)]] W fun e w' =>
            e = .returned (.tuple #[.agg #[.int .i64 x0, .int .i64 x1, .int .i64 x2, .int .i64 x3, .int .i64 x4, .int .i64 x5], .bool (M (1, s, (i : Int))).isSome]) ∧ Below W.heap.size W w' := fun W hW => by
          have hW2 := below_step HB1.out hW
          exact fund_Get.calls W f t b n M 1 s i x0 x1 x2 x3 x4 x5 _ (HF.out.below hW2).fund (HF.out.below hW2).table (HF.out.below hW2).map (u8_iff.2 (by decide)) U.out ui hx rfl
        have HG := Aside0.mk hg
        have HST := Aside0.mk hst
        generalize (M (1, s, (i : Int))).isSome = sm at *
        clear hg hst ui hsn hx
        go_wp2_with (first
          | (go_at_call 35; ((with_reducible refine (view_stock.calls _ _ _ _ _ _ HST.out).mono ?_); rintro e w1 ⟨rfl, hbS⟩))
          | (go_at_call 27; ((with_reducible refine (HG.out _ hbS).mono ?_); rintro e w2 ⟨rfl, hb⟩; replace hb := below_step hbS hb))
          | ((with_reducible refine gate_builtin (b := .append) (xs := #[.tmp 33, .tmp 41]) rfl ?_); at_builtin; go_loud (refine Kd.R_append k49 (w0 := w) w.heap.size rfl (.tmp 33) (.tmp 41) 45 49 (.agg #[.int .i64 0, .int .i64 0, .int .i64 0]) 24 rfl Try.underlying45 info49 rfl (by decide) (by decide) u7 (seens M s i) ⟨x3, x5, x4⟩ [.int .i64 x3, .int .i64 x5, .int .i64 x4] (fun _ => True) (fun _ => False) rfl ?aX (k49_mkM _ _ _ ⟨x3, x5, x4⟩) (fun _ hk => hk.elim) (fun _ _ => trivial) (Kd.R_alloc (Kd.R_below HO.out hb) _) (below_alloc (below_step HB1.out hb) _) (below_size (below_alloc (below_step HB1.out hb) _)) ?aL ?_); (case aX => (show Value.slice (some ⟨w2.heap.size + 1, 0, none⟩) 1 1 = _; simp)); (case aL => (simp [seens]; omega)); intro v1 w3 ho hb3 hg3 _))
        go_roundg k1
        case measure => omega
        case rel => exact ⟨i + 1, by simp, ⟨by omega⟩, ⟨by rw [HSN.out]; exact ho⟩, ⟨blk_grown (blk_alloc (blk_below HK.out hb) _) hg3 (Kd.R_ne HO.out HK.out (by decide))⟩, ⟨hb3⟩⟩
end Go.Proofs.Ytnipjfciphgfjaa.V
/- The walk of what a view tells may be taken of all articles in all warehouses. -/
namespace Go.Proofs.Ytnipjfciphgfjaa.V
open Go.RowKit Go.Proofs.Ytnipjfciphgfjaa.G Go.Proofs.YtnipjfciphgfjaaW.PrintWords Go.Proofs.YtnipjfciphgfjaaW.PrintLast Go.Proofs.YtnipjfciphgfjaaW.PrintMore
set_option linter.unusedVariables false
set_option linter.unusedSimpArgs false
set_option maxHeartbeats 2000000
set_option maxRecDepth 100000
/-- How far one number is above another one, as far as it fits. -/
def farV (a b : Int) : Int := (view_far.f a b).getD 0
theorem view_far_eq (a b : Int) : view_far.f a b = some (farV a b) := by
  unfold farV view_far.f calc_Dist.f calc_Fits.f
  by_cases h : b < a
  · rw [if_pos h]; simp
  · rw [if_neg h]
    simp only [Option.bind_some]
    split
    · simp
    · simp
/-- The cells of a table of four rows of four. -/
abbrev grid (F : Nat → Int) : Array Value := #[.int .i64 (F 0), .int .i64 (F 1), .int .i64 (F 2), .int .i64 (F 3), .int .i64 (F 4), .int .i64 (F 5), .int .i64 (F 6), .int .i64 (F 7), .int .i64 (F 8), .int .i64 (F 9), .int .i64 (F 10), .int .i64 (F 11), .int .i64 (F 12), .int .i64 (F 13), .int .i64 (F 14), .int .i64 (F 15)]
theorem grid_set (F : Nat → Int) (j : Nat) (v : Int) (h : j < 16) : (grid F).setIfInBounds j (.int .i64 v) = grid (fun p => if p = j then v else F p) := by
  have : j = 0 ∨ j = 1 ∨ j = 2 ∨ j = 3 ∨ j = 4 ∨ j = 5 ∨ j = 6 ∨ j = 7 ∨ j = 8 ∨ j = 9 ∨ j = 10 ∨ j = 11 ∨ j = 12 ∨ j = 13 ∨ j = 14 ∨ j = 15 := by omega
  rcases this with rfl | rfl | rfl | rfl | rfl | rfl | rfl | rfl | rfl | rfl | rfl | rfl | rfl | rfl | rfl | rfl <;> rfl
/-- What may be taken of a key. -/
def freeAt (M : Rowmap) (k : Int × Int × Int) : Int := farV ((M k).getD F6.zero).1 ((M k).getD F6.zero).2.2.2.1
def roomAt (M : Rowmap) (k : Int × Int × Int) : Int := farV ((M k).getD F6.zero).2.2.2.2.1 ((M k).getD F6.zero).2.1
/-- Place p of the table: article p / 4, warehouse p % 4. -/
def freeOf (M : Rowmap) (skus wares : Int) (p : Nat) : Int := if ((p / 4 : Nat) : Int) < skus ∧ ((p % 4 : Nat) : Int) < wares then freeAt M (1, ((p / 4 : Nat) : Int), ((p % 4 : Nat) : Int)) else 0
def freesTo (M : Rowmap) (skus wares : Int) (n p : Nat) : Int := if p < n then freeOf M skus wares p else 0
theorem grid_congr {F G : Nat → Int} (h : ∀ p, p < 16 → F p = G p) : grid F = grid G := by
  simp only [grid, h 0 (by decide), h 1 (by decide), h 2 (by decide), h 3 (by decide), h 4 (by decide), h 5 (by decide), h 6 (by decide), h 7 (by decide), h 8 (by decide), h 9 (by decide), h 10 (by decide), h 11 (by decide), h 12 (by decide), h 13 (by decide), h 14 (by decide), h 15 (by decide)]
theorem freesTo_set (M : Rowmap) (skus wares : Int) (n : Nat) (hn : n < 16) : (grid (freesTo M skus wares n)).setIfInBounds n (.int .i64 (freeOf M skus wares n)) = grid (freesTo M skus wares (n + 1)) := by
  rw [grid_set _ _ _ hn]
  refine grid_congr fun p _ => ?_
  unfold freesTo
  by_cases h : p = n
  · subst h; simp
  · by_cases h2 : p < n
    · simp [h, h2, Nat.lt_succ_of_lt h2]
    · simp [h, h2, show ¬ p < n + 1 by omega]
theorem freesTo_skip (M : Rowmap) (skus wares : Int) (n : Nat) (h0 : freeOf M skus wares n = 0) : grid (freesTo M skus wares n) = grid (freesTo M skus wares (n + 1)) := by
  refine grid_congr fun p _ => ?_
  unfold freesTo
  by_cases h : p = n
  · subst h; simp [h0]
  · by_cases h2 : p < n
    · simp [h2, Nat.lt_succ_of_lt h2]
    · simp [h2, show ¬ p < n + 1 by omega]
theorem freesTo_zero (M : Rowmap) (skus wares : Int) : grid (freesTo M skus wares 0) = grid (fun _ => 0) := grid_congr fun p _ => by simp [freesTo]
theorem zero52 : (Try.prog.info? 52).map (fun i => (i.zero, i.size)) = some (some (.agg (grid fun _ => 0)), 16) := by kernel_rfl
theorem grid_get (F : Nat → Int) (j : Nat) (h : j < 16) : (grid F)[j]? = some (.int .i64 (F j)) := by
  have : j = 0 ∨ j = 1 ∨ j = 2 ∨ j = 3 ∨ j = 4 ∨ j = 5 ∨ j = 6 ∨ j = 7 ∨ j = 8 ∨ j = 9 ∨ j = 10 ∨ j = 11 ∨ j = 12 ∨ j = 13 ∨ j = 14 ∨ j = 15 := by omega
  rcases this with rfl | rfl | rfl | rfl | rfl | rfl | rfl | rfl | rfl | rfl | rfl | rfl | rfl | rfl | rfl | rfl <;> rfl
theorem grid_store {w : World} {g : Nat} {G F : Nat → Int} (h : w.heap[g]? = some (.cells (grid G) 52 (0, 0))) :
    ((((((((((((((((w.setCell ⟨g, 0, none⟩ (.int .i64 (F 0))).setCell ⟨g, 1, none⟩ (.int .i64 (F 1))).setCell ⟨g, 2, none⟩ (.int .i64 (F 2))).setCell ⟨g, 3, none⟩ (.int .i64 (F 3))).setCell ⟨g, 4, none⟩ (.int .i64 (F 4))).setCell ⟨g, 5, none⟩ (.int .i64 (F 5))).setCell ⟨g, 6, none⟩ (.int .i64 (F 6))).setCell ⟨g, 7, none⟩ (.int .i64 (F 7))).setCell ⟨g, 8, none⟩ (.int .i64 (F 8))).setCell ⟨g, 9, none⟩ (.int .i64 (F 9))).setCell ⟨g, 10, none⟩ (.int .i64 (F 10))).setCell ⟨g, 11, none⟩ (.int .i64 (F 11))).setCell ⟨g, 12, none⟩ (.int .i64 (F 12))).setCell ⟨g, 13, none⟩ (.int .i64 (F 13))).setCell ⟨g, 14, none⟩ (.int .i64 (F 14))).setCell ⟨g, 15, none⟩ (.int .i64 (F 15))).heap[g]? = some (.cells (grid F) 52 (0, 0)) := by
  have h0 := blk_put h 0 (.int .i64 (F 0)) (grid_set G 0 (F 0) (by decide))
  have h1 := blk_put h0 1 (.int .i64 (F 1)) (grid_set _ 1 (F 1) (by decide))
  have h2 := blk_put h1 2 (.int .i64 (F 2)) (grid_set _ 2 (F 2) (by decide))
  have h3 := blk_put h2 3 (.int .i64 (F 3)) (grid_set _ 3 (F 3) (by decide))
  have h4 := blk_put h3 4 (.int .i64 (F 4)) (grid_set _ 4 (F 4) (by decide))
  have h5 := blk_put h4 5 (.int .i64 (F 5)) (grid_set _ 5 (F 5) (by decide))
  have h6 := blk_put h5 6 (.int .i64 (F 6)) (grid_set _ 6 (F 6) (by decide))
  have h7 := blk_put h6 7 (.int .i64 (F 7)) (grid_set _ 7 (F 7) (by decide))
  have h8 := blk_put h7 8 (.int .i64 (F 8)) (grid_set _ 8 (F 8) (by decide))
  have h9 := blk_put h8 9 (.int .i64 (F 9)) (grid_set _ 9 (F 9) (by decide))
  have h10 := blk_put h9 10 (.int .i64 (F 10)) (grid_set _ 10 (F 10) (by decide))
  have h11 := blk_put h10 11 (.int .i64 (F 11)) (grid_set _ 11 (F 11) (by decide))
  have h12 := blk_put h11 12 (.int .i64 (F 12)) (grid_set _ 12 (F 12) (by decide))
  have h13 := blk_put h12 13 (.int .i64 (F 13)) (grid_set _ 13 (F 13) (by decide))
  have h14 := blk_put h13 14 (.int .i64 (F 14)) (grid_set _ 14 (F 14) (by decide))
  have h15 := blk_put h14 15 (.int .i64 (F 15)) (grid_set _ 15 (F 15) (by decide))
  refine h15.trans ?_
  simp [grid]
theorem blk_new1 (w : World) (A B : Obj) : ((w.alloc A).alloc B).heap[w.heap.size + 1]? = some B := by
  have z := blk_new (w.alloc A) B
  rw [show (w.alloc A).heap.size = w.heap.size + 1 by simp] at z
  exact z
theorem blk_new2 (w : World) (A B C : Obj) : (((w.alloc A).alloc B).alloc C).heap[w.heap.size + 1 + 1]? = some C := by
  have z := blk_new ((w.alloc A).alloc B) C
  rw [show ((w.alloc A).alloc B).heap.size = w.heap.size + 1 + 1 by simp] at z
  exact z
theorem view_Frees.calls (w : World) (f t b n : Nat) (M : Rowmap) (skus wares : Int) (hF : IsFund w f t b n M) :
    Calls Try.prog 17 #[.agg (cfg skus wares), .pointer (some ⟨f, 0, none⟩)] w fun e w' => e = .returned (.agg (grid (freesTo M skus wares 16))) ∧ Below w.heap.size w w' := by
  have HF := Aside0.mk hF
  clear hF
  obtain ⟨F, hFr⟩ : ∃ F, freesTo M skus wares 16 = F := ⟨_, rfl⟩
  rw [hFr]
  have HFR := Aside0.mk hFr
  clear hFr
  go_enter Try.func17, Try.ntmps17
  go_wp2_with (fail)
  go_loopg [8] 4 (fun kq v8 w' => ∃ s : Nat, v8 = .int .i64 (s : Int) ∧ Aside0 (kq + s = 4) ∧ Aside0 (w'.heap[w.heap.size + 1 + 1]? = some (.cells (grid (freesTo M skus wares (s * 4))) 52 (0, 0))) ∧ Aside0 (w'.heap[w.heap.size + 1]? = some (.cells (grid fun _ => 0) 52 (0, 0))) ∧ Aside0 (w'.heap[w.heap.size]? = some (.cells (cfg skus wares) 44 (0, 0))) ∧ Aside0 (Below w.heap.size w w'))
  case atStart => exact ⟨0, rfl, ⟨rfl⟩, ⟨by rw [Nat.zero_mul, freesTo_zero]; exact blk_new2 _ _ _ _⟩, ⟨blk_alloc (blk_new1 _ _ _) _⟩, ⟨blk_alloc (blk_alloc (blk_new _ _) _) _⟩, ⟨below_alloc (below_alloc (below_alloc (Below.refl _ _) _) _) _⟩⟩
  case round =>
    obtain ⟨s, rfl, HI, HG, HZ, HC, HB⟩ := hrel
    cases gk with
    | zero =>
      have hi := HI.out
      obtain rfl : s = 4 := by omega
      have c2 : decide (((4 : Nat) : Int) < 4) = false := by decide
      rw [show 4 * 4 = 16 from rfl, HFR.out] at HG
      have q0 : wr.cell? ⟨w.heap.size + 1 + 1, 0, none⟩ = some (.int .i64 (F 0)) := blk_cell HG.out 0
      have q1 : wr.cell? ⟨w.heap.size + 1 + 1, 1, none⟩ = some (.int .i64 (F 1)) := blk_cell HG.out 1
      have q2 : wr.cell? ⟨w.heap.size + 1 + 1, 2, none⟩ = some (.int .i64 (F 2)) := blk_cell HG.out 2
      have q3 : wr.cell? ⟨w.heap.size + 1 + 1, 3, none⟩ = some (.int .i64 (F 3)) := blk_cell HG.out 3
      have q4 : wr.cell? ⟨w.heap.size + 1 + 1, 4, none⟩ = some (.int .i64 (F 4)) := blk_cell HG.out 4
      have q5 : wr.cell? ⟨w.heap.size + 1 + 1, 5, none⟩ = some (.int .i64 (F 5)) := blk_cell HG.out 5
      have q6 : wr.cell? ⟨w.heap.size + 1 + 1, 6, none⟩ = some (.int .i64 (F 6)) := blk_cell HG.out 6
      have q7 : wr.cell? ⟨w.heap.size + 1 + 1, 7, none⟩ = some (.int .i64 (F 7)) := blk_cell HG.out 7
      have q8 : wr.cell? ⟨w.heap.size + 1 + 1, 8, none⟩ = some (.int .i64 (F 8)) := blk_cell HG.out 8
      have q9 : wr.cell? ⟨w.heap.size + 1 + 1, 9, none⟩ = some (.int .i64 (F 9)) := blk_cell HG.out 9
      have q10 : wr.cell? ⟨w.heap.size + 1 + 1, 10, none⟩ = some (.int .i64 (F 10)) := blk_cell HG.out 10
      have q11 : wr.cell? ⟨w.heap.size + 1 + 1, 11, none⟩ = some (.int .i64 (F 11)) := blk_cell HG.out 11
      have q12 : wr.cell? ⟨w.heap.size + 1 + 1, 12, none⟩ = some (.int .i64 (F 12)) := blk_cell HG.out 12
      have q13 : wr.cell? ⟨w.heap.size + 1 + 1, 13, none⟩ = some (.int .i64 (F 13)) := blk_cell HG.out 13
      have q14 : wr.cell? ⟨w.heap.size + 1 + 1, 14, none⟩ = some (.int .i64 (F 14)) := blk_cell HG.out 14
      have q15 : wr.cell? ⟨w.heap.size + 1 + 1, 15, none⟩ = some (.int .i64 (F 15)) := blk_cell HG.out 15
      have z0 : wr.cell? ⟨w.heap.size + 1, 0, none⟩ = some (.int .i64 0) := blk_cell HZ.out 0
      have fz0 : wr.frozen? ⟨w.heap.size + 1, 0, none⟩ = false := blk_frozen HZ.out 0
      have z1 : wr.cell? ⟨w.heap.size + 1, 1, none⟩ = some (.int .i64 0) := blk_cell HZ.out 1
      have fz1 : wr.frozen? ⟨w.heap.size + 1, 1, none⟩ = false := blk_frozen HZ.out 1
      have z2 : wr.cell? ⟨w.heap.size + 1, 2, none⟩ = some (.int .i64 0) := blk_cell HZ.out 2
      have fz2 : wr.frozen? ⟨w.heap.size + 1, 2, none⟩ = false := blk_frozen HZ.out 2
      have z3 : wr.cell? ⟨w.heap.size + 1, 3, none⟩ = some (.int .i64 0) := blk_cell HZ.out 3
      have fz3 : wr.frozen? ⟨w.heap.size + 1, 3, none⟩ = false := blk_frozen HZ.out 3
      have z4 : wr.cell? ⟨w.heap.size + 1, 4, none⟩ = some (.int .i64 0) := blk_cell HZ.out 4
      have fz4 : wr.frozen? ⟨w.heap.size + 1, 4, none⟩ = false := blk_frozen HZ.out 4
      have z5 : wr.cell? ⟨w.heap.size + 1, 5, none⟩ = some (.int .i64 0) := blk_cell HZ.out 5
      have fz5 : wr.frozen? ⟨w.heap.size + 1, 5, none⟩ = false := blk_frozen HZ.out 5
      have z6 : wr.cell? ⟨w.heap.size + 1, 6, none⟩ = some (.int .i64 0) := blk_cell HZ.out 6
      have fz6 : wr.frozen? ⟨w.heap.size + 1, 6, none⟩ = false := blk_frozen HZ.out 6
      have z7 : wr.cell? ⟨w.heap.size + 1, 7, none⟩ = some (.int .i64 0) := blk_cell HZ.out 7
      have fz7 : wr.frozen? ⟨w.heap.size + 1, 7, none⟩ = false := blk_frozen HZ.out 7
      have z8 : wr.cell? ⟨w.heap.size + 1, 8, none⟩ = some (.int .i64 0) := blk_cell HZ.out 8
      have fz8 : wr.frozen? ⟨w.heap.size + 1, 8, none⟩ = false := blk_frozen HZ.out 8
      have z9 : wr.cell? ⟨w.heap.size + 1, 9, none⟩ = some (.int .i64 0) := blk_cell HZ.out 9
      have fz9 : wr.frozen? ⟨w.heap.size + 1, 9, none⟩ = false := blk_frozen HZ.out 9
      have z10 : wr.cell? ⟨w.heap.size + 1, 10, none⟩ = some (.int .i64 0) := blk_cell HZ.out 10
      have fz10 : wr.frozen? ⟨w.heap.size + 1, 10, none⟩ = false := blk_frozen HZ.out 10
      have z11 : wr.cell? ⟨w.heap.size + 1, 11, none⟩ = some (.int .i64 0) := blk_cell HZ.out 11
      have fz11 : wr.frozen? ⟨w.heap.size + 1, 11, none⟩ = false := blk_frozen HZ.out 11
      have z12 : wr.cell? ⟨w.heap.size + 1, 12, none⟩ = some (.int .i64 0) := blk_cell HZ.out 12
      have fz12 : wr.frozen? ⟨w.heap.size + 1, 12, none⟩ = false := blk_frozen HZ.out 12
      have z13 : wr.cell? ⟨w.heap.size + 1, 13, none⟩ = some (.int .i64 0) := blk_cell HZ.out 13
      have fz13 : wr.frozen? ⟨w.heap.size + 1, 13, none⟩ = false := blk_frozen HZ.out 13
      have z14 : wr.cell? ⟨w.heap.size + 1, 14, none⟩ = some (.int .i64 0) := blk_cell HZ.out 14
      have fz14 : wr.frozen? ⟨w.heap.size + 1, 14, none⟩ = false := blk_frozen HZ.out 14
      have z15 : wr.cell? ⟨w.heap.size + 1, 15, none⟩ = some (.int .i64 0) := blk_cell HZ.out 15
      have fz15 : wr.frozen? ⟨w.heap.size + 1, 15, none⟩ = false := blk_frozen HZ.out 15
      go_wp2
      have hz := grid_store (F := F) HZ.out
      refine bodyPost_ret (results_cell_row rfl _ _ (w.heap.size + 1) 52 (grid F) (0, 0) _ rfl hz Try.underlying52 rfl (by kernel_rfl)) rfl ⟨rfl, ?_⟩
      exact (below_set (below_set (below_set (below_set (below_set (below_set (below_set (below_set (below_set (below_set (below_set (below_set (below_set (below_set (below_set (below_set HB.out (Nat.le_succ _)) (Nat.le_succ _)) (Nat.le_succ _)) (Nat.le_succ _)) (Nat.le_succ _)) (Nat.le_succ _)) (Nat.le_succ _)) (Nat.le_succ _)) (Nat.le_succ _)) (Nat.le_succ _)) (Nat.le_succ _)) (Nat.le_succ _)) (Nat.le_succ _)) (Nat.le_succ _)) (Nat.le_succ _)) (Nat.le_succ _))
    | succ k1 =>
      have hi := HI.out
      have c2 : decide ((s : Int) < 4) = true := decide_eq_true (by omega)
      have u2 : wrap64 ((s : Int) + 1) = ((s + 1 : Nat) : Int) := by unfold wrap64; omega
      go_wp2
      go_loopg [11] 4 (fun kq v11 w' => ∃ k : Nat, v11 = .int .i64 (k : Int) ∧ Aside0 (kq + k = 4) ∧ Aside0 (w'.heap[w.heap.size + 1 + 1]? = some (.cells (grid (freesTo M skus wares (s * 4 + k))) 52 (0, 0))) ∧ Aside0 (w'.heap[w.heap.size + 1]? = some (.cells (grid fun _ => 0) 52 (0, 0))) ∧ Aside0 (w'.heap[w.heap.size]? = some (.cells (cfg skus wares) 44 (0, 0))) ∧ Aside0 (Below w.heap.size w w'))
      case atStart => exact ⟨0, rfl, ⟨rfl⟩, HG, HZ, HC, HB⟩
      case round =>
        clear HG HZ HC HB
        obtain ⟨k, rfl, HJ, HG, HZ, HC, HB⟩ := hrel
        cases gk with
        | zero =>
          have hj := HJ.out
          obtain rfl : k = 4 := by omega
          have c3 : decide (((4 : Nat) : Int) < 4) = false := by decide
          go_wp2
          go_roundg k1
          case measure => omega
          case rel => exact ⟨s + 1, by simp, ⟨by omega⟩, ⟨by rw [show (s + 1) * 4 = s * 4 + 4 by omega]; exact HG.out⟩, HZ, HC, HB⟩
        | succ k2 =>
          have hj := HJ.out
          have c3 : decide ((k : Int) < 4) = true := decide_eq_true (by omega)
          have kc0 : wr.cell? ⟨w.heap.size, 0, none⟩ = some (.int .i64 skus) := blk_cell HC.out 0
          have kc1 : wr.cell? ⟨w.heap.size, 1, none⟩ = some (.int .i64 wares) := blk_cell HC.out 1
          have hf0 : (s * 4 + k) / 4 = s := by omega
          have hf1 : (s * 4 + k) % 4 = k := by omega
          by_cases h0 : (s : Int) < skus
          · by_cases h1 : (k : Int) < wares
            · have e0 : decide ((s : Int) < skus) = true := decide_eq_true h0
              have e1 : decide ((k : Int) < wares) = true := decide_eq_true h1
              have hv : freeOf M skus wares (s * 4 + k) = freeAt M (1, (s : Int), (k : Int)) := by unfold freeOf; rw [hf0, hf1, if_pos ⟨h0, h1⟩]
              have HS := Aside0.mk (freesTo_set M skus wares (s * 4 + k) (by omega))
              rw [hv] at HS
              have hst : view_stock.f (s : Int) (k : Int) = some (1, (s : Int), (k : Int)) := by unfold view_stock.f; rw [show (s : Int) % 256 = (s : Int) by omega, show (k : Int) % 256 = (k : Int) by omega]
              have HST := Aside0.mk hst
              have hfree : ∀ W, Below wr.heap.size wr W → Calls Try.prog 9 #[.pointer (some ⟨f, 0, none⟩), .agg #[.int .u8 1, .int .u8 (s : Int), .int .u8 (k : Int)]] W fun e w' => e = .returned (.int .i64 (freeAt M (1, (s : Int), (k : Int)))) ∧ Below W.heap.size W w' := fun W hW => by
                have hW2 := below_step HB.out hW
                exact view_Free.calls W f t b n M 1 s k _ _ _ _ _ _ _ (HF.out.below hW2) (u8_iff.2 (by decide)) (u8_iff.2 (by omega)) (u8_iff.2 (by omega)) rfl (view_far_eq _ _)
              have HFREE := Aside0.mk hfree
              have HJK : Aside0 (s * 4 + k < 16) := ⟨by omega⟩
              have hs4 : s < 4 := by omega
              have hk4 : k < 4 := by omega
              have i4 : (s : Int) < 4 := by omega
              have j4 : (k : Int) < 4 := by omega
              clear hst hfree hv hf0 hf1 hi hj u2
              go_wp2
              go_region_with (first | (go_at_call 35; ((with_reducible refine (view_stock.calls _ _ _ _ _ _ HST.out).mono ?_); rintro e w1 ⟨rfl, hb1⟩)) | (go_at_call 9; ((with_reducible refine (HFREE.out _ (below_step (below_drew1 (Below.refl _ _)) hb1)).mono ?_); rintro e w2 ⟨rfl, hb2⟩; have hG2 := Aside0.mk (blk_below (blk_below (blk_drew HG.out) hb1) hb2); have hcell := (blk_cell hG2.out (s * 4 + k)).trans (grid_get _ _ HJK.out); have hfroz := blk_frozen hG2.out (s * 4 + k))))
              have h3 : Below wr.heap.size wr w2 := below_step (below_step (below_drew1 (Below.refl _ _)) hb1) hb2
              have HG3 := Aside0.mk (blk_put hG2.out (s * 4 + k) (.int .i64 (freeAt M (1, (s : Int), (k : Int)))) HS.out)
              have HZ3 := Aside0.mk ((Below.heap_setCell w2 ⟨w.heap.size + 1 + 1, s * 4 + k, none⟩ (.int .i64 (freeAt M (1, (s : Int), (k : Int)))) (w.heap.size + 1) (by simp)).trans (blk_below HZ.out h3))
              have HC3 := Aside0.mk ((Below.heap_setCell w2 ⟨w.heap.size + 1 + 1, s * 4 + k, none⟩ (.int .i64 (freeAt M (1, (s : Int), (k : Int)))) w.heap.size (by simp; omega)).trans (blk_below HC.out h3))
              have HB3 := Aside0.mk (below_set (g := w.heap.size + 1 + 1) (j := s * 4 + k) (v := .int .i64 (freeAt M (1, (s : Int), (k : Int)))) (below_step HB.out h3) (by omega))
              go_wp2
              go_roundg k2
              case measure => omega
              case rel => exact ⟨k + 1, by simp, ⟨by have := HJ.out; omega⟩, HG3, HZ3, HC3, HB3⟩
            · have e0 : decide ((s : Int) < skus) = true := decide_eq_true h0
              have e1 : decide ((k : Int) < wares) = false := decide_eq_false h1
              have hv : freeOf M skus wares (s * 4 + k) = 0 := by unfold freeOf; rw [hf0, hf1, if_neg (fun z => h1 z.2)]
              have HV := Aside0.mk hv
              have j4 : wrap64 ((k : Int) + 1) = ((k + 1 : Nat) : Int) := by unfold wrap64; omega
              clear hv hf0 hf1 hi hj u2
              go_wp2
              go_roundg k2
              case measure => omega
              case rel => exact ⟨k + 1, by simp, ⟨by have := HJ.out; omega⟩, ⟨by rw [show s * 4 + (k + 1) = s * 4 + k + 1 from rfl, ← freesTo_skip M skus wares _ HV.out]; exact HG.out⟩, HZ, HC, HB⟩
          · have e0 : decide ((s : Int) < skus) = false := decide_eq_false h0
            have hv : freeOf M skus wares (s * 4 + k) = 0 := by unfold freeOf; rw [hf0, hf1, if_neg (fun z => h0 z.1)]
            have HV := Aside0.mk hv
            have j4 : wrap64 ((k : Int) + 1) = ((k + 1 : Nat) : Int) := by unfold wrap64; omega
            clear hv hf0 hf1 hi hj u2
            go_wp2
            go_roundg k2
            case measure => omega
            case rel => exact ⟨k + 1, by simp, ⟨by have := HJ.out; omega⟩, ⟨by rw [show s * 4 + (k + 1) = s * 4 + k + 1 from rfl, ← freesTo_skip M skus wares _ HV.out]; exact HG.out⟩, HZ, HC, HB⟩
end Go.Proofs.Ytnipjfciphgfjaa.V
/- What grants make of what a fund holds: plain Lean. -/
namespace Go.Proofs.Ytnipjfciphgfjaa.V
open Go.RowKit Go.Proofs.Ytnipjfciphgfjaa.G Go.Proofs.YtnipjfciphgfjaaW.PrintWords Go.Proofs.YtnipjfciphgfjaaW.PrintLast Go.Proofs.YtnipjfciphgfjaaW.PrintMore
set_option linter.unusedVariables false
set_option linter.unusedSimpArgs false
/-- What an addition makes of the lower end, of the upper one. -/
def infOf (inf d : Int) : Int := if d < 0 then inf + d else inf
def supOf (sup d : Int) : Int := if d < 0 then sup else sup + d
/-- The addition d is granted. -/
def Gr (lo hi base inf sup val d : Int) : Prop := GoodP lo hi base inf sup val ∧ d ≠ 0 ∧ d ≠ -9223372036854775808 ∧ lo ≤ infOf inf d ∧ supOf sup d ≤ hi
instance (a b c d e f g : Int) : Decidable (Gr a b c d e f g) := inferInstanceAs (Decidable (_ ∧ _))
def In7 (lo hi base inf sup val d : Int) : Prop := In64 lo ∧ In64 hi ∧ In64 base ∧ In64 inf ∧ In64 sup ∧ In64 val ∧ In64 d
theorem in7_pos {α : Type} {lo hi base inf sup val d : Int} (h : In7 lo hi base inf sup val d) (x y : α) : (if In64 lo ∧ In64 hi ∧ In64 base ∧ In64 inf ∧ In64 sup ∧ In64 val ∧ In64 d then x else y) = x := if_pos h
theorem Gr.good {lo hi base inf sup val d : Int} (g : Gr lo hi base inf sup val d) : GoodP lo hi base (infOf inf d) (supOf sup d) (val + d) := by
  unfold Gr GoodP infOf supOf at *
  obtain ⟨⟨h1, h2, h3, h4, h5, h6⟩, _, _, h9, h10⟩ := g
  by_cases c : d < 0
  · simp only [if_pos c] at *; omega
  · simp only [if_neg c] at *; omega
theorem Gr.ins {lo hi base inf sup val d : Int} (g : Gr lo hi base inf sup val d) (h : In7 lo hi base inf sup val d) : In64 (infOf inf d) ∧ In64 (supOf sup d) ∧ In64 (val + d) := by
  have q := g.good
  unfold In7 In64 at h
  unfold GoodP at q
  unfold In64
  omega
theorem grantP_yes {lo hi base inf sup val d : Int} (h : In7 lo hi base inf sup val d) (g : Gr lo hi base inf sup val d) : grantP lo hi base inf sup val d = (lo, hi, base, infOf inf d, supOf sup d, val + d, 0) := by
  have hi' := g.ins h
  unfold In7 at h
  unfold grantP
  rw [if_neg (fun z => z g.1), if_neg (by have := g.2; omega)]
  obtain ⟨_, _, _, g4, g5⟩ := g
  unfold infOf supOf at *
  unfold In64 at hi'
  by_cases c : d < 0
  · simp only [if_pos c] at *
    rw [if_neg (by omega), if_neg (by omega)]
  · simp only [if_neg c] at *
    rw [if_neg (by omega), if_neg (by omega)]
theorem grantP_no {lo hi base inf sup val d : Int} (h : In7 lo hi base inf sup val d) (g : ¬ Gr lo hi base inf sup val d) : ∃ e : Int, e ≠ 0 ∧ grantP lo hi base inf sup val d = (lo, hi, base, inf, sup, val, e) := by
  unfold In7 at h
  unfold grantP
  by_cases c1 : GoodP lo hi base inf sup val
  · rw [if_neg (fun z => z c1)]
    by_cases c2 : d = 0 ∨ d = -9223372036854775808
    · rw [if_pos c2]; exact ⟨1, by decide, rfl⟩
    · rw [if_neg c2]
      have g' : ¬ (lo ≤ infOf inf d ∧ supOf sup d ≤ hi) := fun z => g ⟨c1, fun y => c2 (.inl y), fun y => c2 (.inr y), z.1, z.2⟩
      unfold infOf supOf at g'
      unfold GoodP at c1
      unfold In64 at h
      by_cases c : d < 0
      · simp only [if_pos c] at *
        by_cases c3 : inf + d < -9223372036854775808
        · rw [if_pos c3]; exact ⟨2, by decide, rfl⟩
        · rw [if_neg c3, if_pos (by omega)]; exact ⟨3, by decide, rfl⟩
      · simp only [if_neg c] at *
        by_cases c3 : sup + d > 9223372036854775807
        · rw [if_pos c3]; exact ⟨2, by decide, rfl⟩
        · rw [if_neg c3, if_pos (by omega)]; exact ⟨3, by decide, rfl⟩
  · rw [if_pos c1]; exact ⟨12, by decide, rfl⟩
def In6 : F6 → Prop
  | (x0, x1, x2, x3, x4, x5) => In64 x0 ∧ In64 x1 ∧ In64 x2 ∧ In64 x3 ∧ In64 x4 ∧ In64 x5
def Good6 : F6 → Prop
  | (x0, x1, x2, x3, x4, x5) => GoodP x0 x1 x2 x3 x4 x5
def sixOf (r : Int × Int × Int × Int × Int × Int × Int) : F6 × Int := ((r.1, r.2.1, r.2.2.1, r.2.2.2.1, r.2.2.2.2.1, r.2.2.2.2.2.1), r.2.2.2.2.2.2)
/-- What Grant makes of a field. -/
def grantOf : F6 → Int → F6 × Int
  | (x0, x1, x2, x3, x4, x5), d => sixOf (grantP x0 x1 x2 x3 x4 x5 d)
theorem makes_grant (x : F6) (d : Int) (h : In6 x) (hd : In64 d) : Makes 26 x d (grantOf x d).1 (grantOf x d).2 := by
  obtain ⟨x0, x1, x2, x3, x4, x5⟩ := x
  intro w
  exact field_Grant.calls x0 x1 x2 x3 x4 x5 d _ _ _ _ _ _ _ w (if_pos ⟨h.1, h.2.1, h.2.2.1, h.2.2.2.1, h.2.2.2.2.1, h.2.2.2.2.2, hd⟩)
/-- All that is held is in order. -/
def WF (M : Rowmap) : Prop := ∀ k x, M k = some x → In6 x ∧ Good6 x
theorem WF.put {M : Rowmap} (h : WF M) {x : F6} (k : Int × Int × Int) (hx : In6 x ∧ Good6 x) : WF (M.put k x) := by
  intro j y hy
  unfold Rowmap.put at hy
  split at hy
  · injection hy with hy; exact hy ▸ hx
  · exact h j y hy
/-- A declaration's numbers are of 64 bits. -/
def DIn (d : S60) : Prop := In64 d.f1 ∧ In64 d.f2 ∧ In64 d.f3
theorem WF.decl {M : Rowmap} (h : WF M) (d : S60) (hd : DIn d) : WF (addDecl M d) := by
  unfold addDecl newOf
  obtain ⟨h1, h2, h3⟩ := hd
  by_cases c : d.f1 ≤ d.f2 ∧ d.f2 ≤ d.f3
  · rw [if_pos c]
    exact h.put _ ⟨⟨h1, h3, h2, h2, h2, h2⟩, c.1, Int.le_refl _, Int.le_refl _, Int.le_refl _, Int.le_refl _, c.2⟩
  · rw [if_neg c]; exact h
theorem WF.new (l : List S60) (h : ∀ d ∈ l, DIn d) : WF (newMap l) := by
  have : ∀ (M : Rowmap), WF M → WF (l.foldl addDecl M) := by
    induction l with
    | nil => exact fun M h => h
    | cons d t ih => exact fun M hM => ih (fun x hx => h x (List.mem_cons_of_mem _ hx)) _ (hM.decl d (h d List.mem_cons_self))
  exact this _ (fun k x hx => by cases hx)
theorem grantOf_wf {x : F6} {d : Int} (hx : In6 x ∧ Good6 x) (hd : In64 d) : In6 (grantOf x d).1 ∧ Good6 (grantOf x d).1 := by
  obtain ⟨x0, x1, x2, x3, x4, x5⟩ := x
  obtain ⟨⟨h0, h1, h2, h3, h4, h5⟩, hg⟩ := hx
  have h7 : In7 x0 x1 x2 x3 x4 x5 d := ⟨h0, h1, h2, h3, h4, h5, hd⟩
  by_cases g : Gr x0 x1 x2 x3 x4 x5 d
  · simp only [grantOf, grantP_yes h7 g, sixOf]
    exact ⟨⟨h0, h1, h2, g.ins h7⟩, g.good⟩
  · obtain ⟨e, he, hr⟩ := grantP_no h7 g
    simp only [grantOf, hr, sixOf]
    exact ⟨⟨h0, h1, h2, h3, h4, h5⟩, hg⟩
theorem WF.step {M : Rowmap} (h : WF M) {how : F6 → Int → F6 × Int} {k : Int × Int × Int} {d : Int} (hh : ∀ x, M k = some x → In6 (how x d).1 ∧ Good6 (how x d).1) : WF (stepOf how M k d).1 := by
  unfold stepOf
  cases hM : M k with
  | none => exact h
  | some x =>
    simp only
    split
    · exact h.put _ (hh x hM)
    · exact h
/-- An addition: a key, a number. -/
structure S27 where
  f0 : S25
  f1 : Int
def z27 : S27 := ⟨z25, (0 : Int)⟩
def k27 : Kd S27 := Kd.iso (Kd.pair k25 (Kd.int .i64)) (fun x : S27 => (x.f0, x.f1))
theorem k27_open {w : World} {x : S27} {cs : List Value} (h : k27.K w x cs) : cs = [.int .u8 x.f0.f0, .int .u8 x.f0.f1, .int .u8 x.f0.f2, .int .i64 x.f1] := by
  obtain ⟨_, _, rfl, s0, rfl⟩ := h
  obtain rfl := k25_open s0
  exact rfl
theorem k27_mkM (w : World) (base : Nat) (ok : Nat → Prop) (x : S27)  : k27.M w base ok x [.int .u8 x.f0.f0, .int .u8 x.f0.f1, .int .u8 x.f0.f2, .int .i64 x.f1] := ⟨[.int .u8 x.f0.f0, .int .u8 x.f0.f1, .int .u8 x.f0.f2], [.int .i64 x.f1], rfl, (k25_mkM w base ok x.f0), rfl⟩
theorem k27_mk (w : World) (x : S27)  : k27.K w x [.int .u8 x.f0.f0, .int .u8 x.f0.f1, .int .u8 x.f0.f2, .int .i64 x.f1] := ⟨[.int .u8 x.f0.f0, .int .u8 x.f0.f1, .int .u8 x.f0.f2], [.int .i64 x.f1], rfl, (k25_mk w x.f0), rfl⟩
def rd_T27 (xs : List S27) (i : Int) : S27 := xs.getD i.toNat z27
theorem at_T27 {w : World} {A : Option Addr} {n : Nat} {xs : List S27} (h : Kd.C k27 w A n xs) (i : Int) (h0 : 0 ≤ i) (h1 : i < n) : ∃ ad , A = some ad ∧ w.cell? (ad.add (i.toNat * 4)) = some (.int .u8 (rd_T27 xs i).f0.f0) ∧ w.cell? ⟨(ad.add (i.toNat * 4)).block, (ad.add (i.toNat * 4)).off + 1, none⟩ = some (.int .u8 (rd_T27 xs i).f0.f1) ∧ w.cell? ⟨(ad.add (i.toNat * 4)).block, (ad.add (i.toNat * 4)).off + 2, none⟩ = some (.int .u8 (rd_T27 xs i).f0.f2) ∧ w.cell? ⟨(ad.add (i.toNat * 4)).block, (ad.add (i.toNat * 4)).off + 3, none⟩ = some (.int .i64 (rd_T27 xs i).f1) := by
  obtain ⟨ad, c, e, _, hK, hc0⟩ := Kd.C_get h z27 i h0 h1
  have hc : ∀ j u, c[j]? = some u → w.cell? (ad.add (i.toNat * 4 + j)) = some u := hc0
  obtain rfl := k27_open hK
  exact ⟨ad, e, hc 0 _ rfl, by rw [← add_field _ _ 1 (by omega)]; exact hc 1 _ rfl, by rw [← add_field _ _ 2 (by omega)]; exact hc 2 _ rfl, by rw [← add_field _ _ 3 (by omega)]; exact hc 3 _ rfl⟩
theorem info27 : (Try.prog.info? 27).map (fun i => (i.zero, i.size, i.bytes)) = some (some (.agg #[.int .u8 0, .int .u8 0, .int .u8 0, .int .i64 0]), 4, 16) := by kernel_rfl
def keyOf (o : S27) : Int × Int × Int := (o.f0.f0, o.f0.f1, o.f0.f2)
/-- An addition may be one. -/
def OIn (o : S27) : Prop := U8 o.f0.f0 ∧ U8 o.f0.f1 ∧ U8 o.f0.f2 ∧ In64 o.f1
/-- What is held behind additions. -/
def grants (M : Rowmap) (l : List S27) : Rowmap := l.foldl (fun M o => (stepOf grantOf M (keyOf o) o.f1).1) M
theorem grants_snoc (M : Rowmap) (l : List S27) (o : S27) : grants M (l ++ [o]) = (stepOf grantOf (grants M l) (keyOf o) o.f1).1 := by simp [grants]
theorem rd27_eq (l : List S27) (i : Nat) (h : i < l.length) : rd_T27 l (i : Int) = l[i] := by simp [rd_T27, h]
theorem take27 (l : List S27) (i : Nat) (h : i < l.length) : l.take (i + 1) = l.take i ++ [rd_T27 l (i : Int)] := by
  rw [rd27_eq l i h, List.take_append_getElem h]
theorem rd27_mem (l : List S27) (i : Nat) (h : i < l.length) : rd_T27 l (i : Int) ∈ l := by
  rw [rd27_eq l i h]; exact List.getElem_mem h
theorem WF.grant {M : Rowmap} (h : WF M) (o : S27) (ho : OIn o) : WF (stepOf grantOf M (keyOf o) o.f1).1 := h.step fun x hx => grantOf_wf (h _ x hx) ho.2.2.2
theorem WF.grants {M : Rowmap} (h : WF M) (l : List S27) (hl : ∀ o ∈ l, OIn o) : WF (V.grants M l) := by
  unfold V.grants
  induction l generalizing M with
  | nil => exact h
  | cons o t ih => exact ih (h.grant o (hl o List.mem_cons_self)) (fun x hx => hl x (List.mem_cons_of_mem _ hx))
theorem farV_eq {a b : Int} (ha : In64 a) (hb : In64 b) : farV a b = if b < a then 0 else if 9223372036854775808 ≤ b - a then 9223372036854775807 else b - a := by
  unfold In64 at ha hb
  unfold farV view_far.f calc_Dist.f calc_Fits.f
  by_cases h : b < a
  · rw [if_pos h, if_pos h]; simp [wrap64]
  · rw [if_neg h, if_neg h]
    have e : IntKind.u64.wrap (IntKind.u64.wrap b - IntKind.u64.wrap a) = b - a := by simp only [IntKind.wrap_u64]; omega
    rw [Option.bind_some, e]
    by_cases h2 : 9223372036854775808 ≤ b - a
    · rw [if_pos h2, if_pos h2]; simp
    · rw [if_neg h2, if_neg (by omega)]
      have e2 : wrap64 (b - a) = b - a := by unfold wrap64; omega
      simp [e2]
end Go.Proofs.Ytnipjfciphgfjaa.V
-- Of the lines that print.sh printed for this seat (WSized) those that are used.
namespace Go.Proofs.YtnipjfciphgfjaaW.PrintWords
open Go.ChangeShapes Go.WideShapes
end Go.Proofs.YtnipjfciphgfjaaW.PrintWords

/- How the arguments of the laws of this seat read: rows of declarations, of additions, of truth values; an addition, a question. -/
namespace Go.Proofs.Ytnipjfciphgfjaa.V
open Go.ChangeShapes Go.WideShapes Go.ChangeAt Go.RowKit Go.Proofs.Ytnipjfciphgfjaa.G Go.Proofs.YtnipjfciphgfjaaW.PrintWords Go.Proofs.YtnipjfciphgfjaaW.PrintLast
set_option linter.unusedVariables false
set_option maxRecDepth 100000
section
variable {H : Type} {enc : TypeId × Value → H} {W : World} {base b0 : Nat} {spare : Nat → Bool} {held : Bool}
theorem trod_fields {P : Program} {t : TypeId} {fs : Array Field} {fuel : Nat} {cs : List Value} {x : DataW H × List MemPlace} (ht : P.underlying t = some (.struct fs)) (h : DataW.trod enc P W base spare held fuel t cs = some x) :
    ∃ n, cs.length = P.cellsOf t ∧ ∀ (i : Nat) (f : Field), fs[i]? = some f → ∃ y, DataW.trod enc P W base spare held n f.type ((cs.drop f.offset).take (P.cellsOf f.type)) = some y := by
  obtain ⟨xs, n, _, _, hl, hx, hg⟩ := DataW.trod_struct ht h
  refine ⟨n, hl, fun i f hf => ?_⟩
  have hi : i < xs.length := by rw [hx]; exact (Array.getElem?_eq_some_iff.1 hf).1
  exact ⟨xs[i], by rw [hg i f hf]; exact List.getElem?_eq_getElem hi⟩
theorem part_of {P : Program} {t : TypeId} {cs cs' : List Value} {k n m : Nat} {y : DataW H × List MemPlace} (hc : P.cellsOf t = m) (h : DataW.trod enc P W base spare held n t ((cs.drop k).take (P.cellsOf t)) = some y) (he : (cs.drop k).take m = cs') :
    DataW.trod enc P W base spare held n t cs' = some y := by rw [hc, he] at h; exact h
theorem cells2 : Try.prog.cellsOf 2 = 1 := by kernel_rfl
theorem cells3 : Try.prog.cellsOf 3 = 1 := by kernel_rfl
theorem cells4 : Try.prog.cellsOf 4 = 1 := by kernel_rfl
theorem cells27 : Try.prog.cellsOf 27 = 4 := by kernel_rfl
theorem cells60 : Try.prog.cellsOf 60 = 6 := by kernel_rfl
theorem cells36 : Try.prog.cellsOf 36 = 5 := by kernel_rfl
theorem wf_in {a : Int} (h : (Lit.int .i64 a).wf = true) : In64 a := by
  simp [Lit.wf, IntKind.min, IntKind.max, IntKind.signed, IntKind.bits] at h
  unfold In64; omega
theorem read_key {n : Nat} {cs : List Value} {x : DataW H × List MemPlace} (h : DataW.trod enc Try.prog W base spare held n 25 cs = some x) :
    ∃ a0 a1 a2, cs = [.int .u8 a0, .int .u8 a1, .int .u8 a2] ∧ U8 a0 ∧ U8 a1 ∧ U8 a2 := by
  obtain ⟨m, hl, hf⟩ := trod_fields Try.underlying25 h
  rw [cells25] at hl
  match cs, hl with
  | [c0, c1, c2], _ =>
  obtain ⟨y0, h0⟩ := hf 0 _ rfl
  obtain ⟨y1, h1⟩ := hf 1 _ rfl
  obtain ⟨y2, h2⟩ := hf 2 _ rfl
  obtain ⟨a0, e0, _, w0⟩ := DataW.trod_int Try.underlying5 (part_of (m := 1) cells5 h0 rfl)
  obtain ⟨a1, e1, _, w1⟩ := DataW.trod_int Try.underlying5 (part_of (m := 1) cells5 h1 rfl)
  obtain ⟨a2, e2, _, w2⟩ := DataW.trod_int Try.underlying5 (part_of (m := 1) cells5 h2 rfl)
  cases e0; cases e1; cases e2
  exact ⟨a0, a1, a2, rfl, w0, w1, w2⟩
theorem read_decl {n : Nat} {cs : List Value} {x : DataW H × List MemPlace} (h : DataW.trod enc Try.prog W base spare held n 60 cs = some x) :
    ∃ d : S60, k60.K W d cs ∧ DKey d ∧ DIn d := by
  obtain ⟨m, hl, hf⟩ := trod_fields Try.underlying60 h
  rw [cells60] at hl
  match cs, hl with
  | [c0, c1, c2, c3, c4, c5], _ =>
  obtain ⟨y0, h0⟩ := hf 0 _ rfl
  obtain ⟨y3, h3⟩ := hf 1 _ rfl
  obtain ⟨y4, h4⟩ := hf 2 _ rfl
  obtain ⟨y5, h5⟩ := hf 3 _ rfl
  obtain ⟨a0, a1, a2, e0, w0, w1, w2⟩ := read_key (part_of (m := 3) cells25 h0 rfl)
  obtain ⟨a3, e3, _, w3⟩ := DataW.trod_int Try.underlying2 (part_of (m := 1) cells2 h3 rfl)
  obtain ⟨a4, e4, _, w4⟩ := DataW.trod_int Try.underlying2 (part_of (m := 1) cells2 h4 rfl)
  obtain ⟨a5, e5, _, w5⟩ := DataW.trod_int Try.underlying2 (part_of (m := 1) cells2 h5 rfl)
  cases e0; cases e3; cases e4; cases e5
  exact ⟨⟨⟨a0, a1, a2⟩, a3, a4, a5⟩, k60_mk W _, ⟨w0, w1, w2⟩, wf_in w3, wf_in w4, wf_in w5⟩
theorem read_op {n : Nat} {cs : List Value} {x : DataW H × List MemPlace} (h : DataW.trod enc Try.prog W base spare held n 27 cs = some x) :
    ∃ a0 a1 a2 a3, cs = [.int .u8 a0, .int .u8 a1, .int .u8 a2, .int .i64 a3] ∧ U8 a0 ∧ U8 a1 ∧ U8 a2 ∧ In64 a3 := by
  obtain ⟨m, hl, hf⟩ := trod_fields Try.underlying27 h
  rw [cells27] at hl
  match cs, hl with
  | [c0, c1, c2, c3], _ =>
  obtain ⟨y0, h0⟩ := hf 0 _ rfl
  obtain ⟨y3, h3⟩ := hf 1 _ rfl
  obtain ⟨a0, a1, a2, e0, w0, w1, w2⟩ := read_key (part_of (m := 3) cells25 h0 rfl)
  obtain ⟨a3, e3, _, w3⟩ := DataW.trod_int Try.underlying2 (part_of (m := 1) cells2 h3 rfl)
  cases e0; cases e3
  exact ⟨a0, a1, a2, a3, rfl, w0, w1, w2, wf_in w3⟩
theorem read_op' {n : Nat} {cs : List Value} {x : DataW H × List MemPlace} (h : DataW.trod enc Try.prog W base spare held n 27 cs = some x) :
    ∃ o : S27, k27.K W o cs ∧ OIn o := by
  obtain ⟨a0, a1, a2, a3, rfl, w⟩ := read_op h
  exact ⟨⟨⟨a0, a1, a2⟩, a3⟩, k27_mk W _, w⟩
theorem read_ask {n : Nat} {cs : List Value} {x : DataW H × List MemPlace} (h : DataW.trod enc Try.prog W base spare held n 36 cs = some x) :
    ∃ a0 a1 a2 a3 a4, cs = [.int .u8 a0, .int .u8 a1, .int .u8 a2, .int .i64 a3, .int .i64 a4] ∧ U8 a0 ∧ U8 a1 ∧ U8 a2 ∧ In64 a3 ∧ In64 a4 := by
  obtain ⟨m, hl, hf⟩ := trod_fields Try.underlying36 h
  rw [cells36] at hl
  match cs, hl with
  | [c0, c1, c2, c3, c4], _ =>
  obtain ⟨y0, h0⟩ := hf 0 _ rfl
  obtain ⟨y3, h3⟩ := hf 1 _ rfl
  obtain ⟨y4, h4⟩ := hf 2 _ rfl
  obtain ⟨a0, a1, a2, e0, w0, w1, w2⟩ := read_key (part_of (m := 3) cells25 h0 rfl)
  obtain ⟨a3, e3, _, w3⟩ := DataW.trod_int Try.underlying3 (part_of (m := 1) cells3 h3 rfl)
  obtain ⟨a4, e4, _, w4⟩ := DataW.trod_int Try.underlying3 (part_of (m := 1) cells3 h4 rfl)
  cases e0; cases e3; cases e4
  exact ⟨a0, a1, a2, a3, a4, rfl, w0, w1, w2, wf_in w3, wf_in w4⟩
theorem read_bool {n : Nat} {cs : List Value} {x : DataW H × List MemPlace} (h : DataW.trod enc Try.prog W base spare held n 4 cs = some x) :
    ∃ b : Bool, Kd.bool.K W b cs ∧ True := by
  obtain ⟨b, e0, _⟩ := DataW.trod_bool Try.underlying4 h
  exact ⟨b, e0, trivial⟩
/-- A row of elements that read. -/
theorem read_rows {α : Type} (d : Kd α) (G : α → Prop) {t e : TypeId} {n : Nat} {cs : List Value} {x : DataW H × List MemPlace} (ht : Try.prog.underlying t = some (.slice e)) (hc : Try.prog.cellsOf e = d.sz)
    (hr : ∀ n cs x, DataW.trod enc Try.prog W base spare held n e cs = some x → ∃ p : α, d.K W p cs ∧ G p) (h : DataW.trod enc Try.prog W base spare held n t cs = some x) :
    ∃ A l c, cs = [.slice A (List.length l) c] ∧ l.length ≤ c ∧ l.length ≤ maxLen ∧ d.C W A l.length l ∧ ∀ p ∈ l, G p := by
  rcases DataW.trod_slice ht h with ⟨rfl, _⟩ | ⟨a, len, cap, elems, rest, m, _, rfl, _, hb, hl, hm, hlen, hel, _, _⟩
  · exact ⟨none, [], 0, rfl, Nat.le_refl _, Nat.zero_le _, ⟨rfl, Nat.zero_le _, fun h => absurd h (Nat.lt_irrefl 0)⟩, by intro p hp; cases hp⟩
  · have key : ∀ k, k ≤ len → ∃ l : List α, l.length = k ∧ (∀ p ∈ l, G p) ∧ ∀ j p, l[j]? = some p → ∃ c, c.length = d.sz ∧ d.K W p c ∧ ∀ i u, c[i]? = some u → W.cell? (a.add (j * d.sz + i)) = some u := by
      intro k
      induction k with
      | zero => exact fun _ => ⟨[], rfl, (by intro p hp; cases hp), (by intro j p hj; simp at hj)⟩
      | succ k ih =>
        intro hk
        obtain ⟨l, h1, h2, h3⟩ := ih (by omega)
        have he := hel k (by omega)
        rw [List.getElem?_eq_getElem (by omega), Option.bind_eq_some_iff] at he
        obtain ⟨c, hc1, hc2⟩ := he
        obtain ⟨p, hp, hg⟩ := hr _ _ _ hc2
        obtain ⟨_, hcl, hcell⟩ := World.cells?_some hc1
        rw [hc] at hcl hcell
        refine ⟨l ++ [p], by simp [h1], fun q hq => ?_, fun j q hj => ?_⟩
        · rcases List.mem_append.1 hq with hq | hq
          · exact h2 q hq
          · obtain rfl := List.mem_singleton.1 hq; exact hg
        · rcases Nat.lt_or_ge j l.length with hjl | hjl
          · rw [List.getElem?_append_left hjl] at hj
            exact h3 j q hj
          · rw [List.getElem?_append_right hjl] at hj
            have hj0 : j - l.length = 0 := by
              have := (List.getElem?_eq_some_iff.1 hj).1
              simp at this; omega
            rw [hj0] at hj
            obtain rfl : p = q := by simpa using hj
            obtain rfl : j = k := by omega
            refine ⟨c, hcl, hp, fun i u hu => ?_⟩
            have hi : i < d.sz := by rw [← hcl]; exact (List.getElem?_eq_some_iff.1 hu).1
            have := hcell i hi
            rw [hu] at this
            rw [← this, Addr.add_add]
    obtain ⟨l, h1, h2, h3⟩ := key len (Nat.le_refl _)
    subst h1
    exact ⟨some a, l, cap, rfl, hl, by omega, ⟨rfl, by have : maxLen = 9223372036854775807 := rfl; omega, fun _ => ⟨a, rfl, h3⟩⟩, h2⟩
theorem open_rows {α : Type} (d : Kd α) (G : α → Prop) {t e : TypeId} {v : Value} {D : DataW H} {p : List MemPlace} (ht : Try.prog.underlying t = some (.slice e)) (hc : Try.prog.cellsOf e = d.sz)
    (hr : ∀ n cs x, DataW.trod enc Try.prog W base spare held n e cs = some x → ∃ p : α, d.K W p cs ∧ G p) (hv : Value.okWide Try.prog W .any b0 t v) (h : DataW.Trod enc Try.prog W base spare held t v D p) :
    ∃ A l c, v = .slice A (List.length l) c ∧ l.length ≤ c ∧ l.length ≤ maxLen ∧ d.C W A l.length l ∧ ∀ p ∈ l, G p := by
  obtain ⟨a, len, cap, rfl⟩ := okWide_slice ht hv
  obtain ⟨fuel, hf⟩ := h
  obtain ⟨A, l, c, e, r⟩ := read_rows d G ht hc hr hf
  simp [Value.cells] at e
  obtain ⟨rfl, rfl, rfl⟩ := e
  exact ⟨_, l, _, rfl, r⟩
theorem open_op {v : Value} {D : DataW H} {p : List MemPlace} (hv : Value.okWide Try.prog W .any b0 27 v) (h : DataW.Trod enc Try.prog W base spare held 27 v D p) :
    ∃ a0 a1 a2 a3, v = .agg #[.int .u8 a0, .int .u8 a1, .int .u8 a2, .int .i64 a3] ∧ U8 a0 ∧ U8 a1 ∧ U8 a2 ∧ In64 a3 := by
  obtain ⟨⟨l⟩, rfl, _⟩ := okWide_struct Try.underlying27 hv
  obtain ⟨fuel, hf⟩ := h
  obtain ⟨a0, a1, a2, a3, e, w⟩ := read_op hf
  obtain rfl : l = _ := e
  exact ⟨a0, a1, a2, a3, rfl, w⟩
theorem open_ask {v : Value} {D : DataW H} {p : List MemPlace} (hv : Value.okWide Try.prog W .any b0 36 v) (h : DataW.Trod enc Try.prog W base spare held 36 v D p) :
    ∃ a0 a1 a2 a3 a4, v = .agg #[.int .u8 a0, .int .u8 a1, .int .u8 a2, .int .i64 a3, .int .i64 a4] ∧ U8 a0 ∧ U8 a1 ∧ U8 a2 ∧ In64 a3 ∧ In64 a4 := by
  obtain ⟨⟨l⟩, rfl, _⟩ := okWide_struct Try.underlying36 hv
  obtain ⟨fuel, hf⟩ := h
  obtain ⟨a0, a1, a2, a3, a4, e, w⟩ := read_ask hf
  obtain rfl : l = _ := e
  exact ⟨a0, a1, a2, a3, a4, rfl, w⟩
end
theorem own : ownKnob Try.prog.godebug = none := by kernel_rfl
end Go.Proofs.Ytnipjfciphgfjaa.V
