/- The walk of a fund's change. -/
import Derived.Test.YtnipjfciphgfjaaFundBy
namespace Go.Proofs.Ytnipjfciphgfjaa.V
open Go.RowKit Go.Proofs.Ytnipjfciphgfjaa.G Go.Proofs.YtnipjfciphgfjaaW.PrintWords Go.Proofs.YtnipjfciphgfjaaW.PrintLast Go.Proofs.YtnipjfciphgfjaaW.PrintMore
set_option linter.unusedVariables false
set_option linter.unusedSimpArgs false
set_option maxHeartbeats 2000000
set_option maxRecDepth 100000
/-- A fund: its block, its table's, the map's. -/
structure IsFund (w : World) (f t b n : Nat) (M : Rowmap) : Prop where
  fund : w.heap[f]? = some (.cells #[.pointer (some ⟨t, 0, none⟩)] 66 (0, 0))
  table : w.heap[t]? = some (.cells #[.map (some b)] 92 (0, 0))
  map : Tab w b n M
theorem IsFund.below {w W : World} {f t b n : Nat} {M : Rowmap} (h : IsFund w f t b n M) (hb : Below w.heap.size w W) : IsFund W f t b n M :=
  ⟨blk_below h.fund hb, blk_below h.table hb, h.map.kept (hb.block b h.map.lt)⟩
theorem IsFund.mono {w : World} {f t b n m : Nat} {M : Rowmap} (h : IsFund w f t b n M) (hn : n ≤ m) : IsFund w f t b m M := ⟨h.fund, h.table, h.map.mono hn⟩
theorem IsFund.apart {w : World} {f t b n : Nat} {M : Rowmap} (h : IsFund w f t b n M) : f ≠ b ∧ t ≠ b := by
  obtain ⟨D, ⟨es, clock, hb, _⟩, _⟩ := h.map
  refine ⟨?_, ?_⟩ <;> rintro rfl
  · have := h.fund.symm.trans hb; simp at this
  · have := h.table.symm.trans hb; simp at this
theorem IsFund.grown {w W : World} {f t b n m : Nat} {M M' : Rowmap} (h : IsFund w f t b n M) (hg : w.grownBy W (some b)) (ht : Tab W b m M') : IsFund W f t b m M' :=
  ⟨blk_grown h.fund hg (by simpa using h.apart.1), blk_grown h.table hg (by simpa using h.apart.2), ht⟩
theorem grown_of_below {w W : World} (h : Below w.heap.size w W) (b : Nat) : w.grownBy W (some b) := ⟨h.os, h.tape, h.output, h.size, fun i hi _ => h.block i hi⟩
/-- A key of which there is no field. -/
theorem change_none (w : World) (f t b n p q : Nat) (M : Rowmap) (k0 k1 k2 : Int) (hF : IsFund w f t b n M) (u0 : U8 k0) (u1 : U8 k1) (u2 : U8 k2) (hM : M (k0, k1, k2) = none) :
    Calls Try.prog 24 #[.pointer (some ⟨f, 0, none⟩), .agg #[.int .u8 k0, .int .u8 k1, .int .u8 k2], .func (.func 41) #[] #[.pointer (some ⟨p, 0, none⟩), .pointer (some ⟨q, 0, none⟩)]] w fun e w' =>
      e = .returned (.int .i64 10) ∧ Below w.heap.size w w' := by
  have hg : ∀ W, Below w.heap.size w W → Calls Try.prog 27 #[.pointer (some ⟨f, 0, none⟩), .agg #[.int .u8 k0, .int .u8 k1, .int .u8 k2]] W fun e w' =>
      e = .returned (.tuple #[.agg #[.int .i64 0, .int .i64 0, .int .i64 0, .int .i64 0, .int .i64 0, .int .i64 0], .bool false]) ∧ Below W.heap.size W w' :=
    fun W hW => fund_Get.calls W f t b n M k0 k1 k2 0 0 0 0 0 0 false (hF.below hW).fund (hF.below hW).table (hF.below hW).map u0 u1 u2 (by rw [hM]; rfl) (by rw [hM]; rfl)
  have HG := Aside0.mk hg
  clear hg hF u0 u1 u2 hM
  go_enter Try.func24, Try.ntmps24
  go_wp2_with (go_at_call 27; ((with_reducible refine (HG.out _ (below_alloc (Below.refl _ _) _)).mono ?_); rintro e w1 ⟨rfl, hb⟩; obtain ⟨hcc, hff⟩ := bcell hb))
  refine bodyPost_ret (v := .int .i64 10) (by simp [results, Try.results24, go_sem]) rfl ⟨rfl, ?_⟩
  have h3 : Below w.heap.size w w1 := below_step (below_alloc (Below.refl _ _) _) hb
  have h4 := h3.size
  (with_reducible repeat (first | exact h3 | apply below_alloc | apply below_drew1 | refine below_set ?_ (by simpa using h4)))
/-- A field that is changed. -/
theorem change_some (w : World) (f t b n p q : Nat) (M : Rowmap) (k0 k1 k2 : Int) (g : FuncId) (hg : g = 26 ∨ g = 38 ∨ g = 39) (x0 x1 x2 x3 x4 x5 d y0 y1 y2 y3 y4 y5 c : Int) (hF : IsFund w f t b n M) (hn : n < maxLen) (u0 : U8 k0) (u1 : U8 k1) (u2 : U8 k2)
    (hM : M (k0, k1, k2) = some (x0, x1, x2, x3, x4, x5)) (hp : w.heap[p]? = some (.cells #[.func (.func g) #[] #[]] 73 (0, 0))) (hq : w.heap[q]? = some (.cells #[.int .i64 d] 2 (0, 0))) (hm : Makes g (x0, x1, x2, x3, x4, x5) d (y0, y1, y2, y3, y4, y5) c) :
    Calls Try.prog 24 #[.pointer (some ⟨f, 0, none⟩), .agg #[.int .u8 k0, .int .u8 k1, .int .u8 k2], .func (.func 41) #[] #[.pointer (some ⟨p, 0, none⟩), .pointer (some ⟨q, 0, none⟩)]] w fun e w' =>
      e = .returned (.int .i64 c) ∧ w.grownBy w' (some b) ∧ IsFund w' f t b (n + 1) (if c = 0 then M.put (k0, k1, k2) (y0, y1, y2, y3, y4, y5) else M) := by
  have hget : ∀ W, Below w.heap.size w W → Calls Try.prog 27 #[.pointer (some ⟨f, 0, none⟩), .agg #[.int .u8 k0, .int .u8 k1, .int .u8 k2]] W fun e w' =>
      e = .returned (.tuple #[.agg #[.int .i64 x0, .int .i64 x1, .int .i64 x2, .int .i64 x3, .int .i64 x4, .int .i64 x5], .bool true]) ∧ Below W.heap.size W w' :=
    fun W hW => fund_Get.calls W f t b n M k0 k1 k2 x0 x1 x2 x3 x4 x5 true (hF.below hW).fund (hF.below hW).table (hF.below hW).map u0 u1 u2 (by rw [hM]; rfl) (by rw [hM]; rfl)
  have hby : ∀ W, Below w.heap.size w W → Calls Try.prog 41 #[.agg #[.int .i64 x0, .int .i64 x1, .int .i64 x2, .int .i64 x3, .int .i64 x4, .int .i64 x5], .pointer (some ⟨p, 0, none⟩), .pointer (some ⟨q, 0, none⟩)] W fun e w' =>
      e = .returned (.tuple #[.agg #[.int .i64 y0, .int .i64 y1, .int .i64 y2, .int .i64 y3, .int .i64 y4, .int .i64 y5], .int .i64 c]) ∧ Below W.heap.size W w' :=
    fun W hW => by_one.calls W g hg p q x0 x1 x2 x3 x4 x5 d y0 y1 y2 y3 y4 y5 c (blk_below hp hW) (blk_below hq hW) hm
  have hput : ∀ W, Below w.heap.size w W → Calls Try.prog 23 #[.pointer (some ⟨t, 0, none⟩), .agg #[.int .u8 k0, .int .u8 k1, .int .u8 k2], .agg #[.int .i64 y0, .int .i64 y1, .int .i64 y2, .int .i64 y3, .int .i64 y4, .int .i64 y5]] W fun e w' =>
      e = .returned (.tuple #[]) ∧ w.grownBy w' (some b) ∧ IsFund w' f t b (n + 1) (M.put (k0, k1, k2) (y0, y1, y2, y3, y4, y5)) :=
    fun W hW => (table_Put.calls W t b n M k0 k1 k2 y0 y1 y2 y3 y4 y5 (hF.below hW).table (hF.below hW).map hn u0 u1 u2).mono (fun e w' ⟨e1, e2, e3⟩ => by
      have g : w.grownBy w' (some b) := ⟨e2.os.trans hW.os, e2.tape.trans hW.tape, e2.output.trans hW.output, Nat.le_trans hW.size e2.size, fun i hi hr => (e2.block i (Nat.lt_of_lt_of_le hi hW.size) hr).trans (hW.block i hi)⟩
      exact ⟨e1, g, hF.grown g e3⟩)
  have hc : w.cell? ⟨f, 0, none⟩ = some (.pointer (some ⟨t, 0, none⟩)) := blk_cell hF.fund 0
  have hlt := World.block_lt_of_cell? _ _ hc
  have HGET := Aside0.mk hget
  have HBY := Aside0.mk hby
  have HPUT := Aside0.mk hput
  have HF := Aside0.mk hF
  clear hget hby hput hF hp hq hm hM hg u0 u1 u2
  by_cases h0 : c = 0
  · subst h0
    rw [if_pos rfl]
    go_enter Try.func24, Try.ntmps24
    go_wp2_with (first | (go_at_call 27; ((with_reducible refine (HGET.out _ (below_alloc (Below.refl _ _) _)).mono ?_); rintro e w1 ⟨rfl, hb⟩; have h3 : Below w.heap.size w w1 := below_step (below_alloc (Below.refl _ _) _) hb; obtain ⟨hcc, hff⟩ := bcell hb; have hz1 : w.heap.size < w1.heap.size := (by have := hb.size; simp at this; omega))) | (go_at_call 41; ((with_reducible refine (HBY.out _ (below_alloc h3 _)).mono ?_); rintro e w2 ⟨rfl, hb2⟩; obtain ⟨hcc2, hff2⟩ := bcell hb2; have h4 : Below w.heap.size w w2 := below_step (below_alloc h3 _) hb2; have hz2 : w1.heap.size < w2.heap.size := (by have := hb2.size; simp at this; omega))))
    have kf : w2.cell? ⟨f, 0, none⟩ = some (.pointer (some ⟨t, 0, none⟩)) := (h4.cell hlt).trans hc
    have hz3 : f < w2.heap.size := Nat.lt_of_lt_of_le hlt h4.size
    have hz4 : w.heap.size < w2.heap.size := Nat.lt_trans hz1 hz2
    have j0 : w1.cell? ⟨w.heap.size, 0, none⟩ = some (.int .u8 k0) := by simp [hcc, go_sem]
    have j1 : w1.cell? ⟨w.heap.size, 1, none⟩ = some (.int .u8 k1) := by simp [hcc, go_sem]
    have j2 : w1.cell? ⟨w.heap.size, 2, none⟩ = some (.int .u8 k2) := by simp [hcc, go_sem]
    have i0 : w2.cell? ⟨w.heap.size, 0, none⟩ = some (.int .u8 k0) := by simp [hcc2, go_sem, j0, hz1, Nat.lt_succ_of_lt hz1]
    have i1 : w2.cell? ⟨w.heap.size, 1, none⟩ = some (.int .u8 k1) := by simp [hcc2, go_sem, j1, hz1, Nat.lt_succ_of_lt hz1]
    have i2 : w2.cell? ⟨w.heap.size, 2, none⟩ = some (.int .u8 k2) := by simp [hcc2, go_sem, j2, hz1, Nat.lt_succ_of_lt hz1]
    clear hcc hff hcc2 hff2 hb hb2 j0 j1 j2
    go_region_with (go_at_call 23; ((with_reducible refine (HPUT.out _ (below_drew1 (below_alloc h4 _))).mono ?_); rintro e w3 ⟨rfl, hg3, hF3⟩))
    all_goals go_wp2
    all_goals refine bodyPost_ret (v := .int .i64 0) (by simp [results, Try.results24, go_sem]) rfl ⟨rfl, hg3, hF3⟩
  · rw [if_neg h0]
    have hd : (c == 0) = false := by simpa using h0
    have hd2 : decide (c = 0) = false := decide_eq_false h0
    go_enter Try.func24, Try.ntmps24
    go_wp2_with (first | (go_at_call 27; ((with_reducible refine (HGET.out _ (below_alloc (Below.refl _ _) _)).mono ?_); rintro e w1 ⟨rfl, hb⟩; have h3 : Below w.heap.size w w1 := below_step (below_alloc (Below.refl _ _) _) hb; obtain ⟨hcc, hff⟩ := bcell hb; have hz1 : w.heap.size < w1.heap.size := (by have := hb.size; simp at this; omega))) | (go_at_call 41; ((with_reducible refine (HBY.out _ (below_alloc h3 _)).mono ?_); rintro e w2 ⟨rfl, hb2⟩; obtain ⟨hcc2, hff2⟩ := bcell hb2; have h4 : Below w.heap.size w w2 := below_step (below_alloc h3 _) hb2; have hz2 : w1.heap.size < w2.heap.size := (by have := hb2.size; simp at this; omega))))
    refine bodyPost_ret (v := .int .i64 c) (by simp [results, Try.results24, go_sem]) rfl ⟨rfl, ?_⟩
    have h5 : Below w.heap.size w w2 := h4
    have h6 := h5.size
    have h7 : Below w.heap.size w (w2.alloc (.cells #[.int .i64 y0, .int .i64 y1, .int .i64 y2, .int .i64 y3, .int .i64 y4, .int .i64 y5] 64 (0, 0))) := below_alloc h4 _
    exact ⟨grown_of_below h7 b, (HF.out.below h7).mono (Nat.le_succ n)⟩
end Go.Proofs.Ytnipjfciphgfjaa.V
