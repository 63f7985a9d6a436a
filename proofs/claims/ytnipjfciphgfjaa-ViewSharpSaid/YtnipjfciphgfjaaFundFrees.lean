/- The walk of what a view tells may be taken of all articles in all warehouses. -/
import Derived.Test.YtnipjfciphgfjaaFundSpans
namespace Go.Proofs.Ytnipjfciphgfjaa.V
open Go.RowKit Go.Proofs.Ytnipjfciphgfjaa.G Go.Proofs.YtnipjfciphgfjaaW.PrintWords Go.Proofs.YtnipjfciphgfjaaW.PrintLast Go.Proofs.YtnipjfciphgfjaaW.PrintMore
set_option linter.unusedVariables false
set_option linter.unusedSimpArgs false
set_option maxHeartbeats 2000000
set_option maxRecDepth 100000
/-- How far one number is above another one, as far as it fits. -/
def farV (a b : Int) : Int := (view_far.f a b).getD 0
theorem view_far_eq (a b : Int) : view_far.f a b = some (farV a b) := by
  unfold farV view_far.f calc_Dist.f calc_Fits.f
  by_cases h : b < a
  · rw [if_pos h]; simp
  · rw [if_neg h]
    simp only [Option.bind_some]
    split
    · simp
    · simp
/-- The cells of a table of four rows of four. -/
abbrev grid (F : Nat → Int) : Array Value := #[.int .i64 (F 0), .int .i64 (F 1), .int .i64 (F 2), .int .i64 (F 3), .int .i64 (F 4), .int .i64 (F 5), .int .i64 (F 6), .int .i64 (F 7), .int .i64 (F 8), .int .i64 (F 9), .int .i64 (F 10), .int .i64 (F 11), .int .i64 (F 12), .int .i64 (F 13), .int .i64 (F 14), .int .i64 (F 15)]
theorem grid_set (F : Nat → Int) (j : Nat) (v : Int) (h : j < 16) : (grid F).setIfInBounds j (.int .i64 v) = grid (fun p => if p = j then v else F p) := by
  have : j = 0 ∨ j = 1 ∨ j = 2 ∨ j = 3 ∨ j = 4 ∨ j = 5 ∨ j = 6 ∨ j = 7 ∨ j = 8 ∨ j = 9 ∨ j = 10 ∨ j = 11 ∨ j = 12 ∨ j = 13 ∨ j = 14 ∨ j = 15 := by omega
  rcases this with rfl | rfl | rfl | rfl | rfl | rfl | rfl | rfl | rfl | rfl | rfl | rfl | rfl | rfl | rfl | rfl <;> rfl
/-- What may be taken of a key. -/
def freeAt (M : Rowmap) (k : Int × Int × Int) : Int := farV ((M k).getD F6.zero).1 ((M k).getD F6.zero).2.2.2.1
def roomAt (M : Rowmap) (k : Int × Int × Int) : Int := farV ((M k).getD F6.zero).2.2.2.2.1 ((M k).getD F6.zero).2.1
/-- Place p of the table: article p / 4, warehouse p % 4. -/
def freeOf (M : Rowmap) (skus wares : Int) (p : Nat) : Int := if ((p / 4 : Nat) : Int) < skus ∧ ((p % 4 : Nat) : Int) < wares then freeAt M (1, ((p / 4 : Nat) : Int), ((p % 4 : Nat) : Int)) else 0
def freesTo (M : Rowmap) (skus wares : Int) (n p : Nat) : Int := if p < n then freeOf M skus wares p else 0
theorem grid_congr {F G : Nat → Int} (h : ∀ p, p < 16 → F p = G p) : grid F = grid G := by
  simp only [grid, h 0 (by decide), h 1 (by decide), h 2 (by decide), h 3 (by decide), h 4 (by decide), h 5 (by decide), h 6 (by decide), h 7 (by decide), h 8 (by decide), h 9 (by decide), h 10 (by decide), h 11 (by decide), h 12 (by decide), h 13 (by decide), h 14 (by decide), h 15 (by decide)]
theorem freesTo_set (M : Rowmap) (skus wares : Int) (n : Nat) (hn : n < 16) : (grid (freesTo M skus wares n)).setIfInBounds n (.int .i64 (freeOf M skus wares n)) = grid (freesTo M skus wares (n + 1)) := by
  rw [grid_set _ _ _ hn]
  refine grid_congr fun p _ => ?_
  unfold freesTo
  by_cases h : p = n
  · subst h; simp
  · by_cases h2 : p < n
    · simp [h, h2, Nat.lt_succ_of_lt h2]
    · simp [h, h2, show ¬ p < n + 1 by omega]
theorem freesTo_skip (M : Rowmap) (skus wares : Int) (n : Nat) (h0 : freeOf M skus wares n = 0) : grid (freesTo M skus wares n) = grid (freesTo M skus wares (n + 1)) := by
  refine grid_congr fun p _ => ?_
  unfold freesTo
  by_cases h : p = n
  · subst h; simp [h0]
  · by_cases h2 : p < n
    · simp [h2, Nat.lt_succ_of_lt h2]
    · simp [h2, show ¬ p < n + 1 by omega]
theorem freesTo_zero (M : Rowmap) (skus wares : Int) : grid (freesTo M skus wares 0) = grid (fun _ => 0) := grid_congr fun p _ => by simp [freesTo]
theorem zero52 : (Try.prog.info? 52).map (fun i => (i.zero, i.size)) = some (some (.agg (grid fun _ => 0)), 16) := by kernel_rfl
theorem grid_get (F : Nat → Int) (j : Nat) (h : j < 16) : (grid F)[j]? = some (.int .i64 (F j)) := by
  have : j = 0 ∨ j = 1 ∨ j = 2 ∨ j = 3 ∨ j = 4 ∨ j = 5 ∨ j = 6 ∨ j = 7 ∨ j = 8 ∨ j = 9 ∨ j = 10 ∨ j = 11 ∨ j = 12 ∨ j = 13 ∨ j = 14 ∨ j = 15 := by omega
  rcases this with rfl | rfl | rfl | rfl | rfl | rfl | rfl | rfl | rfl | rfl | rfl | rfl | rfl | rfl | rfl | rfl <;> rfl
theorem grid_store {w : World} {g : Nat} {G F : Nat → Int} (h : w.heap[g]? = some (.cells (grid G) 52 (0, 0))) :
    ((((((((((((((((w.setCell ⟨g, 0, none⟩ (.int .i64 (F 0))).setCell ⟨g, 1, none⟩ (.int .i64 (F 1))).setCell ⟨g, 2, none⟩ (.int .i64 (F 2))).setCell ⟨g, 3, none⟩ (.int .i64 (F 3))).setCell ⟨g, 4, none⟩ (.int .i64 (F 4))).setCell ⟨g, 5, none⟩ (.int .i64 (F 5))).setCell ⟨g, 6, none⟩ (.int .i64 (F 6))).setCell ⟨g, 7, none⟩ (.int .i64 (F 7))).setCell ⟨g, 8, none⟩ (.int .i64 (F 8))).setCell ⟨g, 9, none⟩ (.int .i64 (F 9))).setCell ⟨g, 10, none⟩ (.int .i64 (F 10))).setCell ⟨g, 11, none⟩ (.int .i64 (F 11))).setCell ⟨g, 12, none⟩ (.int .i64 (F 12))).setCell ⟨g, 13, none⟩ (.int .i64 (F 13))).setCell ⟨g, 14, none⟩ (.int .i64 (F 14))).setCell ⟨g, 15, none⟩ (.int .i64 (F 15))).heap[g]? = some (.cells (grid F) 52 (0, 0)) := by
  have h0 := blk_put h 0 (.int .i64 (F 0)) (grid_set G 0 (F 0) (by decide))
  have h1 := blk_put h0 1 (.int .i64 (F 1)) (grid_set _ 1 (F 1) (by decide))
  have h2 := blk_put h1 2 (.int .i64 (F 2)) (grid_set _ 2 (F 2) (by decide))
  have h3 := blk_put h2 3 (.int .i64 (F 3)) (grid_set _ 3 (F 3) (by decide))
  have h4 := blk_put h3 4 (.int .i64 (F 4)) (grid_set _ 4 (F 4) (by decide))
  have h5 := blk_put h4 5 (.int .i64 (F 5)) (grid_set _ 5 (F 5) (by decide))
  have h6 := blk_put h5 6 (.int .i64 (F 6)) (grid_set _ 6 (F 6) (by decide))
  have h7 := blk_put h6 7 (.int .i64 (F 7)) (grid_set _ 7 (F 7) (by decide))
  have h8 := blk_put h7 8 (.int .i64 (F 8)) (grid_set _ 8 (F 8) (by decide))
  have h9 := blk_put h8 9 (.int .i64 (F 9)) (grid_set _ 9 (F 9) (by decide))
  have h10 := blk_put h9 10 (.int .i64 (F 10)) (grid_set _ 10 (F 10) (by decide))
  have h11 := blk_put h10 11 (.int .i64 (F 11)) (grid_set _ 11 (F 11) (by decide))
  have h12 := blk_put h11 12 (.int .i64 (F 12)) (grid_set _ 12 (F 12) (by decide))
  have h13 := blk_put h12 13 (.int .i64 (F 13)) (grid_set _ 13 (F 13) (by decide))
  have h14 := blk_put h13 14 (.int .i64 (F 14)) (grid_set _ 14 (F 14) (by decide))
  have h15 := blk_put h14 15 (.int .i64 (F 15)) (grid_set _ 15 (F 15) (by decide))
  refine h15.trans ?_
  simp [grid]
theorem blk_new1 (w : World) (A B : Obj) : ((w.alloc A).alloc B).heap[w.heap.size + 1]? = some B := by
  have z := blk_new (w.alloc A) B
  rw [show (w.alloc A).heap.size = w.heap.size + 1 by simp] at z
  exact z
theorem blk_new2 (w : World) (A B C : Obj) : (((w.alloc A).alloc B).alloc C).heap[w.heap.size + 1 + 1]? = some C := by
  have z := blk_new ((w.alloc A).alloc B) C
  rw [show ((w.alloc A).alloc B).heap.size = w.heap.size + 1 + 1 by simp] at z
  exact z
theorem view_Frees.calls (w : World) (f t b n : Nat) (M : Rowmap) (skus wares : Int) (hF : IsFund w f t b n M) :
    Calls Try.prog 17 #[.agg (cfg skus wares), .pointer (some ⟨f, 0, none⟩)] w fun e w' => e = .returned (.agg (grid (freesTo M skus wares 16))) ∧ Below w.heap.size w w' := by
  have HF := Aside0.mk hF
  clear hF
  obtain ⟨F, hFr⟩ : ∃ F, freesTo M skus wares 16 = F := ⟨_, rfl⟩
  rw [hFr]
  have HFR := Aside0.mk hFr
  clear hFr
  go_enter Try.func17, Try.ntmps17
  go_wp2_with (fail)
  go_loopg [8] 4 (fun kq v8 w' => ∃ s : Nat, v8 = .int .i64 (s : Int) ∧ Aside0 (kq + s = 4) ∧ Aside0 (w'.heap[w.heap.size + 1 + 1]? = some (.cells (grid (freesTo M skus wares (s * 4))) 52 (0, 0))) ∧ Aside0 (w'.heap[w.heap.size + 1]? = some (.cells (grid fun _ => 0) 52 (0, 0))) ∧ Aside0 (w'.heap[w.heap.size]? = some (.cells (cfg skus wares) 44 (0, 0))) ∧ Aside0 (Below w.heap.size w w'))
  case atStart => exact ⟨0, rfl, ⟨rfl⟩, ⟨by rw [Nat.zero_mul, freesTo_zero]; exact blk_new2 _ _ _ _⟩, ⟨blk_alloc (blk_new1 _ _ _) _⟩, ⟨blk_alloc (blk_alloc (blk_new _ _) _) _⟩, ⟨below_alloc (below_alloc (below_alloc (Below.refl _ _) _) _) _⟩⟩
  case round =>
    obtain ⟨s, rfl, HI, HG, HZ, HC, HB⟩ := hrel
    cases gk with
    | zero =>
      have hi := HI.out
      obtain rfl : s = 4 := by omega
      have c2 : decide (((4 : Nat) : Int) < 4) = false := by decide
      rw [show 4 * 4 = 16 from rfl, HFR.out] at HG
      have q0 : wr.cell? ⟨w.heap.size + 1 + 1, 0, none⟩ = some (.int .i64 (F 0)) := blk_cell HG.out 0
      have q1 : wr.cell? ⟨w.heap.size + 1 + 1, 1, none⟩ = some (.int .i64 (F 1)) := blk_cell HG.out 1
      have q2 : wr.cell? ⟨w.heap.size + 1 + 1, 2, none⟩ = some (.int .i64 (F 2)) := blk_cell HG.out 2
      have q3 : wr.cell? ⟨w.heap.size + 1 + 1, 3, none⟩ = some (.int .i64 (F 3)) := blk_cell HG.out 3
      have q4 : wr.cell? ⟨w.heap.size + 1 + 1, 4, none⟩ = some (.int .i64 (F 4)) := blk_cell HG.out 4
      have q5 : wr.cell? ⟨w.heap.size + 1 + 1, 5, none⟩ = some (.int .i64 (F 5)) := blk_cell HG.out 5
      have q6 : wr.cell? ⟨w.heap.size + 1 + 1, 6, none⟩ = some (.int .i64 (F 6)) := blk_cell HG.out 6
      have q7 : wr.cell? ⟨w.heap.size + 1 + 1, 7, none⟩ = some (.int .i64 (F 7)) := blk_cell HG.out 7
      have q8 : wr.cell? ⟨w.heap.size + 1 + 1, 8, none⟩ = some (.int .i64 (F 8)) := blk_cell HG.out 8
      have q9 : wr.cell? ⟨w.heap.size + 1 + 1, 9, none⟩ = some (.int .i64 (F 9)) := blk_cell HG.out 9
      have q10 : wr.cell? ⟨w.heap.size + 1 + 1, 10, none⟩ = some (.int .i64 (F 10)) := blk_cell HG.out 10
      have q11 : wr.cell? ⟨w.heap.size + 1 + 1, 11, none⟩ = some (.int .i64 (F 11)) := blk_cell HG.out 11
      have q12 : wr.cell? ⟨w.heap.size + 1 + 1, 12, none⟩ = some (.int .i64 (F 12)) := blk_cell HG.out 12
      have q13 : wr.cell? ⟨w.heap.size + 1 + 1, 13, none⟩ = some (.int .i64 (F 13)) := blk_cell HG.out 13
      have q14 : wr.cell? ⟨w.heap.size + 1 + 1, 14, none⟩ = some (.int .i64 (F 14)) := blk_cell HG.out 14
      have q15 : wr.cell? ⟨w.heap.size + 1 + 1, 15, none⟩ = some (.int .i64 (F 15)) := blk_cell HG.out 15
      have z0 : wr.cell? ⟨w.heap.size + 1, 0, none⟩ = some (.int .i64 0) := blk_cell HZ.out 0
      have fz0 : wr.frozen? ⟨w.heap.size + 1, 0, none⟩ = false := blk_frozen HZ.out 0
      have z1 : wr.cell? ⟨w.heap.size + 1, 1, none⟩ = some (.int .i64 0) := blk_cell HZ.out 1
      have fz1 : wr.frozen? ⟨w.heap.size + 1, 1, none⟩ = false := blk_frozen HZ.out 1
      have z2 : wr.cell? ⟨w.heap.size + 1, 2, none⟩ = some (.int .i64 0) := blk_cell HZ.out 2
      have fz2 : wr.frozen? ⟨w.heap.size + 1, 2, none⟩ = false := blk_frozen HZ.out 2
      have z3 : wr.cell? ⟨w.heap.size + 1, 3, none⟩ = some (.int .i64 0) := blk_cell HZ.out 3
      have fz3 : wr.frozen? ⟨w.heap.size + 1, 3, none⟩ = false := blk_frozen HZ.out 3
      have z4 : wr.cell? ⟨w.heap.size + 1, 4, none⟩ = some (.int .i64 0) := blk_cell HZ.out 4
      have fz4 : wr.frozen? ⟨w.heap.size + 1, 4, none⟩ = false := blk_frozen HZ.out 4
      have z5 : wr.cell? ⟨w.heap.size + 1, 5, none⟩ = some (.int .i64 0) := blk_cell HZ.out 5
      have fz5 : wr.frozen? ⟨w.heap.size + 1, 5, none⟩ = false := blk_frozen HZ.out 5
      have z6 : wr.cell? ⟨w.heap.size + 1, 6, none⟩ = some (.int .i64 0) := blk_cell HZ.out 6
      have fz6 : wr.frozen? ⟨w.heap.size + 1, 6, none⟩ = false := blk_frozen HZ.out 6
      have z7 : wr.cell? ⟨w.heap.size + 1, 7, none⟩ = some (.int .i64 0) := blk_cell HZ.out 7
      have fz7 : wr.frozen? ⟨w.heap.size + 1, 7, none⟩ = false := blk_frozen HZ.out 7
      have z8 : wr.cell? ⟨w.heap.size + 1, 8, none⟩ = some (.int .i64 0) := blk_cell HZ.out 8
      have fz8 : wr.frozen? ⟨w.heap.size + 1, 8, none⟩ = false := blk_frozen HZ.out 8
      have z9 : wr.cell? ⟨w.heap.size + 1, 9, none⟩ = some (.int .i64 0) := blk_cell HZ.out 9
      have fz9 : wr.frozen? ⟨w.heap.size + 1, 9, none⟩ = false := blk_frozen HZ.out 9
      have z10 : wr.cell? ⟨w.heap.size + 1, 10, none⟩ = some (.int .i64 0) := blk_cell HZ.out 10
      have fz10 : wr.frozen? ⟨w.heap.size + 1, 10, none⟩ = false := blk_frozen HZ.out 10
      have z11 : wr.cell? ⟨w.heap.size + 1, 11, none⟩ = some (.int .i64 0) := blk_cell HZ.out 11
      have fz11 : wr.frozen? ⟨w.heap.size + 1, 11, none⟩ = false := blk_frozen HZ.out 11
      have z12 : wr.cell? ⟨w.heap.size + 1, 12, none⟩ = some (.int .i64 0) := blk_cell HZ.out 12
      have fz12 : wr.frozen? ⟨w.heap.size + 1, 12, none⟩ = false := blk_frozen HZ.out 12
      have z13 : wr.cell? ⟨w.heap.size + 1, 13, none⟩ = some (.int .i64 0) := blk_cell HZ.out 13
      have fz13 : wr.frozen? ⟨w.heap.size + 1, 13, none⟩ = false := blk_frozen HZ.out 13
      have z14 : wr.cell? ⟨w.heap.size + 1, 14, none⟩ = some (.int .i64 0) := blk_cell HZ.out 14
      have fz14 : wr.frozen? ⟨w.heap.size + 1, 14, none⟩ = false := blk_frozen HZ.out 14
      have z15 : wr.cell? ⟨w.heap.size + 1, 15, none⟩ = some (.int .i64 0) := blk_cell HZ.out 15
      have fz15 : wr.frozen? ⟨w.heap.size + 1, 15, none⟩ = false := blk_frozen HZ.out 15
      go_wp2
      have hz := grid_store (F := F) HZ.out
      refine bodyPost_ret (results_cell_row rfl _ _ (w.heap.size + 1) 52 (grid F) (0, 0) _ rfl hz Try.underlying52 rfl (by kernel_rfl)) rfl ⟨rfl, ?_⟩
      exact (below_set (below_set (below_set (below_set (below_set (below_set (below_set (below_set (below_set (below_set (below_set (below_set (below_set (below_set (below_set (below_set HB.out (Nat.le_succ _)) (Nat.le_succ _)) (Nat.le_succ _)) (Nat.le_succ _)) (Nat.le_succ _)) (Nat.le_succ _)) (Nat.le_succ _)) (Nat.le_succ _)) (Nat.le_succ _)) (Nat.le_succ _)) (Nat.le_succ _)) (Nat.le_succ _)) (Nat.le_succ _)) (Nat.le_succ _)) (Nat.le_succ _)) (Nat.le_succ _))
    | succ k1 =>
      have hi := HI.out
      have c2 : decide ((s : Int) < 4) = true := decide_eq_true (by omega)
      have u2 : wrap64 ((s : Int) + 1) = ((s + 1 : Nat) : Int) := by unfold wrap64; omega
      go_wp2
      go_loopg [11] 4 (fun kq v11 w' => ∃ k : Nat, v11 = .int .i64 (k : Int) ∧ Aside0 (kq + k = 4) ∧ Aside0 (w'.heap[w.heap.size + 1 + 1]? = some (.cells (grid (freesTo M skus wares (s * 4 + k))) 52 (0, 0))) ∧ Aside0 (w'.heap[w.heap.size + 1]? = some (.cells (grid fun _ => 0) 52 (0, 0))) ∧ Aside0 (w'.heap[w.heap.size]? = some (.cells (cfg skus wares) 44 (0, 0))) ∧ Aside0 (Below w.heap.size w w'))
      case atStart => exact ⟨0, rfl, ⟨rfl⟩, HG, HZ, HC, HB⟩
      case round =>
        clear HG HZ HC HB
        obtain ⟨k, rfl, HJ, HG, HZ, HC, HB⟩ := hrel
        cases gk with
        | zero =>
          have hj := HJ.out
          obtain rfl : k = 4 := by omega
          have c3 : decide (((4 : Nat) : Int) < 4) = false := by decide
          go_wp2
          go_roundg k1
          case measure => omega
          case rel => exact ⟨s + 1, by simp, ⟨by omega⟩, ⟨by rw [show (s + 1) * 4 = s * 4 + 4 by omega]; exact HG.out⟩, HZ, HC, HB⟩
        | succ k2 =>
          have hj := HJ.out
          have c3 : decide ((k : Int) < 4) = true := decide_eq_true (by omega)
          have kc0 : wr.cell? ⟨w.heap.size, 0, none⟩ = some (.int .i64 skus) := blk_cell HC.out 0
          have kc1 : wr.cell? ⟨w.heap.size, 1, none⟩ = some (.int .i64 wares) := blk_cell HC.out 1
          have hf0 : (s * 4 + k) / 4 = s := by omega
          have hf1 : (s * 4 + k) % 4 = k := by omega
          by_cases h0 : (s : Int) < skus
          · by_cases h1 : (k : Int) < wares
            · have e0 : decide ((s : Int) < skus) = true := decide_eq_true h0
              have e1 : decide ((k : Int) < wares) = true := decide_eq_true h1
              have hv : freeOf M skus wares (s * 4 + k) = freeAt M (1, (s : Int), (k : Int)) := by unfold freeOf; rw [hf0, hf1, if_pos ⟨h0, h1⟩]
              have HS := Aside0.mk (freesTo_set M skus wares (s * 4 + k) (by omega))
              rw [hv] at HS
              have hst : view_stock.f (s : Int) (k : Int) = some (1, (s : Int), (k : Int)) := by unfold view_stock.f; rw [show (s : Int) % 256 = (s : Int) by omega, show (k : Int) % 256 = (k : Int) by omega]
              have HST := Aside0.mk hst
              have hfree : ∀ W, Below wr.heap.size wr W → Calls Try.prog 9 #[.pointer (some ⟨f, 0, none⟩), .agg #[.int .u8 1, .int .u8 (s : Int), .int .u8 (k : Int)]] W fun e w' => e = .returned (.int .i64 (freeAt M (1, (s : Int), (k : Int)))) ∧ Below W.heap.size W w' := fun W hW => by
                have hW2 := below_step HB.out hW
                exact view_Free.calls W f t b n M 1 s k _ _ _ _ _ _ _ (HF.out.below hW2) (u8_iff.2 (by decide)) (u8_iff.2 (by omega)) (u8_iff.2 (by omega)) rfl (view_far_eq _ _)
              have HFREE := Aside0.mk hfree
              have HJK : Aside0 (s * 4 + k < 16) := ⟨by omega⟩
              have hs4 : s < 4 := by omega
              have hk4 : k < 4 := by omega
              have i4 : (s : Int) < 4 := by omega
              have j4 : (k : Int) < 4 := by omega
              clear hst hfree hv hf0 hf1 hi hj u2
              go_wp2
              go_region_with (first | (go_at_call 35; ((with_reducible refine (view_stock.calls _ _ _ _ _ _ HST.out).mono ?_); rintro e w1 ⟨rfl, hb1⟩)) | (go_at_call 9; ((with_reducible refine (HFREE.out _ (below_step (below_drew1 (Below.refl _ _)) hb1)).mono ?_); rintro e w2 ⟨rfl, hb2⟩; have hG2 := Aside0.mk (blk_below (blk_below (blk_drew HG.out) hb1) hb2); have hcell := (blk_cell hG2.out (s * 4 + k)).trans (grid_get _ _ HJK.out); have hfroz := blk_frozen hG2.out (s * 4 + k))))
              have h3 : Below wr.heap.size wr w2 := below_step (below_step (below_drew1 (Below.refl _ _)) hb1) hb2
              have HG3 := Aside0.mk (blk_put hG2.out (s * 4 + k) (.int .i64 (freeAt M (1, (s : Int), (k : Int)))) HS.out)
              have HZ3 := Aside0.mk ((Below.heap_setCell w2 ⟨w.heap.size + 1 + 1, s * 4 + k, none⟩ (.int .i64 (freeAt M (1, (s : Int), (k : Int)))) (w.heap.size + 1) (by simp)).trans (blk_below HZ.out h3))
              have HC3 := Aside0.mk ((Below.heap_setCell w2 ⟨w.heap.size + 1 + 1, s * 4 + k, none⟩ (.int .i64 (freeAt M (1, (s : Int), (k : Int)))) w.heap.size (by simp; omega)).trans (blk_below HC.out h3))
              have HB3 := Aside0.mk (below_set (g := w.heap.size + 1 + 1) (j := s * 4 + k) (v := .int .i64 (freeAt M (1, (s : Int), (k : Int)))) (below_step HB.out h3) (by omega))
              go_wp2
              go_roundg k2
              case measure => omega
              case rel => exact ⟨k + 1, by simp, ⟨by have := HJ.out; omega⟩, HG3, HZ3, HC3, HB3⟩
            · have e0 : decide ((s : Int) < skus) = true := decide_eq_true h0
              have e1 : decide ((k : Int) < wares) = false := decide_eq_false h1
              have hv : freeOf M skus wares (s * 4 + k) = 0 := by unfold freeOf; rw [hf0, hf1, if_neg (fun z => h1 z.2)]
              have HV := Aside0.mk hv
              have j4 : wrap64 ((k : Int) + 1) = ((k + 1 : Nat) : Int) := by unfold wrap64; omega
              clear hv hf0 hf1 hi hj u2
              go_wp2
              go_roundg k2
              case measure => omega
              case rel => exact ⟨k + 1, by simp, ⟨by have := HJ.out; omega⟩, ⟨by rw [show s * 4 + (k + 1) = s * 4 + k + 1 from rfl, ← freesTo_skip M skus wares _ HV.out]; exact HG.out⟩, HZ, HC, HB⟩
          · have e0 : decide ((s : Int) < skus) = false := decide_eq_false h0
            have hv : freeOf M skus wares (s * 4 + k) = 0 := by unfold freeOf; rw [hf0, hf1, if_neg (fun z => h0 z.1)]
            have HV := Aside0.mk hv
            have j4 : wrap64 ((k : Int) + 1) = ((k + 1 : Nat) : Int) := by unfold wrap64; omega
            clear hv hf0 hf1 hi hj u2
            go_wp2
            go_roundg k2
            case measure => omega
            case rel => exact ⟨k + 1, by simp, ⟨by have := HJ.out; omega⟩, ⟨by rw [show s * 4 + (k + 1) = s * 4 + k + 1 from rfl, ← freesTo_skip M skus wares _ HV.out]; exact HG.out⟩, HZ, HC, HB⟩
end Go.Proofs.Ytnipjfciphgfjaa.V
