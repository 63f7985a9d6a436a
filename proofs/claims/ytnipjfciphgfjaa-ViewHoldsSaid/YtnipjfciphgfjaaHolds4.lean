/- Several texts of this seat put together, each as it stands: FundFrees, FundPlain, Open, Gx25. -/
import Derived.Test.YtnipjfciphgfjaaHolds3
import Derived.Test.YtnipjfciphgfjaaRows
import Derived.WalkKit
import Derived.ProofKit
import Derived.OpenShut
import Derived.ShutString
import Derived.ChangeOld
import Derived.Below
import Derived.SizedLaws
/- The walk of what a view tells may be taken of all articles in all warehouses. -/
namespace Go.Proofs.Ytnipjfciphgfjaa.V
open Go.RowKit Go.Proofs.Ytnipjfciphgfjaa.G Go.Proofs.YtnipjfciphgfjaaW.PrintWords Go.Proofs.YtnipjfciphgfjaaW.PrintLast Go.Proofs.YtnipjfciphgfjaaW.PrintMore
set_option linter.unusedVariables false
set_option linter.unusedSimpArgs false
set_option maxHeartbeats 2000000
set_option maxRecDepth 100000
/-- How far one number is above another one, as far as it fits. -/
def farV (a b : Int) : Int := (view_far.f a b).getD 0
theorem view_far_eq (a b : Int) : view_far.f a b = some (farV a b) := by
  unfold farV view_far.f calc_Dist.f calc_Fits.f
  by_cases h : b < a
  · rw [if_pos h]; simp
  · rw [if_neg h]
    simp only [Option.bind_some]
    split
    · simp
    · simp
/-- The cells of a table of four rows of four. -/
abbrev grid (F : Nat → Int) : Array Value := #[.int .i64 (F 0), .int .i64 (F 1), .int .i64 (F 2), .int .i64 (F 3), .int .i64 (F 4), .int .i64 (F 5), .int .i64 (F 6), .int .i64 (F 7), .int .i64 (F 8), .int .i64 (F 9), .int .i64 (F 10), .int .i64 (F 11), .int .i64 (F 12), .int .i64 (F 13), .int .i64 (F 14), .int .i64 (F 15)]
theorem grid_set (F : Nat → Int) (j : Nat) (v : Int) (h : j < 16) : (grid F).setIfInBounds j (.int .i64 v) = grid (fun p => if p = j then v else F p) := by
  have : j = 0 ∨ j = 1 ∨ j = 2 ∨ j = 3 ∨ j = 4 ∨ j = 5 ∨ j = 6 ∨ j = 7 ∨ j = 8 ∨ j = 9 ∨ j = 10 ∨ j = 11 ∨ j = 12 ∨ j = 13 ∨ j = 14 ∨ j = 15 := by omega
  rcases this with rfl | rfl | rfl | rfl | rfl | rfl | rfl | rfl | rfl | rfl | rfl | rfl | rfl | rfl | rfl | rfl <;> rfl
/-- What may be taken of a key. -/
def freeAt (M : Rowmap) (k : Int × Int × Int) : Int := farV ((M k).getD F6.zero).1 ((M k).getD F6.zero).2.2.2.1
def roomAt (M : Rowmap) (k : Int × Int × Int) : Int := farV ((M k).getD F6.zero).2.2.2.2.1 ((M k).getD F6.zero).2.1
/-- Place p of the table: article p / 4, warehouse p % 4. -/
def freeOf (M : Rowmap) (skus wares : Int) (p : Nat) : Int := if ((p / 4 : Nat) : Int) < skus ∧ ((p % 4 : Nat) : Int) < wares then freeAt M (1, ((p / 4 : Nat) : Int), ((p % 4 : Nat) : Int)) else 0
def freesTo (M : Rowmap) (skus wares : Int) (n p : Nat) : Int := if p < n then freeOf M skus wares p else 0
theorem grid_congr {F G : Nat → Int} (h : ∀ p, p < 16 → F p = G p) : grid F = grid G := by
  simp only [grid, h 0 (by decide), h 1 (by decide), h 2 (by decide), h 3 (by decide), h 4 (by decide), h 5 (by decide), h 6 (by decide), h 7 (by decide), h 8 (by decide), h 9 (by decide), h 10 (by decide), h 11 (by decide), h 12 (by decide), h 13 (by decide), h 14 (by decide), h 15 (by decide)]
theorem freesTo_set (M : Rowmap) (skus wares : Int) (n : Nat) (hn : n < 16) : (grid (freesTo M skus wares n)).setIfInBounds n (.int .i64 (freeOf M skus wares n)) = grid (freesTo M skus wares (n + 1)) := by
  rw [grid_set _ _ _ hn]
  refine grid_congr fun p _ => ?_
  unfold freesTo
  by_cases h : p = n
  · subst h; simp
  · by_cases h2 : p < n
    · simp [h, h2, Nat.lt_succ_of_lt h2]
    · simp [h, h2, show ¬ p < n + 1 by omega]
theorem freesTo_skip (M : Rowmap) (skus wares : Int) (n : Nat) (h0 : freeOf M skus wares n = 0) : grid (freesTo M skus wares n) = grid (freesTo M skus wares (n + 1)) := by
  refine grid_congr fun p _ => ?_
  unfold freesTo
  by_cases h : p = n
  · subst h; simp [h0]
  · by_cases h2 : p < n
    · simp [h2, Nat.lt_succ_of_lt h2]
    · simp [h2, show ¬ p < n + 1 by omega]
theorem freesTo_zero (M : Rowmap) (skus wares : Int) : grid (freesTo M skus wares 0) = grid (fun _ => 0) := grid_congr fun p _ => by simp [freesTo]
theorem zero52 : (Try.prog.info? 52).map (fun i => (i.zero, i.size)) = some (some (.agg (grid fun _ => 0)), 16) := by kernel_rfl
theorem grid_get (F : Nat → Int) (j : Nat) (h : j < 16) : (grid F)[j]? = some (.int .i64 (F j)) := by
  have : j = 0 ∨ j = 1 ∨ j = 2 ∨ j = 3 ∨ j = 4 ∨ j = 5 ∨ j = 6 ∨ j = 7 ∨ j = 8 ∨ j = 9 ∨ j = 10 ∨ j = 11 ∨ j = 12 ∨ j = 13 ∨ j = 14 ∨ j = 15 := by omega
  rcases this with rfl | rfl | rfl | rfl | rfl | rfl | rfl | rfl | rfl | rfl | rfl | rfl | rfl | rfl | rfl | rfl <;> rfl
theorem grid_store {w : World} {g : Nat} {G F : Nat → Int} (h : w.heap[g]? = some (.cells (grid G) 52 (0, 0))) :
    ((((((((((((((((w.setCell ⟨g, 0, none⟩ (.int .i64 (F 0))).setCell ⟨g, 1, none⟩ (.int .i64 (F 1))).setCell ⟨g, 2, none⟩ (.int .i64 (F 2))).setCell ⟨g, 3, none⟩ (.int .i64 (F 3))).setCell ⟨g, 4, none⟩ (.int .i64 (F 4))).setCell ⟨g, 5, none⟩ (.int .i64 (F 5))).setCell ⟨g, 6, none⟩ (.int .i64 (F 6))).setCell ⟨g, 7, none⟩ (.int .i64 (F 7))).setCell ⟨g, 8, none⟩ (.int .i64 (F 8))).setCell ⟨g, 9, none⟩ (.int .i64 (F 9))).setCell ⟨g, 10, none⟩ (.int .i64 (F 10))).setCell ⟨g, 11, none⟩ (.int .i64 (F 11))).setCell ⟨g, 12, none⟩ (.int .i64 (F 12))).setCell ⟨g, 13, none⟩ (.int .i64 (F 13))).setCell ⟨g, 14, none⟩ (.int .i64 (F 14))).setCell ⟨g, 15, none⟩ (.int .i64 (F 15))).heap[g]? = some (.cells (grid F) 52 (0, 0)) := by
  have h0 := blk_put h 0 (.int .i64 (F 0)) (grid_set G 0 (F 0) (by decide))
  have h1 := blk_put h0 1 (.int .i64 (F 1)) (grid_set _ 1 (F 1) (by decide))
  have h2 := blk_put h1 2 (.int .i64 (F 2)) (grid_set _ 2 (F 2) (by decide))
  have h3 := blk_put h2 3 (.int .i64 (F 3)) (grid_set _ 3 (F 3) (by decide))
  have h4 := blk_put h3 4 (.int .i64 (F 4)) (grid_set _ 4 (F 4) (by decide))
  have h5 := blk_put h4 5 (.int .i64 (F 5)) (grid_set _ 5 (F 5) (by decide))
  have h6 := blk_put h5 6 (.int .i64 (F 6)) (grid_set _ 6 (F 6) (by decide))
  have h7 := blk_put h6 7 (.int .i64 (F 7)) (grid_set _ 7 (F 7) (by decide))
  have h8 := blk_put h7 8 (.int .i64 (F 8)) (grid_set _ 8 (F 8) (by decide))
  have h9 := blk_put h8 9 (.int .i64 (F 9)) (grid_set _ 9 (F 9) (by decide))
  have h10 := blk_put h9 10 (.int .i64 (F 10)) (grid_set _ 10 (F 10) (by decide))
  have h11 := blk_put h10 11 (.int .i64 (F 11)) (grid_set _ 11 (F 11) (by decide))
  have h12 := blk_put h11 12 (.int .i64 (F 12)) (grid_set _ 12 (F 12) (by decide))
  have h13 := blk_put h12 13 (.int .i64 (F 13)) (grid_set _ 13 (F 13) (by decide))
  have h14 := blk_put h13 14 (.int .i64 (F 14)) (grid_set _ 14 (F 14) (by decide))
  have h15 := blk_put h14 15 (.int .i64 (F 15)) (grid_set _ 15 (F 15) (by decide))
  refine h15.trans ?_
  simp [grid]
theorem blk_new1 (w : World) (A B : Obj) : ((w.alloc A).alloc B).heap[w.heap.size + 1]? = some B := by
  have z := blk_new (w.alloc A) B
  rw [show (w.alloc A).heap.size = w.heap.size + 1 by simp] at z
  exact z
theorem blk_new2 (w : World) (A B C : Obj) : (((w.alloc A).alloc B).alloc C).heap[w.heap.size + 1 + 1]? = some C := by
  have z := blk_new ((w.alloc A).alloc B) C
  rw [show ((w.alloc A).alloc B).heap.size = w.heap.size + 1 + 1 by simp] at z
  exact z
theorem view_Frees.calls (w : World) (f t b n : Nat) (M : Rowmap) (skus wares : Int) (hF : IsFund w f t b n M) :
    Calls Try.prog 17 #[.agg (cfg skus wares), .pointer (some ⟨f, 0, none⟩)] w fun e w' => e = .returned (.agg (grid (freesTo M skus wares 16))) ∧ Below w.heap.size w w' := by
  have HF := Aside0.mk hF
  clear hF
  obtain ⟨F, hFr⟩ : ∃ F, freesTo M skus wares 16 = F := ⟨_, rfl⟩
  rw [hFr]
  have HFR := Aside0.mk hFr
  clear hFr
  go_enter Try.func17, Try.ntmps17
  go_wp2_with (fail)
  go_loopg [8] 4 (fun kq v8 w' => ∃ s : Nat, v8 = .int .i64 (s : Int) ∧ Aside0 (kq + s = 4) ∧ Aside0 (w'.heap[w.heap.size + 1 + 1]? = some (.cells (grid (freesTo M skus wares (s * 4))) 52 (0, 0))) ∧ Aside0 (w'.heap[w.heap.size + 1]? = some (.cells (grid fun _ => 0) 52 (0, 0))) ∧ Aside0 (w'.heap[w.heap.size]? = some (.cells (cfg skus wares) 44 (0, 0))) ∧ Aside0 (Below w.heap.size w w'))
  case atStart => exact ⟨0, rfl, ⟨rfl⟩, ⟨by rw [Nat.zero_mul, freesTo_zero]; exact blk_new2 _ _ _ _⟩, ⟨blk_alloc (blk_new1 _ _ _) _⟩, ⟨blk_alloc (blk_alloc (blk_new _ _) _) _⟩, ⟨below_alloc (below_alloc (below_alloc (Below.refl _ _) _) _) _⟩⟩
  case round =>
    obtain ⟨s, rfl, HI, HG, HZ, HC, HB⟩ := hrel
    cases gk with
    | zero =>
      have hi := HI.out
      obtain rfl : s = 4 := by omega
      have c2 : decide (((4 : Nat) : Int) < 4) = false := by decide
      rw [show 4 * 4 = 16 from rfl, HFR.out] at HG
      have q0 : wr.cell? ⟨w.heap.size + 1 + 1, 0, none⟩ = some (.int .i64 (F 0)) := blk_cell HG.out 0
      have q1 : wr.cell? ⟨w.heap.size + 1 + 1, 1, none⟩ = some (.int .i64 (F 1)) := blk_cell HG.out 1
      have q2 : wr.cell? ⟨w.heap.size + 1 + 1, 2, none⟩ = some (.int .i64 (F 2)) := blk_cell HG.out 2
      have q3 : wr.cell? ⟨w.heap.size + 1 + 1, 3, none⟩ = some (.int .i64 (F 3)) := blk_cell HG.out 3
      have q4 : wr.cell? ⟨w.heap.size + 1 + 1, 4, none⟩ = some (.int .i64 (F 4)) := blk_cell HG.out 4
      have q5 : wr.cell? ⟨w.heap.size + 1 + 1, 5, none⟩ = some (.int .i64 (F 5)) := blk_cell HG.out 5
      have q6 : wr.cell? ⟨w.heap.size + 1 + 1, 6, none⟩ = some (.int .i64 (F 6)) := blk_cell HG.out 6
      have q7 : wr.cell? ⟨w.heap.size + 1 + 1, 7, none⟩ = some (.int .i64 (F 7)) := blk_cell HG.out 7
      have q8 : wr.cell? ⟨w.heap.size + 1 + 1, 8, none⟩ = some (.int .i64 (F 8)) := blk_cell HG.out 8
      have q9 : wr.cell? ⟨w.heap.size + 1 + 1, 9, none⟩ = some (.int .i64 (F 9)) := blk_cell HG.out 9
      have q10 : wr.cell? ⟨w.heap.size + 1 + 1, 10, none⟩ = some (.int .i64 (F 10)) := blk_cell HG.out 10
      have q11 : wr.cell? ⟨w.heap.size + 1 + 1, 11, none⟩ = some (.int .i64 (F 11)) := blk_cell HG.out 11
      have q12 : wr.cell? ⟨w.heap.size + 1 + 1, 12, none⟩ = some (.int .i64 (F 12)) := blk_cell HG.out 12
      have q13 : wr.cell? ⟨w.heap.size + 1 + 1, 13, none⟩ = some (.int .i64 (F 13)) := blk_cell HG.out 13
      have q14 : wr.cell? ⟨w.heap.size + 1 + 1, 14, none⟩ = some (.int .i64 (F 14)) := blk_cell HG.out 14
      have q15 : wr.cell? ⟨w.heap.size + 1 + 1, 15, none⟩ = some (.int .i64 (F 15)) := blk_cell HG.out 15
      have z0 : wr.cell? ⟨w.heap.size + 1, 0, none⟩ = some (.int .i64 0) := blk_cell HZ.out 0
      have fz0 : wr.frozen? ⟨w.heap.size + 1, 0, none⟩ = false := blk_frozen HZ.out 0
      have z1 : wr.cell? ⟨w.heap.size + 1, 1, none⟩ = some (.int .i64 0) := blk_cell HZ.out 1
      have fz1 : wr.frozen? ⟨w.heap.size + 1, 1, none⟩ = false := blk_frozen HZ.out 1
      have z2 : wr.cell? ⟨w.heap.size + 1, 2, none⟩ = some (.int .i64 0) := blk_cell HZ.out 2
      have fz2 : wr.frozen? ⟨w.heap.size + 1, 2, none⟩ = false := blk_frozen HZ.out 2
      have z3 : wr.cell? ⟨w.heap.size + 1, 3, none⟩ = some (.int .i64 0) := blk_cell HZ.out 3
      have fz3 : wr.frozen? ⟨w.heap.size + 1, 3, none⟩ = false := blk_frozen HZ.out 3
      have z4 : wr.cell? ⟨w.heap.size + 1, 4, none⟩ = some (.int .i64 0) := blk_cell HZ.out 4
      have fz4 : wr.frozen? ⟨w.heap.size + 1, 4, none⟩ = false := blk_frozen HZ.out 4
      have z5 : wr.cell? ⟨w.heap.size + 1, 5, none⟩ = some (.int .i64 0) := blk_cell HZ.out 5
      have fz5 : wr.frozen? ⟨w.heap.size + 1, 5, none⟩ = false := blk_frozen HZ.out 5
      have z6 : wr.cell? ⟨w.heap.size + 1, 6, none⟩ = some (.int .i64 0) := blk_cell HZ.out 6
      have fz6 : wr.frozen? ⟨w.heap.size + 1, 6, none⟩ = false := blk_frozen HZ.out 6
      have z7 : wr.cell? ⟨w.heap.size + 1, 7, none⟩ = some (.int .i64 0) := blk_cell HZ.out 7
      have fz7 : wr.frozen? ⟨w.heap.size + 1, 7, none⟩ = false := blk_frozen HZ.out 7
      have z8 : wr.cell? ⟨w.heap.size + 1, 8, none⟩ = some (.int .i64 0) := blk_cell HZ.out 8
      have fz8 : wr.frozen? ⟨w.heap.size + 1, 8, none⟩ = false := blk_frozen HZ.out 8
      have z9 : wr.cell? ⟨w.heap.size + 1, 9, none⟩ = some (.int .i64 0) := blk_cell HZ.out 9
      have fz9 : wr.frozen? ⟨w.heap.size + 1, 9, none⟩ = false := blk_frozen HZ.out 9
      have z10 : wr.cell? ⟨w.heap.size + 1, 10, none⟩ = some (.int .i64 0) := blk_cell HZ.out 10
      have fz10 : wr.frozen? ⟨w.heap.size + 1, 10, none⟩ = false := blk_frozen HZ.out 10
      have z11 : wr.cell? ⟨w.heap.size + 1, 11, none⟩ = some (.int .i64 0) := blk_cell HZ.out 11
      have fz11 : wr.frozen? ⟨w.heap.size + 1, 11, none⟩ = false := blk_frozen HZ.out 11
      have z12 : wr.cell? ⟨w.heap.size + 1, 12, none⟩ = some (.int .i64 0) := blk_cell HZ.out 12
      have fz12 : wr.frozen? ⟨w.heap.size + 1, 12, none⟩ = false := blk_frozen HZ.out 12
      have z13 : wr.cell? ⟨w.heap.size + 1, 13, none⟩ = some (.int .i64 0) := blk_cell HZ.out 13
      have fz13 : wr.frozen? ⟨w.heap.size + 1, 13, none⟩ = false := blk_frozen HZ.out 13
      have z14 : wr.cell? ⟨w.heap.size + 1, 14, none⟩ = some (.int .i64 0) := blk_cell HZ.out 14
      have fz14 : wr.frozen? ⟨w.heap.size + 1, 14, none⟩ = false := blk_frozen HZ.out 14
      have z15 : wr.cell? ⟨w.heap.size + 1, 15, none⟩ = some (.int .i64 0) := blk_cell HZ.out 15
      have fz15 : wr.frozen? ⟨w.heap.size + 1, 15, none⟩ = false := blk_frozen HZ.out 15
      go_wp2
      have hz := grid_store (F := F) HZ.out
      refine bodyPost_ret (results_cell_row rfl _ _ (w.heap.size + 1) 52 (grid F) (0, 0) _ rfl hz Try.underlying52 rfl (by kernel_rfl)) rfl ⟨rfl, ?_⟩
      exact (below_set (below_set (below_set (below_set (below_set (below_set (below_set (below_set (below_set (below_set (below_set (below_set (below_set (below_set (below_set (below_set HB.out (Nat.le_succ _)) (Nat.le_succ _)) (Nat.le_succ _)) (Nat.le_succ _)) (Nat.le_succ _)) (Nat.le_succ _)) (Nat.le_succ _)) (Nat.le_succ _)) (Nat.le_succ _)) (Nat.le_succ _)) (Nat.le_succ _)) (Nat.le_succ _)) (Nat.le_succ _)) (Nat.le_succ _)) (Nat.le_succ _)) (Nat.le_succ _))
    | succ k1 =>
      have hi := HI.out
      have c2 : decide ((s : Int) < 4) = true := decide_eq_true (by omega)
      have u2 : wrap64 ((s : Int) + 1) = ((s + 1 : Nat) : Int) := by unfold wrap64; omega
      go_wp2
      go_loopg [11] 4 (fun kq v11 w' => ∃ k : Nat, v11 = .int .i64 (k : Int) ∧ Aside0 (kq + k = 4) ∧ Aside0 (w'.heap[w.heap.size + 1 + 1]? = some (.cells (grid (freesTo M skus wares (s * 4 + k))) 52 (0, 0))) ∧ Aside0 (w'.heap[w.heap.size + 1]? = some (.cells (grid fun _ => 0) 52 (0, 0))) ∧ Aside0 (w'.heap[w.heap.size]? = some (.cells (cfg skus wares) 44 (0, 0))) ∧ Aside0 (Below w.heap.size w w'))
      case atStart => exact ⟨0, rfl, ⟨rfl⟩, HG, HZ, HC, HB⟩
      case round =>
        clear HG HZ HC HB
        obtain ⟨k, rfl, HJ, HG, HZ, HC, HB⟩ := hrel
        cases gk with
        | zero =>
          have hj := HJ.out
          obtain rfl : k = 4 := by omega
          have c3 : decide (((4 : Nat) : Int) < 4) = false := by decide
          go_wp2
          go_roundg k1
          case measure => omega
          case rel => exact ⟨s + 1, by simp, ⟨by omega⟩, ⟨by rw [show (s + 1) * 4 = s * 4 + 4 by omega]; exact HG.out⟩, HZ, HC, HB⟩
        | succ k2 =>
          have hj := HJ.out
          have c3 : decide ((k : Int) < 4) = true := decide_eq_true (by omega)
          have kc0 : wr.cell? ⟨w.heap.size, 0, none⟩ = some (.int .i64 skus) := blk_cell HC.out 0
          have kc1 : wr.cell? ⟨w.heap.size, 1, none⟩ = some (.int .i64 wares) := blk_cell HC.out 1
          have hf0 : (s * 4 + k) / 4 = s := by omega
          have hf1 : (s * 4 + k) % 4 = k := by omega
          by_cases h0 : (s : Int) < skus
          · by_cases h1 : (k : Int) < wares
            · have e0 : decide ((s : Int) < skus) = true := decide_eq_true h0
              have e1 : decide ((k : Int) < wares) = true := decide_eq_true h1
              have hv : freeOf M skus wares (s * 4 + k) = freeAt M (1, (s : Int), (k : Int)) := by unfold freeOf; rw [hf0, hf1, if_pos ⟨h0, h1⟩]
              have HS := Aside0.mk (freesTo_set M skus wares (s * 4 + k) (by omega))
              rw [hv] at HS
              have hst : view_stock.f (s : Int) (k : Int) = some (1, (s : Int), (k : Int)) := by unfold view_stock.f; rw [show (s : Int) % 256 = (s : Int) by omega, show (k : Int) % 256 = (k : Int) by omega]
              have HST := Aside0.mk hst
              have hfree : ∀ W, Below wr.heap.size wr W → Calls Try.prog 9 #[.pointer (some ⟨f, 0, none⟩), .agg #[.int .u8 1, .int .u8 (s : Int), .int .u8 (k : Int)]] W fun e w' => e = .returned (.int .i64 (freeAt M (1, (s : Int), (k : Int)))) ∧ Below W.heap.size W w' := fun W hW => by
                have hW2 := below_step HB.out hW
                exact view_Free.calls W f t b n M 1 s k _ _ _ _ _ _ _ (HF.out.below hW2) (u8_iff.2 (by decide)) (u8_iff.2 (by omega)) (u8_iff.2 (by omega)) rfl (view_far_eq _ _)
              have HFREE := Aside0.mk hfree
              have HJK : Aside0 (s * 4 + k < 16) := ⟨by omega⟩
              have hs4 : s < 4 := by omega
              have hk4 : k < 4 := by omega
              have i4 : (s : Int) < 4 := by omega
              have j4 : (k : Int) < 4 := by omega
              clear hst hfree hv hf0 hf1 hi hj u2
              go_wp2
              go_region_with (first | (go_at_call 35; ((with_reducible refine (view_stock.calls _ _ _ _ _ _ HST.out).mono ?_); rintro e w1 ⟨rfl, hb1⟩)) | (go_at_call 9; ((with_reducible refine (HFREE.out _ (below_step (below_drew1 (Below.refl _ _)) hb1)).mono ?_); rintro e w2 ⟨rfl, hb2⟩; have hG2 := Aside0.mk (blk_below (blk_below (blk_drew HG.out) hb1) hb2); have hcell := (blk_cell hG2.out (s * 4 + k)).trans (grid_get _ _ HJK.out); have hfroz := blk_frozen hG2.out (s * 4 + k))))
              have h3 : Below wr.heap.size wr w2 := below_step (below_step (below_drew1 (Below.refl _ _)) hb1) hb2
              have HG3 := Aside0.mk (blk_put hG2.out (s * 4 + k) (.int .i64 (freeAt M (1, (s : Int), (k : Int)))) HS.out)
              have HZ3 := Aside0.mk ((Below.heap_setCell w2 ⟨w.heap.size + 1 + 1, s * 4 + k, none⟩ (.int .i64 (freeAt M (1, (s : Int), (k : Int)))) (w.heap.size + 1) (by simp)).trans (blk_below HZ.out h3))
              have HC3 := Aside0.mk ((Below.heap_setCell w2 ⟨w.heap.size + 1 + 1, s * 4 + k, none⟩ (.int .i64 (freeAt M (1, (s : Int), (k : Int)))) w.heap.size (by simp; omega)).trans (blk_below HC.out h3))
              have HB3 := Aside0.mk (below_set (g := w.heap.size + 1 + 1) (j := s * 4 + k) (v := .int .i64 (freeAt M (1, (s : Int), (k : Int)))) (below_step HB.out h3) (by omega))
              go_wp2
              go_roundg k2
              case measure => omega
              case rel => exact ⟨k + 1, by simp, ⟨by have := HJ.out; omega⟩, HG3, HZ3, HC3, HB3⟩
            · have e0 : decide ((s : Int) < skus) = true := decide_eq_true h0
              have e1 : decide ((k : Int) < wares) = false := decide_eq_false h1
              have hv : freeOf M skus wares (s * 4 + k) = 0 := by unfold freeOf; rw [hf0, hf1, if_neg (fun z => h1 z.2)]
              have HV := Aside0.mk hv
              have j4 : wrap64 ((k : Int) + 1) = ((k + 1 : Nat) : Int) := by unfold wrap64; omega
              clear hv hf0 hf1 hi hj u2
              go_wp2
              go_roundg k2
              case measure => omega
              case rel => exact ⟨k + 1, by simp, ⟨by have := HJ.out; omega⟩, ⟨by rw [show s * 4 + (k + 1) = s * 4 + k + 1 from rfl, ← freesTo_skip M skus wares _ HV.out]; exact HG.out⟩, HZ, HC, HB⟩
          · have e0 : decide ((s : Int) < skus) = false := decide_eq_false h0
            have hv : freeOf M skus wares (s * 4 + k) = 0 := by unfold freeOf; rw [hf0, hf1, if_neg (fun z => h0 z.1)]
            have HV := Aside0.mk hv
            have j4 : wrap64 ((k : Int) + 1) = ((k + 1 : Nat) : Int) := by unfold wrap64; omega
            clear hv hf0 hf1 hi hj u2
            go_wp2
            go_roundg k2
            case measure => omega
            case rel => exact ⟨k + 1, by simp, ⟨by have := HJ.out; omega⟩, ⟨by rw [show s * 4 + (k + 1) = s * 4 + k + 1 from rfl, ← freesTo_skip M skus wares _ HV.out]; exact HG.out⟩, HZ, HC, HB⟩
end Go.Proofs.Ytnipjfciphgfjaa.V
/- What grants make of what a fund holds: plain Lean. -/
namespace Go.Proofs.Ytnipjfciphgfjaa.V
open Go.RowKit Go.Proofs.Ytnipjfciphgfjaa.G Go.Proofs.YtnipjfciphgfjaaW.PrintWords Go.Proofs.YtnipjfciphgfjaaW.PrintLast Go.Proofs.YtnipjfciphgfjaaW.PrintMore
set_option linter.unusedVariables false
set_option linter.unusedSimpArgs false
/-- What an addition makes of the lower end, of the upper one. -/
def infOf (inf d : Int) : Int := if d < 0 then inf + d else inf
def supOf (sup d : Int) : Int := if d < 0 then sup else sup + d
/-- The addition d is granted. -/
def Gr (lo hi base inf sup val d : Int) : Prop := GoodP lo hi base inf sup val ∧ d ≠ 0 ∧ d ≠ -9223372036854775808 ∧ lo ≤ infOf inf d ∧ supOf sup d ≤ hi
instance (a b c d e f g : Int) : Decidable (Gr a b c d e f g) := inferInstanceAs (Decidable (_ ∧ _))
def In7 (lo hi base inf sup val d : Int) : Prop := In64 lo ∧ In64 hi ∧ In64 base ∧ In64 inf ∧ In64 sup ∧ In64 val ∧ In64 d
theorem in7_pos {α : Type} {lo hi base inf sup val d : Int} (h : In7 lo hi base inf sup val d) (x y : α) : (if In64 lo ∧ In64 hi ∧ In64 base ∧ In64 inf ∧ In64 sup ∧ In64 val ∧ In64 d then x else y) = x := if_pos h
theorem Gr.good {lo hi base inf sup val d : Int} (g : Gr lo hi base inf sup val d) : GoodP lo hi base (infOf inf d) (supOf sup d) (val + d) := by
  unfold Gr GoodP infOf supOf at *
  obtain ⟨⟨h1, h2, h3, h4, h5, h6⟩, _, _, h9, h10⟩ := g
  by_cases c : d < 0
  · simp only [if_pos c] at *; omega
  · simp only [if_neg c] at *; omega
theorem Gr.ins {lo hi base inf sup val d : Int} (g : Gr lo hi base inf sup val d) (h : In7 lo hi base inf sup val d) : In64 (infOf inf d) ∧ In64 (supOf sup d) ∧ In64 (val + d) := by
  have q := g.good
  unfold In7 In64 at h
  unfold GoodP at q
  unfold In64
  omega
theorem grantP_yes {lo hi base inf sup val d : Int} (h : In7 lo hi base inf sup val d) (g : Gr lo hi base inf sup val d) : grantP lo hi base inf sup val d = (lo, hi, base, infOf inf d, supOf sup d, val + d, 0) := by
  have hi' := g.ins h
  unfold In7 at h
  unfold grantP
  rw [if_neg (fun z => z g.1), if_neg (by have := g.2; omega)]
  obtain ⟨_, _, _, g4, g5⟩ := g
  unfold infOf supOf at *
  unfold In64 at hi'
  by_cases c : d < 0
  · simp only [if_pos c] at *
    rw [if_neg (by omega), if_neg (by omega)]
  · simp only [if_neg c] at *
    rw [if_neg (by omega), if_neg (by omega)]
theorem grantP_no {lo hi base inf sup val d : Int} (h : In7 lo hi base inf sup val d) (g : ¬ Gr lo hi base inf sup val d) : ∃ e : Int, e ≠ 0 ∧ grantP lo hi base inf sup val d = (lo, hi, base, inf, sup, val, e) := by
  unfold In7 at h
  unfold grantP
  by_cases c1 : GoodP lo hi base inf sup val
  · rw [if_neg (fun z => z c1)]
    by_cases c2 : d = 0 ∨ d = -9223372036854775808
    · rw [if_pos c2]; exact ⟨1, by decide, rfl⟩
    · rw [if_neg c2]
      have g' : ¬ (lo ≤ infOf inf d ∧ supOf sup d ≤ hi) := fun z => g ⟨c1, fun y => c2 (.inl y), fun y => c2 (.inr y), z.1, z.2⟩
      unfold infOf supOf at g'
      unfold GoodP at c1
      unfold In64 at h
      by_cases c : d < 0
      · simp only [if_pos c] at *
        by_cases c3 : inf + d < -9223372036854775808
        · rw [if_pos c3]; exact ⟨2, by decide, rfl⟩
        · rw [if_neg c3, if_pos (by omega)]; exact ⟨3, by decide, rfl⟩
      · simp only [if_neg c] at *
        by_cases c3 : sup + d > 9223372036854775807
        · rw [if_pos c3]; exact ⟨2, by decide, rfl⟩
        · rw [if_neg c3, if_pos (by omega)]; exact ⟨3, by decide, rfl⟩
  · rw [if_pos c1]; exact ⟨12, by decide, rfl⟩
def In6 : F6 → Prop
  | (x0, x1, x2, x3, x4, x5) => In64 x0 ∧ In64 x1 ∧ In64 x2 ∧ In64 x3 ∧ In64 x4 ∧ In64 x5
def Good6 : F6 → Prop
  | (x0, x1, x2, x3, x4, x5) => GoodP x0 x1 x2 x3 x4 x5
def sixOf (r : Int × Int × Int × Int × Int × Int × Int) : F6 × Int := ((r.1, r.2.1, r.2.2.1, r.2.2.2.1, r.2.2.2.2.1, r.2.2.2.2.2.1), r.2.2.2.2.2.2)
/-- What Grant makes of a field. -/
def grantOf : F6 → Int → F6 × Int
  | (x0, x1, x2, x3, x4, x5), d => sixOf (grantP x0 x1 x2 x3 x4 x5 d)
theorem makes_grant (x : F6) (d : Int) (h : In6 x) (hd : In64 d) : Makes 26 x d (grantOf x d).1 (grantOf x d).2 := by
  obtain ⟨x0, x1, x2, x3, x4, x5⟩ := x
  intro w
  exact field_Grant.calls x0 x1 x2 x3 x4 x5 d _ _ _ _ _ _ _ w (if_pos ⟨h.1, h.2.1, h.2.2.1, h.2.2.2.1, h.2.2.2.2.1, h.2.2.2.2.2, hd⟩)
/-- All that is held is in order. -/
def WF (M : Rowmap) : Prop := ∀ k x, M k = some x → In6 x ∧ Good6 x
theorem WF.put {M : Rowmap} (h : WF M) {x : F6} (k : Int × Int × Int) (hx : In6 x ∧ Good6 x) : WF (M.put k x) := by
  intro j y hy
  unfold Rowmap.put at hy
  split at hy
  · injection hy with hy; exact hy ▸ hx
  · exact h j y hy
/-- A declaration's numbers are of 64 bits. -/
def DIn (d : S60) : Prop := In64 d.f1 ∧ In64 d.f2 ∧ In64 d.f3
theorem WF.decl {M : Rowmap} (h : WF M) (d : S60) (hd : DIn d) : WF (addDecl M d) := by
  unfold addDecl newOf
  obtain ⟨h1, h2, h3⟩ := hd
  by_cases c : d.f1 ≤ d.f2 ∧ d.f2 ≤ d.f3
  · rw [if_pos c]
    exact h.put _ ⟨⟨h1, h3, h2, h2, h2, h2⟩, c.1, Int.le_refl _, Int.le_refl _, Int.le_refl _, Int.le_refl _, c.2⟩
  · rw [if_neg c]; exact h
theorem WF.new (l : List S60) (h : ∀ d ∈ l, DIn d) : WF (newMap l) := by
  have : ∀ (M : Rowmap), WF M → WF (l.foldl addDecl M) := by
    induction l with
    | nil => exact fun M h => h
    | cons d t ih => exact fun M hM => ih (fun x hx => h x (List.mem_cons_of_mem _ hx)) _ (hM.decl d (h d List.mem_cons_self))
  exact this _ (fun k x hx => by cases hx)
theorem grantOf_wf {x : F6} {d : Int} (hx : In6 x ∧ Good6 x) (hd : In64 d) : In6 (grantOf x d).1 ∧ Good6 (grantOf x d).1 := by
  obtain ⟨x0, x1, x2, x3, x4, x5⟩ := x
  obtain ⟨⟨h0, h1, h2, h3, h4, h5⟩, hg⟩ := hx
  have h7 : In7 x0 x1 x2 x3 x4 x5 d := ⟨h0, h1, h2, h3, h4, h5, hd⟩
  by_cases g : Gr x0 x1 x2 x3 x4 x5 d
  · simp only [grantOf, grantP_yes h7 g, sixOf]
    exact ⟨⟨h0, h1, h2, g.ins h7⟩, g.good⟩
  · obtain ⟨e, he, hr⟩ := grantP_no h7 g
    simp only [grantOf, hr, sixOf]
    exact ⟨⟨h0, h1, h2, h3, h4, h5⟩, hg⟩
theorem WF.step {M : Rowmap} (h : WF M) {how : F6 → Int → F6 × Int} {k : Int × Int × Int} {d : Int} (hh : ∀ x, M k = some x → In6 (how x d).1 ∧ Good6 (how x d).1) : WF (stepOf how M k d).1 := by
  unfold stepOf
  cases hM : M k with
  | none => exact h
  | some x =>
    simp only
    split
    · exact h.put _ (hh x hM)
    · exact h
/-- An addition: a key, a number. -/
structure S27 where
  f0 : S25
  f1 : Int
def z27 : S27 := ⟨z25, (0 : Int)⟩
def k27 : Kd S27 := Kd.iso (Kd.pair k25 (Kd.int .i64)) (fun x : S27 => (x.f0, x.f1))
theorem k27_open {w : World} {x : S27} {cs : List Value} (h : k27.K w x cs) : cs = [.int .u8 x.f0.f0, .int .u8 x.f0.f1, .int .u8 x.f0.f2, .int .i64 x.f1] := by
  obtain ⟨_, _, rfl, s0, rfl⟩ := h
  obtain rfl := k25_open s0
  exact rfl
theorem k27_mkM (w : World) (base : Nat) (ok : Nat → Prop) (x : S27)  : k27.M w base ok x [.int .u8 x.f0.f0, .int .u8 x.f0.f1, .int .u8 x.f0.f2, .int .i64 x.f1] := ⟨[.int .u8 x.f0.f0, .int .u8 x.f0.f1, .int .u8 x.f0.f2], [.int .i64 x.f1], rfl, (k25_mkM w base ok x.f0), rfl⟩
theorem k27_mk (w : World) (x : S27)  : k27.K w x [.int .u8 x.f0.f0, .int .u8 x.f0.f1, .int .u8 x.f0.f2, .int .i64 x.f1] := ⟨[.int .u8 x.f0.f0, .int .u8 x.f0.f1, .int .u8 x.f0.f2], [.int .i64 x.f1], rfl, (k25_mk w x.f0), rfl⟩
def rd_T27 (xs : List S27) (i : Int) : S27 := xs.getD i.toNat z27
theorem at_T27 {w : World} {A : Option Addr} {n : Nat} {xs : List S27} (h : Kd.C k27 w A n xs) (i : Int) (h0 : 0 ≤ i) (h1 : i < n) : ∃ ad , A = some ad ∧ w.cell? (ad.add (i.toNat * 4)) = some (.int .u8 (rd_T27 xs i).f0.f0) ∧ w.cell? ⟨(ad.add (i.toNat * 4)).block, (ad.add (i.toNat * 4)).off + 1, none⟩ = some (.int .u8 (rd_T27 xs i).f0.f1) ∧ w.cell? ⟨(ad.add (i.toNat * 4)).block, (ad.add (i.toNat * 4)).off + 2, none⟩ = some (.int .u8 (rd_T27 xs i).f0.f2) ∧ w.cell? ⟨(ad.add (i.toNat * 4)).block, (ad.add (i.toNat * 4)).off + 3, none⟩ = some (.int .i64 (rd_T27 xs i).f1) := by
  obtain ⟨ad, c, e, _, hK, hc0⟩ := Kd.C_get h z27 i h0 h1
  have hc : ∀ j u, c[j]? = some u → w.cell? (ad.add (i.toNat * 4 + j)) = some u := hc0
  obtain rfl := k27_open hK
  exact ⟨ad, e, hc 0 _ rfl, by rw [← add_field _ _ 1 (by omega)]; exact hc 1 _ rfl, by rw [← add_field _ _ 2 (by omega)]; exact hc 2 _ rfl, by rw [← add_field _ _ 3 (by omega)]; exact hc 3 _ rfl⟩
theorem info27 : (Try.prog.info? 27).map (fun i => (i.zero, i.size, i.bytes)) = some (some (.agg #[.int .u8 0, .int .u8 0, .int .u8 0, .int .i64 0]), 4, 16) := by kernel_rfl
def keyOf (o : S27) : Int × Int × Int := (o.f0.f0, o.f0.f1, o.f0.f2)
/-- An addition may be one. -/
def OIn (o : S27) : Prop := U8 o.f0.f0 ∧ U8 o.f0.f1 ∧ U8 o.f0.f2 ∧ In64 o.f1
/-- What is held behind additions. -/
def grants (M : Rowmap) (l : List S27) : Rowmap := l.foldl (fun M o => (stepOf grantOf M (keyOf o) o.f1).1) M
theorem grants_snoc (M : Rowmap) (l : List S27) (o : S27) : grants M (l ++ [o]) = (stepOf grantOf (grants M l) (keyOf o) o.f1).1 := by simp [grants]
theorem rd27_eq (l : List S27) (i : Nat) (h : i < l.length) : rd_T27 l (i : Int) = l[i] := by simp [rd_T27, h]
theorem take27 (l : List S27) (i : Nat) (h : i < l.length) : l.take (i + 1) = l.take i ++ [rd_T27 l (i : Int)] := by
  rw [rd27_eq l i h, List.take_append_getElem h]
theorem rd27_mem (l : List S27) (i : Nat) (h : i < l.length) : rd_T27 l (i : Int) ∈ l := by
  rw [rd27_eq l i h]; exact List.getElem_mem h
theorem WF.grant {M : Rowmap} (h : WF M) (o : S27) (ho : OIn o) : WF (stepOf grantOf M (keyOf o) o.f1).1 := h.step fun x hx => grantOf_wf (h _ x hx) ho.2.2.2
theorem WF.grants {M : Rowmap} (h : WF M) (l : List S27) (hl : ∀ o ∈ l, OIn o) : WF (V.grants M l) := by
  unfold V.grants
  induction l generalizing M with
  | nil => exact h
  | cons o t ih => exact ih (h.grant o (hl o List.mem_cons_self)) (fun x hx => hl x (List.mem_cons_of_mem _ hx))
theorem farV_eq {a b : Int} (ha : In64 a) (hb : In64 b) : farV a b = if b < a then 0 else if 9223372036854775808 ≤ b - a then 9223372036854775807 else b - a := by
  unfold In64 at ha hb
  unfold farV view_far.f calc_Dist.f calc_Fits.f
  by_cases h : b < a
  · rw [if_pos h, if_pos h]; simp [wrap64]
  · rw [if_neg h, if_neg h]
    have e : IntKind.u64.wrap (IntKind.u64.wrap b - IntKind.u64.wrap a) = b - a := by simp only [IntKind.wrap_u64]; omega
    rw [Option.bind_some, e]
    by_cases h2 : 9223372036854775808 ≤ b - a
    · rw [if_pos h2, if_pos h2]; simp
    · rw [if_neg h2, if_neg (by omega)]
      have e2 : wrap64 (b - a) = b - a := by unfold wrap64; omega
      simp [e2]
end Go.Proofs.Ytnipjfciphgfjaa.V
/- How the arguments of the laws of this seat read: rows of declarations, of additions, of truth values; an addition, a question. -/
namespace Go.Proofs.Ytnipjfciphgfjaa.V
open Go.ChangeShapes Go.WideShapes Go.ChangeAt Go.RowKit Go.Proofs.Ytnipjfciphgfjaa.G Go.Proofs.YtnipjfciphgfjaaW.PrintWords Go.Proofs.YtnipjfciphgfjaaW.PrintLast
set_option linter.unusedVariables false
set_option maxRecDepth 100000
section
variable {H : Type} {enc : TypeId × Value → H} {W : World} {base b0 : Nat} {spare : Nat → Bool} {held : Bool}
theorem trod_fields {P : Program} {t : TypeId} {fs : Array Field} {fuel : Nat} {cs : List Value} {x : DataW H × List MemPlace} (ht : P.underlying t = some (.struct fs)) (h : DataW.trod enc P W base spare held fuel t cs = some x) :
    ∃ n, cs.length = P.cellsOf t ∧ ∀ (i : Nat) (f : Field), fs[i]? = some f → ∃ y, DataW.trod enc P W base spare held n f.type ((cs.drop f.offset).take (P.cellsOf f.type)) = some y := by
  obtain ⟨xs, n, _, _, hl, hx, hg⟩ := DataW.trod_struct ht h
  refine ⟨n, hl, fun i f hf => ?_⟩
  have hi : i < xs.length := by rw [hx]; exact (Array.getElem?_eq_some_iff.1 hf).1
  exact ⟨xs[i], by rw [hg i f hf]; exact List.getElem?_eq_getElem hi⟩
theorem part_of {P : Program} {t : TypeId} {cs cs' : List Value} {k n m : Nat} {y : DataW H × List MemPlace} (hc : P.cellsOf t = m) (h : DataW.trod enc P W base spare held n t ((cs.drop k).take (P.cellsOf t)) = some y) (he : (cs.drop k).take m = cs') :
    DataW.trod enc P W base spare held n t cs' = some y := by rw [hc, he] at h; exact h
theorem cells2 : Try.prog.cellsOf 2 = 1 := by kernel_rfl
theorem cells3 : Try.prog.cellsOf 3 = 1 := by kernel_rfl
theorem cells4 : Try.prog.cellsOf 4 = 1 := by kernel_rfl
theorem cells27 : Try.prog.cellsOf 27 = 4 := by kernel_rfl
theorem cells60 : Try.prog.cellsOf 60 = 6 := by kernel_rfl
theorem cells36 : Try.prog.cellsOf 36 = 5 := by kernel_rfl
theorem wf_in {a : Int} (h : (Lit.int .i64 a).wf = true) : In64 a := by
  simp [Lit.wf, IntKind.min, IntKind.max, IntKind.signed, IntKind.bits] at h
  unfold In64; omega
theorem read_key {n : Nat} {cs : List Value} {x : DataW H × List MemPlace} (h : DataW.trod enc Try.prog W base spare held n 25 cs = some x) :
    ∃ a0 a1 a2, cs = [.int .u8 a0, .int .u8 a1, .int .u8 a2] ∧ U8 a0 ∧ U8 a1 ∧ U8 a2 := by
  obtain ⟨m, hl, hf⟩ := trod_fields Try.underlying25 h
  rw [cells25] at hl
  match cs, hl with
  | [c0, c1, c2], _ =>
  obtain ⟨y0, h0⟩ := hf 0 _ rfl
  obtain ⟨y1, h1⟩ := hf 1 _ rfl
  obtain ⟨y2, h2⟩ := hf 2 _ rfl
  obtain ⟨a0, e0, _, w0⟩ := DataW.trod_int Try.underlying5 (part_of (m := 1) cells5 h0 rfl)
  obtain ⟨a1, e1, _, w1⟩ := DataW.trod_int Try.underlying5 (part_of (m := 1) cells5 h1 rfl)
  obtain ⟨a2, e2, _, w2⟩ := DataW.trod_int Try.underlying5 (part_of (m := 1) cells5 h2 rfl)
  cases e0; cases e1; cases e2
  exact ⟨a0, a1, a2, rfl, w0, w1, w2⟩
theorem read_decl {n : Nat} {cs : List Value} {x : DataW H × List MemPlace} (h : DataW.trod enc Try.prog W base spare held n 60 cs = some x) :
    ∃ d : S60, k60.K W d cs ∧ DKey d ∧ DIn d := by
  obtain ⟨m, hl, hf⟩ := trod_fields Try.underlying60 h
  rw [cells60] at hl
  match cs, hl with
  | [c0, c1, c2, c3, c4, c5], _ =>
  obtain ⟨y0, h0⟩ := hf 0 _ rfl
  obtain ⟨y3, h3⟩ := hf 1 _ rfl
  obtain ⟨y4, h4⟩ := hf 2 _ rfl
  obtain ⟨y5, h5⟩ := hf 3 _ rfl
  obtain ⟨a0, a1, a2, e0, w0, w1, w2⟩ := read_key (part_of (m := 3) cells25 h0 rfl)
  obtain ⟨a3, e3, _, w3⟩ := DataW.trod_int Try.underlying2 (part_of (m := 1) cells2 h3 rfl)
  obtain ⟨a4, e4, _, w4⟩ := DataW.trod_int Try.underlying2 (part_of (m := 1) cells2 h4 rfl)
  obtain ⟨a5, e5, _, w5⟩ := DataW.trod_int Try.underlying2 (part_of (m := 1) cells2 h5 rfl)
  cases e0; cases e3; cases e4; cases e5
  exact ⟨⟨⟨a0, a1, a2⟩, a3, a4, a5⟩, k60_mk W _, ⟨w0, w1, w2⟩, wf_in w3, wf_in w4, wf_in w5⟩
theorem read_op {n : Nat} {cs : List Value} {x : DataW H × List MemPlace} (h : DataW.trod enc Try.prog W base spare held n 27 cs = some x) :
    ∃ a0 a1 a2 a3, cs = [.int .u8 a0, .int .u8 a1, .int .u8 a2, .int .i64 a3] ∧ U8 a0 ∧ U8 a1 ∧ U8 a2 ∧ In64 a3 := by
  obtain ⟨m, hl, hf⟩ := trod_fields Try.underlying27 h
  rw [cells27] at hl
  match cs, hl with
  | [c0, c1, c2, c3], _ =>
  obtain ⟨y0, h0⟩ := hf 0 _ rfl
  obtain ⟨y3, h3⟩ := hf 1 _ rfl
  obtain ⟨a0, a1, a2, e0, w0, w1, w2⟩ := read_key (part_of (m := 3) cells25 h0 rfl)
  obtain ⟨a3, e3, _, w3⟩ := DataW.trod_int Try.underlying2 (part_of (m := 1) cells2 h3 rfl)
  cases e0; cases e3
  exact ⟨a0, a1, a2, a3, rfl, w0, w1, w2, wf_in w3⟩
theorem read_op' {n : Nat} {cs : List Value} {x : DataW H × List MemPlace} (h : DataW.trod enc Try.prog W base spare held n 27 cs = some x) :
    ∃ o : S27, k27.K W o cs ∧ OIn o := by
  obtain ⟨a0, a1, a2, a3, rfl, w⟩ := read_op h
  exact ⟨⟨⟨a0, a1, a2⟩, a3⟩, k27_mk W _, w⟩
theorem read_ask {n : Nat} {cs : List Value} {x : DataW H × List MemPlace} (h : DataW.trod enc Try.prog W base spare held n 36 cs = some x) :
    ∃ a0 a1 a2 a3 a4, cs = [.int .u8 a0, .int .u8 a1, .int .u8 a2, .int .i64 a3, .int .i64 a4] ∧ U8 a0 ∧ U8 a1 ∧ U8 a2 ∧ In64 a3 ∧ In64 a4 := by
  obtain ⟨m, hl, hf⟩ := trod_fields Try.underlying36 h
  rw [cells36] at hl
  match cs, hl with
  | [c0, c1, c2, c3, c4], _ =>
  obtain ⟨y0, h0⟩ := hf 0 _ rfl
  obtain ⟨y3, h3⟩ := hf 1 _ rfl
  obtain ⟨y4, h4⟩ := hf 2 _ rfl
  obtain ⟨a0, a1, a2, e0, w0, w1, w2⟩ := read_key (part_of (m := 3) cells25 h0 rfl)
  obtain ⟨a3, e3, _, w3⟩ := DataW.trod_int Try.underlying3 (part_of (m := 1) cells3 h3 rfl)
  obtain ⟨a4, e4, _, w4⟩ := DataW.trod_int Try.underlying3 (part_of (m := 1) cells3 h4 rfl)
  cases e0; cases e3; cases e4
  exact ⟨a0, a1, a2, a3, a4, rfl, w0, w1, w2, wf_in w3, wf_in w4⟩
theorem read_bool {n : Nat} {cs : List Value} {x : DataW H × List MemPlace} (h : DataW.trod enc Try.prog W base spare held n 4 cs = some x) :
    ∃ b : Bool, Kd.bool.K W b cs ∧ True := by
  obtain ⟨b, e0, _⟩ := DataW.trod_bool Try.underlying4 h
  exact ⟨b, e0, trivial⟩
/-- A row of elements that read. -/
theorem read_rows {α : Type} (d : Kd α) (G : α → Prop) {t e : TypeId} {n : Nat} {cs : List Value} {x : DataW H × List MemPlace} (ht : Try.prog.underlying t = some (.slice e)) (hc : Try.prog.cellsOf e = d.sz)
    (hr : ∀ n cs x, DataW.trod enc Try.prog W base spare held n e cs = some x → ∃ p : α, d.K W p cs ∧ G p) (h : DataW.trod enc Try.prog W base spare held n t cs = some x) :
    ∃ A l c, cs = [.slice A (List.length l) c] ∧ l.length ≤ c ∧ l.length ≤ maxLen ∧ d.C W A l.length l ∧ ∀ p ∈ l, G p := by
  rcases DataW.trod_slice ht h with ⟨rfl, _⟩ | ⟨a, len, cap, elems, rest, m, _, rfl, _, hb, hl, hm, hlen, hel, _, _⟩
  · exact ⟨none, [], 0, rfl, Nat.le_refl _, Nat.zero_le _, ⟨rfl, Nat.zero_le _, fun h => absurd h (Nat.lt_irrefl 0)⟩, by intro p hp; cases hp⟩
  · have key : ∀ k, k ≤ len → ∃ l : List α, l.length = k ∧ (∀ p ∈ l, G p) ∧ ∀ j p, l[j]? = some p → ∃ c, c.length = d.sz ∧ d.K W p c ∧ ∀ i u, c[i]? = some u → W.cell? (a.add (j * d.sz + i)) = some u := by
      intro k
      induction k with
      | zero => exact fun _ => ⟨[], rfl, (by intro p hp; cases hp), (by intro j p hj; simp at hj)⟩
      | succ k ih =>
        intro hk
        obtain ⟨l, h1, h2, h3⟩ := ih (by omega)
        have he := hel k (by omega)
        rw [List.getElem?_eq_getElem (by omega), Option.bind_eq_some_iff] at he
        obtain ⟨c, hc1, hc2⟩ := he
        obtain ⟨p, hp, hg⟩ := hr _ _ _ hc2
        obtain ⟨_, hcl, hcell⟩ := World.cells?_some hc1
        rw [hc] at hcl hcell
        refine ⟨l ++ [p], by simp [h1], fun q hq => ?_, fun j q hj => ?_⟩
        · rcases List.mem_append.1 hq with hq | hq
          · exact h2 q hq
          · obtain rfl := List.mem_singleton.1 hq; exact hg
        · rcases Nat.lt_or_ge j l.length with hjl | hjl
          · rw [List.getElem?_append_left hjl] at hj
            exact h3 j q hj
          · rw [List.getElem?_append_right hjl] at hj
            have hj0 : j - l.length = 0 := by
              have := (List.getElem?_eq_some_iff.1 hj).1
              simp at this; omega
            rw [hj0] at hj
            obtain rfl : p = q := by simpa using hj
            obtain rfl : j = k := by omega
            refine ⟨c, hcl, hp, fun i u hu => ?_⟩
            have hi : i < d.sz := by rw [← hcl]; exact (List.getElem?_eq_some_iff.1 hu).1
            have := hcell i hi
            rw [hu] at this
            rw [← this, Addr.add_add]
    obtain ⟨l, h1, h2, h3⟩ := key len (Nat.le_refl _)
    subst h1
    exact ⟨some a, l, cap, rfl, hl, by omega, ⟨rfl, by have : maxLen = 9223372036854775807 := rfl; omega, fun _ => ⟨a, rfl, h3⟩⟩, h2⟩
theorem open_rows {α : Type} (d : Kd α) (G : α → Prop) {t e : TypeId} {v : Value} {D : DataW H} {p : List MemPlace} (ht : Try.prog.underlying t = some (.slice e)) (hc : Try.prog.cellsOf e = d.sz)
    (hr : ∀ n cs x, DataW.trod enc Try.prog W base spare held n e cs = some x → ∃ p : α, d.K W p cs ∧ G p) (hv : Value.okWide Try.prog W .any b0 t v) (h : DataW.Trod enc Try.prog W base spare held t v D p) :
    ∃ A l c, v = .slice A (List.length l) c ∧ l.length ≤ c ∧ l.length ≤ maxLen ∧ d.C W A l.length l ∧ ∀ p ∈ l, G p := by
  obtain ⟨a, len, cap, rfl⟩ := okWide_slice ht hv
  obtain ⟨fuel, hf⟩ := h
  obtain ⟨A, l, c, e, r⟩ := read_rows d G ht hc hr hf
  simp [Value.cells] at e
  obtain ⟨rfl, rfl, rfl⟩ := e
  exact ⟨_, l, _, rfl, r⟩
theorem open_op {v : Value} {D : DataW H} {p : List MemPlace} (hv : Value.okWide Try.prog W .any b0 27 v) (h : DataW.Trod enc Try.prog W base spare held 27 v D p) :
    ∃ a0 a1 a2 a3, v = .agg #[.int .u8 a0, .int .u8 a1, .int .u8 a2, .int .i64 a3] ∧ U8 a0 ∧ U8 a1 ∧ U8 a2 ∧ In64 a3 := by
  obtain ⟨⟨l⟩, rfl, _⟩ := okWide_struct Try.underlying27 hv
  obtain ⟨fuel, hf⟩ := h
  obtain ⟨a0, a1, a2, a3, e, w⟩ := read_op hf
  obtain rfl : l = _ := e
  exact ⟨a0, a1, a2, a3, rfl, w⟩
theorem open_ask {v : Value} {D : DataW H} {p : List MemPlace} (hv : Value.okWide Try.prog W .any b0 36 v) (h : DataW.Trod enc Try.prog W base spare held 36 v D p) :
    ∃ a0 a1 a2 a3 a4, v = .agg #[.int .u8 a0, .int .u8 a1, .int .u8 a2, .int .i64 a3, .int .i64 a4] ∧ U8 a0 ∧ U8 a1 ∧ U8 a2 ∧ In64 a3 ∧ In64 a4 := by
  obtain ⟨⟨l⟩, rfl, _⟩ := okWide_struct Try.underlying36 hv
  obtain ⟨fuel, hf⟩ := h
  obtain ⟨a0, a1, a2, a3, a4, e, w⟩ := read_ask hf
  obtain rfl : l = _ := e
  exact ⟨a0, a1, a2, a3, a4, rfl, w⟩
end
theorem own : ownKnob Try.prog.godebug = none := by kernel_rfl
end Go.Proofs.Ytnipjfciphgfjaa.V
/- What functions of the program answer, for all inputs of which their Lean functions tell an answer; printed by a program of this session with the kit's printer, over contracts that this session proved by hand. -/
namespace Go.Proofs.Ytnipjfciphgfjaa.G
open Go.RowKit Go.Proofs.YtnipjfciphgfjaaW.PrintWords Go.Proofs.YtnipjfciphgfjaaW.PrintLast Go.Proofs.YtnipjfciphgfjaaW.PrintMore
attribute [local go_sem] max2_int min2_int max_two min_two max_three min_three max_four min_four   -- for this text's walks alone
set_option linter.unusedVariables false
set_option linter.unusedSimpArgs false

/-! ### field_Settle: function 38 -/
theorem two_set (w : World) (c1 : Array Value) (T : TypeId) (x y x' y' : Value) (nd : Nat) :
    ((((w.alloc (.cells c1 T)).alloc (.cells #[x, y] T)).drewN nd).setCell ⟨w.heap.size + 1, 0, none⟩ x').setCell ⟨w.heap.size + 1, 1, none⟩ y' = ((w.alloc (.cells c1 T)).alloc (.cells #[x', y'] T)).drewN nd := by
  show ((((w.alloc (.cells c1 T)).alloc (.cells #[x, y] T)).setCell ⟨w.heap.size + 1, 0, none⟩ x').setCell ⟨w.heap.size + 1, 1, none⟩ y').drewN nd = _
  rw [World.setCell_alloc_at _ _ _ _ _ (by simp), World.setCell_alloc_at _ _ _ _ _ (by simp)]
  rfl
theorem part_more_t (n d x : Int) (o : Bool) (w : World) (ha : calc_Add.f n d = some (x, o)) :
    Calls Try.prog 56 #[.agg #[.int .i64 n, .bool true], .int .i64 d] w fun e w' => e = .returned (.agg #[.int .i64 x, .bool o]) ∧ ∃ (nd : Nat) (c1 c2 : Array Value), w' = (((w.alloc (.cells c1 108)).alloc (.cells c2 108)).drewN nd) := by
  have HA := Aside0.mk ha
  clear ha
  cases o <;>
  · go_enter Try.func56, Try.ntmps56
    go_wp2_with (go_at_call 43; ((with_reducible refine (calc_Add.calls _ _ _ _ _ HA.out).mono ?_); rintro e w2 ⟨rfl, ⟨nd, rfl⟩⟩))
    refine bodyPost_ret (v := .agg #[.int .i64 x, .bool _]) (by simp [results, Try.results56, go_sem]) rfl ⟨rfl, nd, #[.int .i64 n, .bool true], #[.int .i64 x, .bool _], two_set w _ 108 _ _ _ _ nd⟩
theorem part_less_t (n d x : Int) (o : Bool) (w : World) (ha : calc_Sub.f n d = some (x, o)) :
    Calls Try.prog 57 #[.agg #[.int .i64 n, .bool true], .int .i64 d] w fun e w' => e = .returned (.agg #[.int .i64 x, .bool o]) ∧ ∃ (nd : Nat) (c1 c2 : Array Value), w' = (((w.alloc (.cells c1 108)).alloc (.cells c2 108)).drewN nd) := by
  have HA := Aside0.mk ha
  clear ha
  cases o <;>
  · go_enter Try.func57, Try.ntmps57
    go_wp2_with (go_at_call 61; ((with_reducible refine (calc_Sub.calls _ _ _ _ _ HA.out).mono ?_); rintro e w2 ⟨rfl, ⟨nd, rfl⟩⟩))
    refine bodyPost_ret (v := .agg #[.int .i64 x, .bool _]) (by simp [results, Try.results57, go_sem]) rfl ⟨rfl, nd, #[.int .i64 n, .bool true], #[.int .i64 x, .bool _], two_set w _ 108 _ _ _ _ nd⟩
theorem part_still_t (n d : Int) (w : World) :
    Calls Try.prog 55 #[.agg #[.int .i64 n, .bool true], .int .i64 d] w fun e w' => e = .returned (.agg #[.int .i64 n, .bool true]) ∧ ∃ (nd : Nat) (c1 c2 : Array Value), w' = (((w.alloc (.cells c1 108)).alloc (.cells c2 108)).drewN nd) := by
  go_enter Try.func55, Try.ntmps55
  go_wp2
  refine bodyPost_ret (v := .agg #[.int .i64 n, .bool true]) (by simp [results, Try.results55, go_sem]) rfl ⟨rfl, 0, #[.int .i64 n, .bool true], #[.int .i64 n, .bool true], rfl⟩
/-- Two cells at once: what a world holds beside what it keeps of another one. -/
theorem keepTwo {w1 W : World} {p q : Addr} {x y : Value} (h2 : w1.cell? p = some x) (h5 : w1.cell? q = some y) (hb : Below w1.heap.size w1 W) :
    Below w1.heap.size w1 W ∧ W.cell? p = some x ∧ W.cell? q = some y :=
  ⟨hb, (hb.cell (World.block_lt_of_cell? _ _ h2)).trans h2, (hb.cell (World.block_lt_of_cell? _ _ h5)).trans h5⟩
theorem allocB {w1 W : World} {o : Obj} (h : Below w1.heap.size w1 W) : Below w1.heap.size w1 (W.alloc o) := h.alloc h.size _
theorem belowDN {B n : Nat} {a b : World} (h : Below B a b) : Below B a (b.drewN n) := pw_below_drewN h n
theorem setB {w1 W : World} {n i : Nat} {v : Value} (h : Below w1.heap.size w1 W) (hn : w1.heap.size ≤ n) : Below w1.heap.size w1 (W.setCell ⟨n, i, none⟩ v) := h.setCell hn _
/-- What is left behind a statement that makes two parts: two new blocks that hold them. -/
def TwoParts (w1 : World) (b1 b2 : Nat) (x : Int) (xo : Bool) (y : Int) (yo : Bool) (W : World) : Prop :=
  Below w1.heap.size w1 W ∧ w1.heap.size ≤ b1 ∧ w1.heap.size ≤ b2 ∧ W.cell? ⟨b1, 0, none⟩ = some (.int .i64 x) ∧ W.cell? ⟨b1, 1, none⟩ = some (.bool xo) ∧ W.cell? ⟨b2, 0, none⟩ = some (.int .i64 y) ∧ W.cell? ⟨b2, 1, none⟩ = some (.bool yo)
theorem keepCell {B : Nat} {W W' : World} {p : Addr} {v : Value} (hb : Below B W W') (h : W.cell? p = some v) (hp : p.block < B) : W'.cell? p = some v := (hb.cell hp).trans h
theorem keepFrozen {B : Nat} {W W' : World} {p : Addr} {v : Bool} (hb : Below B W W') (h : W.frozen? p = v) (hp : p.block < B) : W'.frozen? p = v := (hb.frozen hp).trans h
theorem sub_fit (a b : Int) (ha : -9223372036854775808 ≤ a ∧ a ≤ 9223372036854775807) (hb : -9223372036854775808 ≤ b ∧ b ≤ 9223372036854775807) : calc_Sub.f a b = some (fit (a - b)) := by
  have hs : -9223372036854775808 ≤ wrap64 (a - b) ∧ wrap64 (a - b) ≤ 9223372036854775807 := by unfold wrap64; omega
  have h := sign_of a b a (wrap64 (a - b)) ha hb ha hs
  unfold calc_Sub.f fit
  by_cases c : -9223372036854775808 ≤ a - b ∧ a - b ≤ 9223372036854775807
  · have e : wrap64 (a - b) = a - b := by unfold wrap64; omega
    rw [if_pos c, if_neg, e]
    rw [h, e]
    by_cases c1 : a < 0 <;> by_cases c2 : b < 0 <;> by_cases c3 : a - b < 0 <;> simp [c1, c2, c3] <;> omega
  · rw [if_neg c, if_pos]
    rw [h]
    have e : (a < 0 ∧ ¬ b < 0 ∧ ¬ wrap64 (a - b) < 0) ∨ (¬ a < 0 ∧ b < 0 ∧ wrap64 (a - b) < 0) := by unfold wrap64; omega
    rcases e with ⟨e1, e2, e3⟩ | ⟨e1, e2, e3⟩ <;> simp [e1, e2, e3]
/-- What a move makes of a field: v, b, i, s are what value, base, inf and sup would come to. -/
def moveP (lo hi base inf sup val d v b i s : Int) : Int × Int × Int × Int × Int × Int × Int :=
  if ¬ GoodP lo hi base inf sup val then (lo, hi, base, inf, sup, val, 12)
  else if d = 0 ∨ d = -9223372036854775808 then (lo, hi, base, inf, sup, val, 1)
  else if In64 v ∧ In64 b ∧ In64 i ∧ In64 s ∧ GoodP lo hi b i s v then (lo, hi, b, i, s, v, 0) else (lo, hi, base, inf, sup, val, 12)
theorem fit_snd (x : Int) : (fit x).2 = decide (In64 x) := by
  unfold fit In64; split
  · rename_i h; exact (decide_eq_true h).symm
  · rename_i h; exact (decide_eq_false h).symm
theorem fit_fst {x : Int} (h : In64 x) : (fit x).1 = x := by rw [fit_in h]
theorem fit_pair (x : Int) : fit x = ((fit x).1, (fit x).2) := rfl
set_option maxHeartbeats 2000000 in
set_option maxRecDepth 100000 in
/-- What is wrong is told first. -/
theorem move_wrong (a0_0 : Int) (a0_1 : Int) (a0_2 : Int) (a0_3 : Int) (a0_4 : Int) (a0_5 : Int) (a1 x : Int) (g1 g2 g3 g4 : FuncId) (w : World) (hw : field_wrong.f a0_0 a0_1 a0_2 a0_3 a0_4 a0_5 a1 = some x) (hx : (x != 0) = true) :
    Calls Try.prog 54 #[.agg #[.int .i64 a0_0, .int .i64 a0_1, .int .i64 a0_2, .int .i64 a0_3, .int .i64 a0_4, .int .i64 a0_5], .int .i64 a1, .func (.func g1) #[] #[], .func (.func g2) #[] #[], .func (.func g3) #[] #[], .func (.func g4) #[] #[]] w fun e w' => e = .returned (.tuple #[.agg #[.int .i64 a0_0, .int .i64 a0_1, .int .i64 a0_2, .int .i64 a0_3, .int .i64 a0_4, .int .i64 a0_5], .int .i64 x]) ∧ Below w.heap.size w w' := by
  have HW := Aside0.mk hw
  clear hw
  go_enter Try.func54, Try.ntmps54
  go_wp2_with (go_at_call 42; ((with_reducible refine (field_wrong.calls _ _ _ _ _ _ _ _ _ HW.out).mono ?_); rintro e w1 ⟨rfl, hb⟩; obtain ⟨hc, hf⟩ := bcell hb))
  refine bodyPost_ret (v := .tuple #[.agg #[.int .i64 a0_0, .int .i64 a0_1, .int .i64 a0_2, .int .i64 a0_3, .int .i64 a0_4, .int .i64 a0_5], .int .i64 x]) (by simp [results, Try.results54, go_sem, hc]) rfl ⟨rfl, ?_⟩
  (with_reducible repeat (first | refine bset0 ?_ | refine bset1 ?_))
  exact ((Below.refl _ _).alloc (Nat.le_refl _) _ |>.alloc (by simp) _).trans (hb.mono (by simp; omega))
set_option maxHeartbeats 16000000 in
set_option maxRecDepth 100000 in
theorem move_settle_pos (a0_0 : Int) (a0_1 : Int) (a0_2 : Int) (a0_3 : Int) (a0_4 : Int) (a0_5 : Int) (a1 : Int) (b : Int) (bo : Bool) (i : Int) (io : Bool) (gd : Bool) (w : World) (hw : field_wrong.f a0_0 a0_1 a0_2 a0_3 a0_4 a0_5 a1 = some 0) (hd : decide (a1 < 0) = false) (hb : calc_Add.f a0_2 a1 = some (b, bo)) (hi : calc_Add.f a0_3 a1 = some (i, io)) (hg : field_Good.f a0_0 a0_1 b i a0_4 a0_5 = some gd) (r : Array Value) (c : Int) (hr : (r, c) = if bo = true ∧ io = true ∧ gd = true then (#[.int .i64 a0_0, .int .i64 a0_1, .int .i64 b, .int .i64 i, .int .i64 a0_4, .int .i64 a0_5], 0) else (#[.int .i64 a0_0, .int .i64 a0_1, .int .i64 a0_2, .int .i64 a0_3, .int .i64 a0_4, .int .i64 a0_5], 12)) :
    Calls Try.prog 54 #[.agg #[.int .i64 a0_0, .int .i64 a0_1, .int .i64 a0_2, .int .i64 a0_3, .int .i64 a0_4, .int .i64 a0_5], .int .i64 a1, .func (.func 55) #[] #[], .func (.func 56) #[] #[], .func (.func 56) #[] #[], .func (.func 55) #[] #[]] w fun e w' => e = .returned (.tuple #[.agg r, .int .i64 c]) ∧ Below w.heap.size w w' := by
  have HW := Aside0.mk hw
  have HB := Aside0.mk hb
  have HI := Aside0.mk hi
  have HG := Aside0.mk hg
  have HR := Aside0.mk hr
  clear hw hg hr hb hi
  go_enter Try.func54, Try.ntmps54
  go_wp2_with (go_at_call 42; ((with_reducible refine (field_wrong.calls _ _ _ _ _ _ _ _ _ HW.out).mono ?_); rintro e w1 ⟨rfl, hb⟩; obtain ⟨hc, hf⟩ := bcell hb; have hz : w.heap.size + 1 < w1.heap.size := (by have := hb.size; simp at this; omega)))
  have k0 : w1.cell? ⟨w.heap.size, 0, none⟩ = some (.int .i64 a0_0) := by simp [hc, go_sem]
  have k1 : w1.cell? ⟨w.heap.size, 1, none⟩ = some (.int .i64 a0_1) := by simp [hc, go_sem]
  have k2 : w1.cell? ⟨w.heap.size, 2, none⟩ = some (.int .i64 a0_2) := by simp [hc, go_sem]
  have k3 : w1.cell? ⟨w.heap.size, 3, none⟩ = some (.int .i64 a0_3) := by simp [hc, go_sem]
  have k4 : w1.cell? ⟨w.heap.size, 4, none⟩ = some (.int .i64 a0_4) := by simp [hc, go_sem]
  have k5 : w1.cell? ⟨w.heap.size, 5, none⟩ = some (.int .i64 a0_5) := by simp [hc, go_sem]
  have m0 : w1.cell? ⟨w.heap.size + 1, 0, none⟩ = some (.int .i64 0) := by simp [hc, go_sem]
  have n0 : w1.frozen? ⟨w.heap.size + 1, 0, none⟩ = false := by simp [hf, go_sem]
  have m1 : w1.cell? ⟨w.heap.size + 1, 1, none⟩ = some (.int .i64 0) := by simp [hc, go_sem]
  have n1 : w1.frozen? ⟨w.heap.size + 1, 1, none⟩ = false := by simp [hf, go_sem]
  have m2 : w1.cell? ⟨w.heap.size + 1, 2, none⟩ = some (.int .i64 0) := by simp [hc, go_sem]
  have n2 : w1.frozen? ⟨w.heap.size + 1, 2, none⟩ = false := by simp [hf, go_sem]
  have m3 : w1.cell? ⟨w.heap.size + 1, 3, none⟩ = some (.int .i64 0) := by simp [hc, go_sem]
  have n3 : w1.frozen? ⟨w.heap.size + 1, 3, none⟩ = false := by simp [hf, go_sem]
  have m4 : w1.cell? ⟨w.heap.size + 1, 4, none⟩ = some (.int .i64 0) := by simp [hc, go_sem]
  have n4 : w1.frozen? ⟨w.heap.size + 1, 4, none⟩ = false := by simp [hf, go_sem]
  have m5 : w1.cell? ⟨w.heap.size + 1, 5, none⟩ = some (.int .i64 0) := by simp [hc, go_sem]
  have n5 : w1.frozen? ⟨w.heap.size + 1, 5, none⟩ = false := by simp [hf, go_sem]
  have K0 := Aside0.mk k0
  have M0 := Aside0.mk m0
  have N0 := Aside0.mk n0
  have K1 := Aside0.mk k1
  have M1 := Aside0.mk m1
  have N1 := Aside0.mk n1
  have K2 := Aside0.mk k2
  have M2 := Aside0.mk m2
  have N2 := Aside0.mk n2
  have K3 := Aside0.mk k3
  have M3 := Aside0.mk m3
  have N3 := Aside0.mk n3
  have K4 := Aside0.mk k4
  have M4 := Aside0.mk m4
  have N4 := Aside0.mk n4
  have K5 := Aside0.mk k5
  have M5 := Aside0.mk m5
  have N5 := Aside0.mk n5
  clear k0 k1 k3 k4 m0 m1 m2 m3 m4 m5 n0 n1 n2 n3 n4 n5
  have hbw : Below w.heap.size w w1 := ((Below.refl _ _).alloc (Nat.le_refl _) _ |>.alloc (by simp) _).trans (hb.mono (by simp; omega))
  have HBW := Aside0.mk hbw
  clear hb hbw hc hf
  go_cut [15, 16] (fun p1 p2 wc => ∃ b1 b2 : Nat, p1 = .pointer (some ⟨b1, 0, none⟩) ∧ p2 = .pointer (some ⟨b2, 0, none⟩) ∧ TwoParts w1 b1 b2 a0_5 true b bo wc)
  case first =>
    go_region_held3 (fun w' => Below w1.heap.size w1 w' ∧ w'.cell? ⟨w.heap.size, 5, none⟩ = some (.int .i64 a0_5) ∧ w'.cell? ⟨w.heap.size, 2, none⟩ = some (.int .i64 a0_2)) (with_reducible ((refine keepTwo k5 k2 ?_); (with_reducible (repeat (first | exact Below.refl _ _ | refine Below.drew ?_ | refine belowDN ?_ | refine allocB ?_ | refine setB ?_ ?_ | omega))))) (first | (go_at_call 55; ((with_reducible refine (part_still_t _ _ _).mono ?_); rintro e w' ⟨rfl, nd, c1, c2, rfl⟩)) | (go_at_call 56; ((with_reducible refine (part_more_t _ _ _ _ _ HB.out).mono ?_); rintro e w' ⟨rfl, nd, c1, c2, rfl⟩)))
    all_goals
      go_wp2
      go_meet
      case rel => exact ⟨_, _, rfl, rfl, (by (with_reducible (repeat (first | exact Below.refl _ _ | refine Below.drew ?_ | refine belowDN ?_ | refine allocB ?_ | refine setB ?_ ?_ | omega)))), (by omega), (by omega), (by (first | (simp [go_sem]; done) | ((with_reducible refine World.cell?_setCell_same' _ _ _ ?_); (simp [go_sem]; done)) | (simp [go_sem]; (with_reducible refine World.cell?_setCell_same' _ _ _ ?_); (simp [go_sem]; done)))), (by (first | (simp [go_sem]; done) | ((with_reducible refine World.cell?_setCell_same' _ _ _ ?_); (simp [go_sem]; done)) | (simp [go_sem]; (with_reducible refine World.cell?_setCell_same' _ _ _ ?_); (simp [go_sem]; done)))), (by (first | (simp [go_sem]; done) | ((with_reducible refine World.cell?_setCell_same' _ _ _ ?_); (simp [go_sem]; done)) | (simp [go_sem]; (with_reducible refine World.cell?_setCell_same' _ _ _ ?_); (simp [go_sem]; done)))), (by (first | (simp [go_sem]; done) | ((with_reducible refine World.cell?_setCell_same' _ _ _ ?_); (simp [go_sem]; done)) | (simp [go_sem]; (with_reducible refine World.cell?_setCell_same' _ _ _ ?_); (simp [go_sem]; done))))⟩
  case rest =>
    rename World => w2
    obtain ⟨b1, b2, rfl, rfl, hB1, g1, g2, d0, d1, d2, d3⟩ := hcut
    have p3 := keepCell hB1 K3.out (show w.heap.size < w1.heap.size by omega)
    have p4 := keepCell hB1 K4.out (show w.heap.size < w1.heap.size by omega)
    have hz1 := hB1.size
    have H1 := Aside0.mk hB1
    have D0 := Aside0.mk d0
    have D1 := Aside0.mk d1
    have D2 := Aside0.mk d2
    have D3 := Aside0.mk d3
    clear hB1 k2 k5 d0 d1 d2 d3
    go_upto_region 7 with (fail)
    go_cut [17, 18] (fun p1 p2 wc => ∃ b1 b2 : Nat, p1 = .pointer (some ⟨b1, 0, none⟩) ∧ p2 = .pointer (some ⟨b2, 0, none⟩) ∧ TwoParts w2 b1 b2 i io a0_4 true wc)
    case first =>
      go_region_held3 (fun w' => Below w2.heap.size w2 w' ∧ w'.cell? ⟨w.heap.size, 3, none⟩ = some (.int .i64 a0_3) ∧ w'.cell? ⟨w.heap.size, 4, none⟩ = some (.int .i64 a0_4)) (with_reducible ((refine keepTwo p3 p4 ?_); (with_reducible (repeat (first | exact Below.refl _ _ | refine Below.drew ?_ | refine belowDN ?_ | refine allocB ?_ | refine setB ?_ ?_ | omega))))) (first | (go_at_call 56; ((with_reducible refine (part_more_t _ _ _ _ _ HI.out).mono ?_); rintro e w' ⟨rfl, nd, c1, c2, rfl⟩)) | (go_at_call 55; ((with_reducible refine (part_still_t _ _ _).mono ?_); rintro e w' ⟨rfl, nd, c1, c2, rfl⟩)))
      all_goals
        go_wp2
        go_meet
        case rel => exact ⟨_, _, rfl, rfl, (by (with_reducible (repeat (first | exact Below.refl _ _ | refine Below.drew ?_ | refine belowDN ?_ | refine allocB ?_ | refine setB ?_ ?_ | omega)))), (by omega), (by omega), (by (first | (simp [go_sem]; done) | ((with_reducible refine World.cell?_setCell_same' _ _ _ ?_); (simp [go_sem]; done)) | (simp [go_sem]; (with_reducible refine World.cell?_setCell_same' _ _ _ ?_); (simp [go_sem]; done)))), (by (first | (simp [go_sem]; done) | ((with_reducible refine World.cell?_setCell_same' _ _ _ ?_); (simp [go_sem]; done)) | (simp [go_sem]; (with_reducible refine World.cell?_setCell_same' _ _ _ ?_); (simp [go_sem]; done)))), (by (first | (simp [go_sem]; done) | ((with_reducible refine World.cell?_setCell_same' _ _ _ ?_); (simp [go_sem]; done)) | (simp [go_sem]; (with_reducible refine World.cell?_setCell_same' _ _ _ ?_); (simp [go_sem]; done)))), (by (first | (simp [go_sem]; done) | ((with_reducible refine World.cell?_setCell_same' _ _ _ ?_); (simp [go_sem]; done)) | (simp [go_sem]; (with_reducible refine World.cell?_setCell_same' _ _ _ ?_); (simp [go_sem]; done))))⟩
    case rest =>
      obtain ⟨b3, b4, rfl, rfl, hB3, g3, g4, d4, d5, d6, d7⟩ := hcut
      have hz3 := hB3.size
      have hB4 := H1.out.trans (hB3.mono hz1)
      have q0 := keepCell hB4 K0.out (show w.heap.size < w1.heap.size by omega)
      have r0 := keepCell hB4 M0.out (show w.heap.size + 1 < w1.heap.size by omega)
      have s0 := keepFrozen hB4 N0.out (show w.heap.size + 1 < w1.heap.size by omega)
      have q1 := keepCell hB4 K1.out (show w.heap.size < w1.heap.size by omega)
      have r1 := keepCell hB4 M1.out (show w.heap.size + 1 < w1.heap.size by omega)
      have s1 := keepFrozen hB4 N1.out (show w.heap.size + 1 < w1.heap.size by omega)
      have q2 := keepCell hB4 K2.out (show w.heap.size < w1.heap.size by omega)
      have r2 := keepCell hB4 M2.out (show w.heap.size + 1 < w1.heap.size by omega)
      have s2 := keepFrozen hB4 N2.out (show w.heap.size + 1 < w1.heap.size by omega)
      have q3 := keepCell hB4 K3.out (show w.heap.size < w1.heap.size by omega)
      have r3 := keepCell hB4 M3.out (show w.heap.size + 1 < w1.heap.size by omega)
      have s3 := keepFrozen hB4 N3.out (show w.heap.size + 1 < w1.heap.size by omega)
      have q4 := keepCell hB4 K4.out (show w.heap.size < w1.heap.size by omega)
      have r4 := keepCell hB4 M4.out (show w.heap.size + 1 < w1.heap.size by omega)
      have s4 := keepFrozen hB4 N4.out (show w.heap.size + 1 < w1.heap.size by omega)
      have q5 := keepCell hB4 K5.out (show w.heap.size < w1.heap.size by omega)
      have r5 := keepCell hB4 M5.out (show w.heap.size + 1 < w1.heap.size by omega)
      have s5 := keepFrozen hB4 N5.out (show w.heap.size + 1 < w1.heap.size by omega)
      have d0 := keepCell hB3 D0.out (World.block_lt_of_cell? _ _ D0.out)
      have d1 := keepCell hB3 D1.out (World.block_lt_of_cell? _ _ D1.out)
      have d2 := keepCell hB3 D2.out (World.block_lt_of_cell? _ _ D2.out)
      have d3 := keepCell hB3 D3.out (World.block_lt_of_cell? _ _ D3.out)
      have hz5 := World.block_lt_of_cell? _ _ d4
      have hz6 := World.block_lt_of_cell? _ _ d6
      have hz7 := World.block_lt_of_cell? _ _ d0
      have hz8 := World.block_lt_of_cell? _ _ d2
      have HB5 := Aside0.mk (HBW.out.trans (hB4.mono (show w.heap.size ≤ w1.heap.size by omega)))
      clear HBW hB3 hB4 H1 K0 M0 N0 K1 M1 N1 K2 M2 N2 K3 M3 N3 K4 M4 N4 K5 M5 N5
      have hz9 : w.heap.size + 1 < wc.heap.size := by omega
      have hz10 : w.heap.size < wc.heap.size := by omega
      have hr := HR.out
      clear hz1 hz3 g1 g2 g3 g4 HR HW
      cases bo
      · obtain ⟨rfl, rfl⟩ := Prod.mk.inj (hr.trans (if_neg (by simp)))
        go_wp2_with (fail)
        refine bodyPost_ret (v := .tuple #[.agg #[.int .i64 a0_0, .int .i64 a0_1, .int .i64 a0_2, .int .i64 a0_3, .int .i64 a0_4, .int .i64 a0_5], .int .i64 12]) (by simp [results, Try.results54, go_sem, r0, r1, r2, r3, r4, r5, hz9]) rfl ⟨rfl, ?_⟩
        (with_reducible repeat (first | refine bset1 ?_ | refine below_drewN' ?_ _ | refine allocB ?_))
        with_reducible exact HB5.out
      · skip
        cases io
        · obtain ⟨rfl, rfl⟩ := Prod.mk.inj (hr.trans (if_neg (by simp)))
          go_wp2_with (fail)
          refine bodyPost_ret (v := .tuple #[.agg #[.int .i64 a0_0, .int .i64 a0_1, .int .i64 a0_2, .int .i64 a0_3, .int .i64 a0_4, .int .i64 a0_5], .int .i64 12]) (by simp [results, Try.results54, go_sem, r0, r1, r2, r3, r4, r5, hz9]) rfl ⟨rfl, ?_⟩
          (with_reducible repeat (first | refine bset1 ?_ | refine below_drewN' ?_ _ | refine allocB ?_))
          with_reducible exact HB5.out
        · skip
          cases gd
          · obtain ⟨rfl, rfl⟩ := Prod.mk.inj (hr.trans (if_neg (by simp)))
            go_wp2_with (go_at_call 40; ((with_reducible refine (field_Good.calls _ _ _ _ _ _ _ _ HG.out).mono ?_); rintro e w5 ⟨rfl, hb⟩; have hb5 : Below wc.heap.size wc w5 := ((Below.refl _ _).alloc (Nat.le_refl _) _).trans (hb.mono (by simp)); have u0 := keepCell hb5 q0 hz10; have x0 := keepCell hb5 r0 hz9; have y0 := keepFrozen hb5 s0 hz9; have u1 := keepCell hb5 q1 hz10; have x1 := keepCell hb5 r1 hz9; have y1 := keepFrozen hb5 s1 hz9; have u2 := keepCell hb5 q2 hz10; have x2 := keepCell hb5 r2 hz9; have y2 := keepFrozen hb5 s2 hz9; have u3 := keepCell hb5 q3 hz10; have x3 := keepCell hb5 r3 hz9; have y3 := keepFrozen hb5 s3 hz9; have u4 := keepCell hb5 q4 hz10; have x4 := keepCell hb5 r4 hz9; have y4 := keepFrozen hb5 s4 hz9; have u5 := keepCell hb5 q5 hz10; have x5 := keepCell hb5 r5 hz9; have y5 := keepFrozen hb5 s5 hz9; have z0 : w5.cell? ⟨wc.heap.size, 0, none⟩ = some (.int .i64 a0_0) := (hb.cell (p := ⟨wc.heap.size, 0, none⟩) (by simp)).trans (World.cell?_alloc_at _ _ _ _ rfl); have z1 : w5.cell? ⟨wc.heap.size, 1, none⟩ = some (.int .i64 a0_1) := (hb.cell (p := ⟨wc.heap.size, 1, none⟩) (by simp)).trans (World.cell?_alloc_at _ _ _ _ rfl); have z2 : w5.cell? ⟨wc.heap.size, 2, none⟩ = some (.int .i64 b) := (hb.cell (p := ⟨wc.heap.size, 2, none⟩) (by simp)).trans (World.cell?_alloc_at _ _ _ _ rfl); have z3 : w5.cell? ⟨wc.heap.size, 3, none⟩ = some (.int .i64 i) := (hb.cell (p := ⟨wc.heap.size, 3, none⟩) (by simp)).trans (World.cell?_alloc_at _ _ _ _ rfl); have z4 : w5.cell? ⟨wc.heap.size, 4, none⟩ = some (.int .i64 a0_4) := (hb.cell (p := ⟨wc.heap.size, 4, none⟩) (by simp)).trans (World.cell?_alloc_at _ _ _ _ rfl); have z5 : w5.cell? ⟨wc.heap.size, 5, none⟩ = some (.int .i64 a0_5) := (hb.cell (p := ⟨wc.heap.size, 5, none⟩) (by simp)).trans (World.cell?_alloc_at _ _ _ _ rfl); have HB6 := Aside0.mk (HB5.out.trans (hb5.mono (Nat.le_of_lt hz10))); clear hb hb5))
            refine bodyPost_ret (v := .tuple #[.agg #[.int .i64 a0_0, .int .i64 a0_1, .int .i64 a0_2, .int .i64 a0_3, .int .i64 a0_4, .int .i64 a0_5], .int .i64 12]) (by simp [results, Try.results54, go_sem, x0, x1, x2, x3, x4, x5]) rfl ⟨rfl, ?_⟩
            (with_reducible repeat (first | refine bset1 ?_ | refine below_drewN' ?_ _ | refine allocB ?_))
            with_reducible exact HB6.out
          · obtain ⟨rfl, rfl⟩ := Prod.mk.inj (hr.trans (if_pos (by simp)))
            go_wp2_with (go_at_call 40; ((with_reducible refine (field_Good.calls _ _ _ _ _ _ _ _ HG.out).mono ?_); rintro e w5 ⟨rfl, hb⟩; have hb5 : Below wc.heap.size wc w5 := ((Below.refl _ _).alloc (Nat.le_refl _) _).trans (hb.mono (by simp)); have u0 := keepCell hb5 q0 hz10; have x0 := keepCell hb5 r0 hz9; have y0 := keepFrozen hb5 s0 hz9; have u1 := keepCell hb5 q1 hz10; have x1 := keepCell hb5 r1 hz9; have y1 := keepFrozen hb5 s1 hz9; have u2 := keepCell hb5 q2 hz10; have x2 := keepCell hb5 r2 hz9; have y2 := keepFrozen hb5 s2 hz9; have u3 := keepCell hb5 q3 hz10; have x3 := keepCell hb5 r3 hz9; have y3 := keepFrozen hb5 s3 hz9; have u4 := keepCell hb5 q4 hz10; have x4 := keepCell hb5 r4 hz9; have y4 := keepFrozen hb5 s4 hz9; have u5 := keepCell hb5 q5 hz10; have x5 := keepCell hb5 r5 hz9; have y5 := keepFrozen hb5 s5 hz9; have z0 : w5.cell? ⟨wc.heap.size, 0, none⟩ = some (.int .i64 a0_0) := (hb.cell (p := ⟨wc.heap.size, 0, none⟩) (by simp)).trans (World.cell?_alloc_at _ _ _ _ rfl); have z1 : w5.cell? ⟨wc.heap.size, 1, none⟩ = some (.int .i64 a0_1) := (hb.cell (p := ⟨wc.heap.size, 1, none⟩) (by simp)).trans (World.cell?_alloc_at _ _ _ _ rfl); have z2 : w5.cell? ⟨wc.heap.size, 2, none⟩ = some (.int .i64 b) := (hb.cell (p := ⟨wc.heap.size, 2, none⟩) (by simp)).trans (World.cell?_alloc_at _ _ _ _ rfl); have z3 : w5.cell? ⟨wc.heap.size, 3, none⟩ = some (.int .i64 i) := (hb.cell (p := ⟨wc.heap.size, 3, none⟩) (by simp)).trans (World.cell?_alloc_at _ _ _ _ rfl); have z4 : w5.cell? ⟨wc.heap.size, 4, none⟩ = some (.int .i64 a0_4) := (hb.cell (p := ⟨wc.heap.size, 4, none⟩) (by simp)).trans (World.cell?_alloc_at _ _ _ _ rfl); have z5 : w5.cell? ⟨wc.heap.size, 5, none⟩ = some (.int .i64 a0_5) := (hb.cell (p := ⟨wc.heap.size, 5, none⟩) (by simp)).trans (World.cell?_alloc_at _ _ _ _ rfl); have HB6 := Aside0.mk (HB5.out.trans (hb5.mono (Nat.le_of_lt hz10))); clear hb hb5))
            refine bodyPost_ret (v := .tuple #[.agg #[.int .i64 a0_0, .int .i64 a0_1, .int .i64 b, .int .i64 i, .int .i64 a0_4, .int .i64 a0_5], .int .i64 0]) (by simp [results, Try.results54, go_sem, x0, x1, x2, x3, x4, x5]) rfl ⟨rfl, ?_⟩
            (with_reducible repeat (first | refine bset1 ?_ | refine below_drewN' ?_ _ | refine allocB ?_))
            with_reducible exact HB6.out
set_option maxHeartbeats 16000000 in
set_option maxRecDepth 100000 in
theorem move_settle_neg (a0_0 : Int) (a0_1 : Int) (a0_2 : Int) (a0_3 : Int) (a0_4 : Int) (a0_5 : Int) (a1 : Int) (b : Int) (bo : Bool) (s : Int) (so : Bool) (gd : Bool) (w : World) (hw : field_wrong.f a0_0 a0_1 a0_2 a0_3 a0_4 a0_5 a1 = some 0) (hd : decide (a1 < 0) = true) (hb : calc_Add.f a0_2 a1 = some (b, bo)) (hs : calc_Add.f a0_4 a1 = some (s, so)) (hg : field_Good.f a0_0 a0_1 b a0_3 s a0_5 = some gd) (r : Array Value) (c : Int) (hr : (r, c) = if bo = true ∧ so = true ∧ gd = true then (#[.int .i64 a0_0, .int .i64 a0_1, .int .i64 b, .int .i64 a0_3, .int .i64 s, .int .i64 a0_5], 0) else (#[.int .i64 a0_0, .int .i64 a0_1, .int .i64 a0_2, .int .i64 a0_3, .int .i64 a0_4, .int .i64 a0_5], 12)) :
    Calls Try.prog 54 #[.agg #[.int .i64 a0_0, .int .i64 a0_1, .int .i64 a0_2, .int .i64 a0_3, .int .i64 a0_4, .int .i64 a0_5], .int .i64 a1, .func (.func 55) #[] #[], .func (.func 56) #[] #[], .func (.func 56) #[] #[], .func (.func 55) #[] #[]] w fun e w' => e = .returned (.tuple #[.agg r, .int .i64 c]) ∧ Below w.heap.size w w' := by
  have HW := Aside0.mk hw
  have HB := Aside0.mk hb
  have HS := Aside0.mk hs
  have HG := Aside0.mk hg
  have HR := Aside0.mk hr
  clear hw hg hr hb hs
  go_enter Try.func54, Try.ntmps54
  go_wp2_with (go_at_call 42; ((with_reducible refine (field_wrong.calls _ _ _ _ _ _ _ _ _ HW.out).mono ?_); rintro e w1 ⟨rfl, hb⟩; obtain ⟨hc, hf⟩ := bcell hb; have hz : w.heap.size + 1 < w1.heap.size := (by have := hb.size; simp at this; omega)))
  have k0 : w1.cell? ⟨w.heap.size, 0, none⟩ = some (.int .i64 a0_0) := by simp [hc, go_sem]
  have k1 : w1.cell? ⟨w.heap.size, 1, none⟩ = some (.int .i64 a0_1) := by simp [hc, go_sem]
  have k2 : w1.cell? ⟨w.heap.size, 2, none⟩ = some (.int .i64 a0_2) := by simp [hc, go_sem]
  have k3 : w1.cell? ⟨w.heap.size, 3, none⟩ = some (.int .i64 a0_3) := by simp [hc, go_sem]
  have k4 : w1.cell? ⟨w.heap.size, 4, none⟩ = some (.int .i64 a0_4) := by simp [hc, go_sem]
  have k5 : w1.cell? ⟨w.heap.size, 5, none⟩ = some (.int .i64 a0_5) := by simp [hc, go_sem]
  have m0 : w1.cell? ⟨w.heap.size + 1, 0, none⟩ = some (.int .i64 0) := by simp [hc, go_sem]
  have n0 : w1.frozen? ⟨w.heap.size + 1, 0, none⟩ = false := by simp [hf, go_sem]
  have m1 : w1.cell? ⟨w.heap.size + 1, 1, none⟩ = some (.int .i64 0) := by simp [hc, go_sem]
  have n1 : w1.frozen? ⟨w.heap.size + 1, 1, none⟩ = false := by simp [hf, go_sem]
  have m2 : w1.cell? ⟨w.heap.size + 1, 2, none⟩ = some (.int .i64 0) := by simp [hc, go_sem]
  have n2 : w1.frozen? ⟨w.heap.size + 1, 2, none⟩ = false := by simp [hf, go_sem]
  have m3 : w1.cell? ⟨w.heap.size + 1, 3, none⟩ = some (.int .i64 0) := by simp [hc, go_sem]
  have n3 : w1.frozen? ⟨w.heap.size + 1, 3, none⟩ = false := by simp [hf, go_sem]
  have m4 : w1.cell? ⟨w.heap.size + 1, 4, none⟩ = some (.int .i64 0) := by simp [hc, go_sem]
  have n4 : w1.frozen? ⟨w.heap.size + 1, 4, none⟩ = false := by simp [hf, go_sem]
  have m5 : w1.cell? ⟨w.heap.size + 1, 5, none⟩ = some (.int .i64 0) := by simp [hc, go_sem]
  have n5 : w1.frozen? ⟨w.heap.size + 1, 5, none⟩ = false := by simp [hf, go_sem]
  have K0 := Aside0.mk k0
  have M0 := Aside0.mk m0
  have N0 := Aside0.mk n0
  have K1 := Aside0.mk k1
  have M1 := Aside0.mk m1
  have N1 := Aside0.mk n1
  have K2 := Aside0.mk k2
  have M2 := Aside0.mk m2
  have N2 := Aside0.mk n2
  have K3 := Aside0.mk k3
  have M3 := Aside0.mk m3
  have N3 := Aside0.mk n3
  have K4 := Aside0.mk k4
  have M4 := Aside0.mk m4
  have N4 := Aside0.mk n4
  have K5 := Aside0.mk k5
  have M5 := Aside0.mk m5
  have N5 := Aside0.mk n5
  clear k0 k1 k3 k4 m0 m1 m2 m3 m4 m5 n0 n1 n2 n3 n4 n5
  have hbw : Below w.heap.size w w1 := ((Below.refl _ _).alloc (Nat.le_refl _) _ |>.alloc (by simp) _).trans (hb.mono (by simp; omega))
  have HBW := Aside0.mk hbw
  clear hb hbw hc hf
  go_cut [15, 16] (fun p1 p2 wc => ∃ b1 b2 : Nat, p1 = .pointer (some ⟨b1, 0, none⟩) ∧ p2 = .pointer (some ⟨b2, 0, none⟩) ∧ TwoParts w1 b1 b2 a0_5 true b bo wc)
  case first =>
    go_region_held3 (fun w' => Below w1.heap.size w1 w' ∧ w'.cell? ⟨w.heap.size, 5, none⟩ = some (.int .i64 a0_5) ∧ w'.cell? ⟨w.heap.size, 2, none⟩ = some (.int .i64 a0_2)) (with_reducible ((refine keepTwo k5 k2 ?_); (with_reducible (repeat (first | exact Below.refl _ _ | refine Below.drew ?_ | refine belowDN ?_ | refine allocB ?_ | refine setB ?_ ?_ | omega))))) (first | (go_at_call 55; ((with_reducible refine (part_still_t _ _ _).mono ?_); rintro e w' ⟨rfl, nd, c1, c2, rfl⟩)) | (go_at_call 56; ((with_reducible refine (part_more_t _ _ _ _ _ HB.out).mono ?_); rintro e w' ⟨rfl, nd, c1, c2, rfl⟩)))
    all_goals
      go_wp2
      go_meet
      case rel => exact ⟨_, _, rfl, rfl, (by (with_reducible (repeat (first | exact Below.refl _ _ | refine Below.drew ?_ | refine belowDN ?_ | refine allocB ?_ | refine setB ?_ ?_ | omega)))), (by omega), (by omega), (by (first | (simp [go_sem]; done) | ((with_reducible refine World.cell?_setCell_same' _ _ _ ?_); (simp [go_sem]; done)) | (simp [go_sem]; (with_reducible refine World.cell?_setCell_same' _ _ _ ?_); (simp [go_sem]; done)))), (by (first | (simp [go_sem]; done) | ((with_reducible refine World.cell?_setCell_same' _ _ _ ?_); (simp [go_sem]; done)) | (simp [go_sem]; (with_reducible refine World.cell?_setCell_same' _ _ _ ?_); (simp [go_sem]; done)))), (by (first | (simp [go_sem]; done) | ((with_reducible refine World.cell?_setCell_same' _ _ _ ?_); (simp [go_sem]; done)) | (simp [go_sem]; (with_reducible refine World.cell?_setCell_same' _ _ _ ?_); (simp [go_sem]; done)))), (by (first | (simp [go_sem]; done) | ((with_reducible refine World.cell?_setCell_same' _ _ _ ?_); (simp [go_sem]; done)) | (simp [go_sem]; (with_reducible refine World.cell?_setCell_same' _ _ _ ?_); (simp [go_sem]; done))))⟩
  case rest =>
    rename World => w2
    obtain ⟨b1, b2, rfl, rfl, hB1, g1, g2, d0, d1, d2, d3⟩ := hcut
    have p3 := keepCell hB1 K3.out (show w.heap.size < w1.heap.size by omega)
    have p4 := keepCell hB1 K4.out (show w.heap.size < w1.heap.size by omega)
    have hz1 := hB1.size
    have H1 := Aside0.mk hB1
    have D0 := Aside0.mk d0
    have D1 := Aside0.mk d1
    have D2 := Aside0.mk d2
    have D3 := Aside0.mk d3
    clear hB1 k2 k5 d0 d1 d2 d3
    go_upto_region 7 with (fail)
    go_cut [17, 18] (fun p1 p2 wc => ∃ b1 b2 : Nat, p1 = .pointer (some ⟨b1, 0, none⟩) ∧ p2 = .pointer (some ⟨b2, 0, none⟩) ∧ TwoParts w2 b1 b2 a0_3 true s so wc)
    case first =>
      go_region_held3 (fun w' => Below w2.heap.size w2 w' ∧ w'.cell? ⟨w.heap.size, 3, none⟩ = some (.int .i64 a0_3) ∧ w'.cell? ⟨w.heap.size, 4, none⟩ = some (.int .i64 a0_4)) (with_reducible ((refine keepTwo p3 p4 ?_); (with_reducible (repeat (first | exact Below.refl _ _ | refine Below.drew ?_ | refine belowDN ?_ | refine allocB ?_ | refine setB ?_ ?_ | omega))))) (first | (go_at_call 55; ((with_reducible refine (part_still_t _ _ _).mono ?_); rintro e w' ⟨rfl, nd, c1, c2, rfl⟩)) | (go_at_call 56; ((with_reducible refine (part_more_t _ _ _ _ _ HS.out).mono ?_); rintro e w' ⟨rfl, nd, c1, c2, rfl⟩)))
      all_goals
        go_wp2
        go_meet
        case rel => exact ⟨_, _, rfl, rfl, (by (with_reducible (repeat (first | exact Below.refl _ _ | refine Below.drew ?_ | refine belowDN ?_ | refine allocB ?_ | refine setB ?_ ?_ | omega)))), (by omega), (by omega), (by (first | (simp [go_sem]; done) | ((with_reducible refine World.cell?_setCell_same' _ _ _ ?_); (simp [go_sem]; done)) | (simp [go_sem]; (with_reducible refine World.cell?_setCell_same' _ _ _ ?_); (simp [go_sem]; done)))), (by (first | (simp [go_sem]; done) | ((with_reducible refine World.cell?_setCell_same' _ _ _ ?_); (simp [go_sem]; done)) | (simp [go_sem]; (with_reducible refine World.cell?_setCell_same' _ _ _ ?_); (simp [go_sem]; done)))), (by (first | (simp [go_sem]; done) | ((with_reducible refine World.cell?_setCell_same' _ _ _ ?_); (simp [go_sem]; done)) | (simp [go_sem]; (with_reducible refine World.cell?_setCell_same' _ _ _ ?_); (simp [go_sem]; done)))), (by (first | (simp [go_sem]; done) | ((with_reducible refine World.cell?_setCell_same' _ _ _ ?_); (simp [go_sem]; done)) | (simp [go_sem]; (with_reducible refine World.cell?_setCell_same' _ _ _ ?_); (simp [go_sem]; done))))⟩
    case rest =>
      obtain ⟨b3, b4, rfl, rfl, hB3, g3, g4, d4, d5, d6, d7⟩ := hcut
      have hz3 := hB3.size
      have hB4 := H1.out.trans (hB3.mono hz1)
      have q0 := keepCell hB4 K0.out (show w.heap.size < w1.heap.size by omega)
      have r0 := keepCell hB4 M0.out (show w.heap.size + 1 < w1.heap.size by omega)
      have s0 := keepFrozen hB4 N0.out (show w.heap.size + 1 < w1.heap.size by omega)
      have q1 := keepCell hB4 K1.out (show w.heap.size < w1.heap.size by omega)
      have r1 := keepCell hB4 M1.out (show w.heap.size + 1 < w1.heap.size by omega)
      have s1 := keepFrozen hB4 N1.out (show w.heap.size + 1 < w1.heap.size by omega)
      have q2 := keepCell hB4 K2.out (show w.heap.size < w1.heap.size by omega)
      have r2 := keepCell hB4 M2.out (show w.heap.size + 1 < w1.heap.size by omega)
      have s2 := keepFrozen hB4 N2.out (show w.heap.size + 1 < w1.heap.size by omega)
      have q3 := keepCell hB4 K3.out (show w.heap.size < w1.heap.size by omega)
      have r3 := keepCell hB4 M3.out (show w.heap.size + 1 < w1.heap.size by omega)
      have s3 := keepFrozen hB4 N3.out (show w.heap.size + 1 < w1.heap.size by omega)
      have q4 := keepCell hB4 K4.out (show w.heap.size < w1.heap.size by omega)
      have r4 := keepCell hB4 M4.out (show w.heap.size + 1 < w1.heap.size by omega)
      have s4 := keepFrozen hB4 N4.out (show w.heap.size + 1 < w1.heap.size by omega)
      have q5 := keepCell hB4 K5.out (show w.heap.size < w1.heap.size by omega)
      have r5 := keepCell hB4 M5.out (show w.heap.size + 1 < w1.heap.size by omega)
      have s5 := keepFrozen hB4 N5.out (show w.heap.size + 1 < w1.heap.size by omega)
      have d0 := keepCell hB3 D0.out (World.block_lt_of_cell? _ _ D0.out)
      have d1 := keepCell hB3 D1.out (World.block_lt_of_cell? _ _ D1.out)
      have d2 := keepCell hB3 D2.out (World.block_lt_of_cell? _ _ D2.out)
      have d3 := keepCell hB3 D3.out (World.block_lt_of_cell? _ _ D3.out)
      have hz5 := World.block_lt_of_cell? _ _ d4
      have hz6 := World.block_lt_of_cell? _ _ d6
      have hz7 := World.block_lt_of_cell? _ _ d0
      have hz8 := World.block_lt_of_cell? _ _ d2
      have HB5 := Aside0.mk (HBW.out.trans (hB4.mono (show w.heap.size ≤ w1.heap.size by omega)))
      clear HBW hB3 hB4 H1 K0 M0 N0 K1 M1 N1 K2 M2 N2 K3 M3 N3 K4 M4 N4 K5 M5 N5
      have hz9 : w.heap.size + 1 < wc.heap.size := by omega
      have hz10 : w.heap.size < wc.heap.size := by omega
      have hr := HR.out
      clear hz1 hz3 g1 g2 g3 g4 HR HW
      cases bo
      · obtain ⟨rfl, rfl⟩ := Prod.mk.inj (hr.trans (if_neg (by simp)))
        go_wp2_with (fail)
        refine bodyPost_ret (v := .tuple #[.agg #[.int .i64 a0_0, .int .i64 a0_1, .int .i64 a0_2, .int .i64 a0_3, .int .i64 a0_4, .int .i64 a0_5], .int .i64 12]) (by simp [results, Try.results54, go_sem, r0, r1, r2, r3, r4, r5, hz9]) rfl ⟨rfl, ?_⟩
        (with_reducible repeat (first | refine bset1 ?_ | refine below_drewN' ?_ _ | refine allocB ?_))
        with_reducible exact HB5.out
      · skip
        cases so
        · obtain ⟨rfl, rfl⟩ := Prod.mk.inj (hr.trans (if_neg (by simp)))
          go_wp2_with (fail)
          refine bodyPost_ret (v := .tuple #[.agg #[.int .i64 a0_0, .int .i64 a0_1, .int .i64 a0_2, .int .i64 a0_3, .int .i64 a0_4, .int .i64 a0_5], .int .i64 12]) (by simp [results, Try.results54, go_sem, r0, r1, r2, r3, r4, r5, hz9]) rfl ⟨rfl, ?_⟩
          (with_reducible repeat (first | refine bset1 ?_ | refine below_drewN' ?_ _ | refine allocB ?_))
          with_reducible exact HB5.out
        · skip
          cases gd
          · obtain ⟨rfl, rfl⟩ := Prod.mk.inj (hr.trans (if_neg (by simp)))
            go_wp2_with (go_at_call 40; ((with_reducible refine (field_Good.calls _ _ _ _ _ _ _ _ HG.out).mono ?_); rintro e w5 ⟨rfl, hb⟩; have hb5 : Below wc.heap.size wc w5 := ((Below.refl _ _).alloc (Nat.le_refl _) _).trans (hb.mono (by simp)); have u0 := keepCell hb5 q0 hz10; have x0 := keepCell hb5 r0 hz9; have y0 := keepFrozen hb5 s0 hz9; have u1 := keepCell hb5 q1 hz10; have x1 := keepCell hb5 r1 hz9; have y1 := keepFrozen hb5 s1 hz9; have u2 := keepCell hb5 q2 hz10; have x2 := keepCell hb5 r2 hz9; have y2 := keepFrozen hb5 s2 hz9; have u3 := keepCell hb5 q3 hz10; have x3 := keepCell hb5 r3 hz9; have y3 := keepFrozen hb5 s3 hz9; have u4 := keepCell hb5 q4 hz10; have x4 := keepCell hb5 r4 hz9; have y4 := keepFrozen hb5 s4 hz9; have u5 := keepCell hb5 q5 hz10; have x5 := keepCell hb5 r5 hz9; have y5 := keepFrozen hb5 s5 hz9; have z0 : w5.cell? ⟨wc.heap.size, 0, none⟩ = some (.int .i64 a0_0) := (hb.cell (p := ⟨wc.heap.size, 0, none⟩) (by simp)).trans (World.cell?_alloc_at _ _ _ _ rfl); have z1 : w5.cell? ⟨wc.heap.size, 1, none⟩ = some (.int .i64 a0_1) := (hb.cell (p := ⟨wc.heap.size, 1, none⟩) (by simp)).trans (World.cell?_alloc_at _ _ _ _ rfl); have z2 : w5.cell? ⟨wc.heap.size, 2, none⟩ = some (.int .i64 b) := (hb.cell (p := ⟨wc.heap.size, 2, none⟩) (by simp)).trans (World.cell?_alloc_at _ _ _ _ rfl); have z3 : w5.cell? ⟨wc.heap.size, 3, none⟩ = some (.int .i64 a0_3) := (hb.cell (p := ⟨wc.heap.size, 3, none⟩) (by simp)).trans (World.cell?_alloc_at _ _ _ _ rfl); have z4 : w5.cell? ⟨wc.heap.size, 4, none⟩ = some (.int .i64 s) := (hb.cell (p := ⟨wc.heap.size, 4, none⟩) (by simp)).trans (World.cell?_alloc_at _ _ _ _ rfl); have z5 : w5.cell? ⟨wc.heap.size, 5, none⟩ = some (.int .i64 a0_5) := (hb.cell (p := ⟨wc.heap.size, 5, none⟩) (by simp)).trans (World.cell?_alloc_at _ _ _ _ rfl); have HB6 := Aside0.mk (HB5.out.trans (hb5.mono (Nat.le_of_lt hz10))); clear hb hb5))
            refine bodyPost_ret (v := .tuple #[.agg #[.int .i64 a0_0, .int .i64 a0_1, .int .i64 a0_2, .int .i64 a0_3, .int .i64 a0_4, .int .i64 a0_5], .int .i64 12]) (by simp [results, Try.results54, go_sem, x0, x1, x2, x3, x4, x5]) rfl ⟨rfl, ?_⟩
            (with_reducible repeat (first | refine bset1 ?_ | refine below_drewN' ?_ _ | refine allocB ?_))
            with_reducible exact HB6.out
          · obtain ⟨rfl, rfl⟩ := Prod.mk.inj (hr.trans (if_pos (by simp)))
            go_wp2_with (go_at_call 40; ((with_reducible refine (field_Good.calls _ _ _ _ _ _ _ _ HG.out).mono ?_); rintro e w5 ⟨rfl, hb⟩; have hb5 : Below wc.heap.size wc w5 := ((Below.refl _ _).alloc (Nat.le_refl _) _).trans (hb.mono (by simp)); have u0 := keepCell hb5 q0 hz10; have x0 := keepCell hb5 r0 hz9; have y0 := keepFrozen hb5 s0 hz9; have u1 := keepCell hb5 q1 hz10; have x1 := keepCell hb5 r1 hz9; have y1 := keepFrozen hb5 s1 hz9; have u2 := keepCell hb5 q2 hz10; have x2 := keepCell hb5 r2 hz9; have y2 := keepFrozen hb5 s2 hz9; have u3 := keepCell hb5 q3 hz10; have x3 := keepCell hb5 r3 hz9; have y3 := keepFrozen hb5 s3 hz9; have u4 := keepCell hb5 q4 hz10; have x4 := keepCell hb5 r4 hz9; have y4 := keepFrozen hb5 s4 hz9; have u5 := keepCell hb5 q5 hz10; have x5 := keepCell hb5 r5 hz9; have y5 := keepFrozen hb5 s5 hz9; have z0 : w5.cell? ⟨wc.heap.size, 0, none⟩ = some (.int .i64 a0_0) := (hb.cell (p := ⟨wc.heap.size, 0, none⟩) (by simp)).trans (World.cell?_alloc_at _ _ _ _ rfl); have z1 : w5.cell? ⟨wc.heap.size, 1, none⟩ = some (.int .i64 a0_1) := (hb.cell (p := ⟨wc.heap.size, 1, none⟩) (by simp)).trans (World.cell?_alloc_at _ _ _ _ rfl); have z2 : w5.cell? ⟨wc.heap.size, 2, none⟩ = some (.int .i64 b) := (hb.cell (p := ⟨wc.heap.size, 2, none⟩) (by simp)).trans (World.cell?_alloc_at _ _ _ _ rfl); have z3 : w5.cell? ⟨wc.heap.size, 3, none⟩ = some (.int .i64 a0_3) := (hb.cell (p := ⟨wc.heap.size, 3, none⟩) (by simp)).trans (World.cell?_alloc_at _ _ _ _ rfl); have z4 : w5.cell? ⟨wc.heap.size, 4, none⟩ = some (.int .i64 s) := (hb.cell (p := ⟨wc.heap.size, 4, none⟩) (by simp)).trans (World.cell?_alloc_at _ _ _ _ rfl); have z5 : w5.cell? ⟨wc.heap.size, 5, none⟩ = some (.int .i64 a0_5) := (hb.cell (p := ⟨wc.heap.size, 5, none⟩) (by simp)).trans (World.cell?_alloc_at _ _ _ _ rfl); have HB6 := Aside0.mk (HB5.out.trans (hb5.mono (Nat.le_of_lt hz10))); clear hb hb5))
            refine bodyPost_ret (v := .tuple #[.agg #[.int .i64 a0_0, .int .i64 a0_1, .int .i64 b, .int .i64 a0_3, .int .i64 s, .int .i64 a0_5], .int .i64 0]) (by simp [results, Try.results54, go_sem, x0, x1, x2, x3, x4, x5]) rfl ⟨rfl, ?_⟩
            (with_reducible repeat (first | refine bset1 ?_ | refine below_drewN' ?_ _ | refine allocB ?_))
            with_reducible exact HB6.out
set_option maxHeartbeats 2000000 in
set_option maxRecDepth 100000 in
theorem field_Settle.run (a0_0 : Int) (a0_1 : Int) (a0_2 : Int) (a0_3 : Int) (a0_4 : Int) (a0_5 : Int) (a1 : Int) (x0 x1 x2 x3 x4 x5 c : Int) (w : World) (hm : ∀ w : World, Calls Try.prog 54 #[.agg #[.int .i64 a0_0, .int .i64 a0_1, .int .i64 a0_2, .int .i64 a0_3, .int .i64 a0_4, .int .i64 a0_5], .int .i64 a1, .func (.func 55) #[] #[], .func (.func 56) #[] #[], .func (.func 56) #[] #[], .func (.func 55) #[] #[]] w fun e w' => e = .returned (.tuple #[.agg #[.int .i64 x0, .int .i64 x1, .int .i64 x2, .int .i64 x3, .int .i64 x4, .int .i64 x5], .int .i64 c]) ∧ Below w.heap.size w w') :
    Calls Try.prog 38 #[.agg #[.int .i64 a0_0, .int .i64 a0_1, .int .i64 a0_2, .int .i64 a0_3, .int .i64 a0_4, .int .i64 a0_5], .int .i64 a1] w fun e w' => e = .returned (.tuple #[.agg #[.int .i64 x0, .int .i64 x1, .int .i64 x2, .int .i64 x3, .int .i64 x4, .int .i64 x5], .int .i64 c]) ∧ Below w.heap.size w w' := by
  have HM := Aside0.mk hm
  clear hm
  go_enter Try.func38, Try.ntmps38
  go_wp2_with (go_at_call 54; ((with_reducible refine (HM.out _).mono ?_); rintro e w1 ⟨rfl, hb⟩; obtain ⟨hc, hf⟩ := bcell hb))
  refine bodyPost_ret (v := .tuple #[.agg #[.int .i64 x0, .int .i64 x1, .int .i64 x2, .int .i64 x3, .int .i64 x4, .int .i64 x5], .int .i64 c]) (by simp [results, Try.results38, go_sem, hc]) rfl ⟨rfl, ?_⟩
  (with_reducible repeat (first | refine bset0 ?_ | refine bset1 ?_))
  exact ((Below.refl _ _).alloc (Nat.le_refl _) _ |>.alloc (by simp) _).trans (hb.mono (by simp; omega))
def field_Settle.f (a0_0 : Int) (a0_1 : Int) (a0_2 : Int) (a0_3 : Int) (a0_4 : Int) (a0_5 : Int) (a1 : Int) : Option (Int × Int × Int × Int × Int × Int × Int) :=
  if In64 a0_0 ∧ In64 a0_1 ∧ In64 a0_2 ∧ In64 a0_3 ∧ In64 a0_4 ∧ In64 a0_5 ∧ In64 a1 then some (moveP a0_0 a0_1 a0_2 a0_3 a0_4 a0_5 a1 (a0_5) (a0_2 + a1) (if a1 < 0 then a0_3 else a0_3 + a1) (if a1 < 0 then a0_4 + a1 else a0_4)) else none
theorem field_Settle.calls (a0_0 : Int) (a0_1 : Int) (a0_2 : Int) (a0_3 : Int) (a0_4 : Int) (a0_5 : Int) (a1 : Int) (r1 : Int) (r2 : Int) (r3 : Int) (r4 : Int) (r5 : Int) (r6 : Int) (r7 : Int) (w : World) (h : field_Settle.f a0_0 a0_1 a0_2 a0_3 a0_4 a0_5 a1 = some (r1, r2, r3, r4, r5, r6, r7)) :
    Calls Try.prog 38 #[.agg #[.int .i64 a0_0, .int .i64 a0_1, .int .i64 a0_2, .int .i64 a0_3, .int .i64 a0_4, .int .i64 a0_5], .int .i64 a1] w fun e w' => e = .returned (.tuple #[.agg #[.int .i64 r1, .int .i64 r2, .int .i64 r3, .int .i64 r4, .int .i64 r5, .int .i64 r6], .int .i64 r7]) ∧ Below w.heap.size w w' := by
  unfold field_Settle.f at h
  split at h
  case isFalse => simp at h
  case isTrue hh =>
  obtain ⟨i0, i1, i2, i3, i4, i5, i6⟩ := hh
  simp only [Option.some.injEq] at h
  have hw := field_wrong_eq a0_0 a0_1 a0_2 a0_3 a0_4 a0_5 a1
  refine field_Settle.run _ _ _ _ _ _ _ _ _ _ _ _ _ _ w (fun w => ?_)
  unfold moveP at h
  by_cases g : GoodP a0_0 a0_1 a0_2 a0_3 a0_4 a0_5
  · rw [if_neg (fun z => z g)] at h hw
    by_cases g1 : a1 = 0 ∨ a1 = -9223372036854775808
    · rw [if_pos g1] at h hw
      simp only [Prod.mk.injEq] at h
      obtain ⟨rfl, rfl, rfl, rfl, rfl, rfl, rfl⟩ := h
      exact move_wrong _ _ _ _ _ _ _ 1 _ _ _ _ w hw (by decide)
    · rw [if_neg g1] at h hw
      by_cases c : a1 < 0
      · have hd : decide (a1 < 0) = true := decide_eq_true c
        refine move_settle_neg a0_0 a0_1 a0_2 a0_3 a0_4 a0_5 a1 _ _ _ _ _ w hw hd ((add_fit a0_2 a1 i2 i6).trans (congrArg some (fit_pair _))) ((add_fit a0_4 a1 i4 i6).trans (congrArg some (fit_pair _))) (field_Good_eq a0_0 a0_1 (fit (a0_2 + a1)).1 a0_3 (fit (a0_4 + a1)).1 a0_5) _ _ ?_
        simp only [c, if_true] at h
        by_cases y : In64 (a0_5) ∧ In64 (a0_2 + a1) ∧ In64 (a0_3) ∧ In64 (a0_4 + a1) ∧ GoodP a0_0 a0_1 (a0_2 + a1) (a0_3) (a0_4 + a1) (a0_5)
        · rw [if_pos y] at h
          simp only [Prod.mk.injEq] at h
          obtain ⟨rfl, rfl, rfl, rfl, rfl, rfl, rfl⟩ := h
          rw [if_pos ⟨(fit_snd _).trans (decide_eq_true y.2.1), (fit_snd _).trans (decide_eq_true y.2.2.2.1), decide_eq_true (by rw [fit_fst y.2.1, fit_fst y.2.2.2.1]; exact y.2.2.2.2)⟩, fit_fst y.2.1, fit_fst y.2.2.2.1]
        · rw [if_neg y] at h
          simp only [Prod.mk.injEq] at h
          obtain ⟨rfl, rfl, rfl, rfl, rfl, rfl, rfl⟩ := h
          rw [if_neg]
          rintro ⟨z0, z1, z2⟩
          rw [fit_snd] at z0
          replace z0 := of_decide_eq_true z0
          rw [fit_snd] at z1
          replace z1 := of_decide_eq_true z1
          replace z2 := of_decide_eq_true z2
          rw [fit_fst z0, fit_fst z1] at z2
          exact y ⟨i5, z0, i3, z1, z2⟩
      · have hd : decide (a1 < 0) = false := decide_eq_false c
        refine move_settle_pos a0_0 a0_1 a0_2 a0_3 a0_4 a0_5 a1 _ _ _ _ _ w hw hd ((add_fit a0_2 a1 i2 i6).trans (congrArg some (fit_pair _))) ((add_fit a0_3 a1 i3 i6).trans (congrArg some (fit_pair _))) (field_Good_eq a0_0 a0_1 (fit (a0_2 + a1)).1 (fit (a0_3 + a1)).1 a0_4 a0_5) _ _ ?_
        simp only [c, if_false] at h
        by_cases y : In64 (a0_5) ∧ In64 (a0_2 + a1) ∧ In64 (a0_3 + a1) ∧ In64 (a0_4) ∧ GoodP a0_0 a0_1 (a0_2 + a1) (a0_3 + a1) (a0_4) (a0_5)
        · rw [if_pos y] at h
          simp only [Prod.mk.injEq] at h
          obtain ⟨rfl, rfl, rfl, rfl, rfl, rfl, rfl⟩ := h
          rw [if_pos ⟨(fit_snd _).trans (decide_eq_true y.2.1), (fit_snd _).trans (decide_eq_true y.2.2.1), decide_eq_true (by rw [fit_fst y.2.1, fit_fst y.2.2.1]; exact y.2.2.2.2)⟩, fit_fst y.2.1, fit_fst y.2.2.1]
        · rw [if_neg y] at h
          simp only [Prod.mk.injEq] at h
          obtain ⟨rfl, rfl, rfl, rfl, rfl, rfl, rfl⟩ := h
          rw [if_neg]
          rintro ⟨z0, z1, z2⟩
          rw [fit_snd] at z0
          replace z0 := of_decide_eq_true z0
          rw [fit_snd] at z1
          replace z1 := of_decide_eq_true z1
          replace z2 := of_decide_eq_true z2
          rw [fit_fst z0, fit_fst z1] at z2
          exact y ⟨i5, z0, z1, i4, z2⟩
  · rw [if_pos g] at h hw
    simp only [Prod.mk.injEq] at h
    obtain ⟨rfl, rfl, rfl, rfl, rfl, rfl, rfl⟩ := h
    exact move_wrong _ _ _ _ _ _ _ 12 _ _ _ _ w hw (by decide)


end Go.Proofs.Ytnipjfciphgfjaa.G
