/- The walk of what a view tells of an article. -/
import Derived.Test.YtnipjfciphgfjaaFundNew
namespace Go.Proofs.Ytnipjfciphgfjaa.V
open Go.RowKit Go.Proofs.Ytnipjfciphgfjaa.G Go.Proofs.YtnipjfciphgfjaaW.PrintWords Go.Proofs.YtnipjfciphgfjaaW.PrintLast Go.Proofs.YtnipjfciphgfjaaW.PrintMore
attribute [local go_sem] max2_int min2_int max_two min_two max_three min_three max_four min_four
set_option linter.unusedVariables false
set_option linter.unusedSimpArgs false
set_option maxHeartbeats 2000000
set_option maxRecDepth 100000
/-- A span: its least, its present, its greatest value. -/
structure S49 where
  f0 : Int
  f1 : Int
  f2 : Int
def z49 : S49 := ⟨(0 : Int), (0 : Int), (0 : Int)⟩
def k49 : Kd S49 := Kd.iso (Kd.pair (Kd.int .i64) (Kd.pair (Kd.int .i64) (Kd.int .i64))) (fun x : S49 => (x.f0, x.f1, x.f2))
theorem k49_open {w : World} {x : S49} {cs : List Value} (h : k49.K w x cs) : cs = [.int .i64 x.f0, .int .i64 x.f1, .int .i64 x.f2] := by
  obtain ⟨_, _, rfl, rfl, ⟨_, _, rfl, rfl, rfl⟩⟩ := h
  exact rfl
theorem k49_mkM (w : World) (base : Nat) (ok : Nat → Prop) (x : S49)  : k49.M w base ok x [.int .i64 x.f0, .int .i64 x.f1, .int .i64 x.f2] := ⟨[.int .i64 x.f0], [.int .i64 x.f1, .int .i64 x.f2], rfl, rfl, ⟨[.int .i64 x.f1], [.int .i64 x.f2], rfl, rfl, rfl⟩⟩
def rd_T49 (xs : List S49) (i : Int) : S49 := xs.getD i.toNat z49
theorem at_T49 {w : World} {A : Option Addr} {n : Nat} {xs : List S49} (h : Kd.C k49 w A n xs) (i : Int) (h0 : 0 ≤ i) (h1 : i < n) : ∃ ad , A = some ad ∧ w.cell? (ad.add (i.toNat * 3)) = some (.int .i64 (rd_T49 xs i).f0) ∧ w.cell? ⟨(ad.add (i.toNat * 3)).block, (ad.add (i.toNat * 3)).off + 1, none⟩ = some (.int .i64 (rd_T49 xs i).f1) ∧ w.cell? ⟨(ad.add (i.toNat * 3)).block, (ad.add (i.toNat * 3)).off + 2, none⟩ = some (.int .i64 (rd_T49 xs i).f2) := by
  obtain ⟨ad, c, e, _, hK, hc0⟩ := Kd.C_get h z49 i h0 h1
  have hc : ∀ j u, c[j]? = some u → w.cell? (ad.add (i.toNat * 3 + j)) = some u := hc0
  obtain rfl := k49_open hK
  exact ⟨ad, e, hc 0 _ rfl, by rw [← add_field _ _ 1 (by omega)]; exact hc 1 _ rfl, by rw [← add_field _ _ 2 (by omega)]; exact hc 2 _ rfl⟩
theorem info49 : (Try.prog.info? 49).map (fun i => (i.zero, i.size, i.bytes)) = some (some (.agg #[.int .i64 0, .int .i64 0, .int .i64 0]), 3, 24) := by kernel_rfl
/-- The cells of a configuration of so many articles and warehouses. -/
abbrev cfg (skus wares : Int) : Array Value := #[.int .i64 skus, .int .i64 wares, .slice none 0 0, .int .u8 0, .int .u8 0, .int .u8 0, .int .u8 0, .int .u8 0, .int .u8 0, .int .u8 0, .int .u8 0, .int .u8 0, .int .u8 0, .int .u8 0, .int .u8 0, .int .u8 0, .int .u8 0, .int .u8 0, .int .u8 0, .int .i64 0, .int .i64 0, .int .i64 0, .int .i64 0, .int .i64 0, .int .i64 0, .int .i64 0]
theorem zero44 : (Try.prog.info? 44).map (fun i => (i.zero, i.size)) = some (some (.agg (cfg 0 0)), 26) := by kernel_rfl
def spanOf : F6 → S49
  | (_, _, _, x3, x4, x5) => ⟨x3, x5, x4⟩
/-- What is seen of a warehouse. -/
def seen (M : Rowmap) (s k : Int) : S49 := spanOf ((M (1, s, k)).getD F6.zero)
def seens (M : Rowmap) (s : Int) (n : Nat) : List S49 := (List.range n).map fun k : Nat => seen M s (k : Int)
theorem seens_succ (M : Rowmap) (s : Int) (n : Nat) : seens M s (n + 1) = seens M s n ++ [seen M s n] := by simp [seens, List.range_succ]
/-- So many warehouses are seen. -/
def most4 (n : Int) : Nat := (mn n 4).toNat
def spansOf (M : Rowmap) (skus wares s : Int) : List S49 := if mn skus 4 ≤ s then [] else seens M s (most4 wares)
theorem seen_open (M : Rowmap) (s k x0 x1 x2 x3 x4 x5 : Int) (h : (M (1, s, k)).getD F6.zero = (x0, x1, x2, x3, x4, x5)) : seen M s k = ⟨x3, x5, x4⟩ := by
  unfold seen; rw [h]; rfl
theorem mn4_in {a : Int} (h : In64 a) : wrap64 (if (4 : Int) < a then 4 else a) = (if (4 : Int) < a then 4 else a) := by
  unfold In64 at h; unfold wrap64; split <;> omega
theorem u8_iff {s : Int} : U8 s ↔ 0 ≤ s ∧ s < 256 := by
  have e1 : IntKind.u8.min = 0 := by decide
  have e2 : IntKind.u8.max = 255 := by decide
  unfold U8 Lit.wf
  simp only [decide_eq_true_eq, Bool.and_eq_true, e1, e2]
  omega
theorem u8_in {s : Int} (h : U8 s) : 0 ≤ s ∧ s < 256 := u8_iff.1 h
theorem view_Spans.calls (w : World) (f t b n : Nat) (M : Rowmap) (skus wares s : Int) (hF : IsFund w f t b n M) (us : U8 s) (hskus : In64 skus) (hwares : In64 wares) :
    Calls Try.prog 13 #[.agg (cfg skus wares), .pointer (some ⟨f, 0, none⟩), .int .u8 s] w fun e w' => ∃ v, e = .returned v ∧ Kd.R k49 49 w' w.heap.size (fun _ => True) v (spansOf M skus wares s) ∧ Below w.heap.size w w' := by
  have HF := Aside0.mk hF
  have HB := Aside0.mk (Below.refl w.heap.size w)
  have U := Aside0.mk us
  have us' := u8_in us
  obtain ⟨a, ha⟩ : ∃ a, (if (4 : Int) < skus then 4 else skus) = a := ⟨_, rfl⟩
  obtain ⟨c, hc⟩ : ∃ c, (if (4 : Int) < wares then 4 else wares) = c := ⟨_, rfl⟩
  have hws : wrap64 s = s := by unfold wrap64; omega
  unfold spansOf most4 mn
  rw [ha, hc]
  have hc4 : c ≤ 4 := by rw [← hc]; split <;> omega
  clear hF us
  by_cases hsa : a ≤ s
  · rw [if_pos hsa]
    have d1 : decide (a ≤ s) = true := decide_eq_true hsa
    go_enter Try.func13, Try.ntmps13
    go_wp2_with (fail)
    go_ret
    exact ⟨_, rfl, Kd.R_nil _ _ _ _ _, below_alloc (Below.refl _ _) _⟩
  · rw [if_neg hsa]
    have d1 : decide (a ≤ s) = false := decide_eq_false hsa
    go_enter Try.func13, Try.ntmps13
    go_wp2_with (fail)
    go_loopg [7, 8] c.toNat (fun kq v7 v8 w' => ∃ i : Nat, v8 = .int .i64 (i : Int) ∧ Aside0 (kq + i = c.toNat) ∧ Aside0 (Kd.R k49 49 w' w.heap.size (fun _ => True) v7 (seens M s i)) ∧ Aside0 (w'.heap[w.heap.size]? = some (.cells (cfg skus wares) 44 (0, 0))) ∧ Aside0 (Below w.heap.size w w'))
    case atStart => exact ⟨0, rfl, ⟨rfl⟩, ⟨Kd.R_nil _ _ _ _ _⟩, ⟨blk_new _ _⟩, ⟨below_alloc (Below.refl _ _) _⟩⟩
    case round =>
      obtain ⟨i, rfl, HI, HO, HK, HB1⟩ := hrel
      have kc : wr.cell? ⟨w.heap.size, 1, none⟩ = some (.int .i64 wares) := blk_cell HK.out 1
      have kf := blk_frozen HK.out 1
      cases gk with
      | zero =>
        have hi := HI.out
        have c2 : decide ((i : Int) < c) = false := decide_eq_false (by omega)
        go_wp2
        go_ret
        rw [show c.toNat = i by omega]
        exact ⟨_, rfl, HO.out, HB1.out⟩
      | succ k1 =>
        have hi := HI.out
        have c2 : decide ((i : Int) < c) = true := decide_eq_true (by omega)
        have hst : view_stock.f s (i : Int) = some (1, s, (i : Int)) := by unfold view_stock.f; rw [show s % 256 = s by omega, show (i : Int) % 256 = (i : Int) by omega]
        have ui : U8 (i : Int) := u8_iff.2 (by omega)
        have hsn := seens_succ M s i
        obtain ⟨x0, x1, x2, x3, x4, x5, hx⟩ : ∃ x0 x1 x2 x3 x4 x5, (M (1, s, (i : Int))).getD F6.zero = (x0, x1, x2, x3, x4, x5) := ⟨_, _, _, _, _, _, rfl⟩
        rw [seen_open M s i x0 x1 x2 x3 x4 x5 hx] at hsn
        have HSN := Aside0.mk hsn
        have hg : ∀ W, Below wr.heap.size wr W → Calls Try.prog 27 #[.pointer (some ⟨f, 0, none⟩), .agg #[.int .u8 1, .int .u8 s, .int .u8 (i : Int)]] W fun e w' =>
            e = .returned (.tuple #[.agg #[.int .i64 x0, .int .i64 x1, .int .i64 x2, .int .i64 x3, .int .i64 x4, .int .i64 x5], .bool (M (1, s, (i : Int))).isSome]) ∧ Below W.heap.size W w' := fun W hW => by
          have hW2 := below_step HB1.out hW
          exact fund_Get.calls W f t b n M 1 s i x0 x1 x2 x3 x4 x5 _ (HF.out.below hW2).fund (HF.out.below hW2).table (HF.out.below hW2).map (u8_iff.2 (by decide)) U.out ui hx rfl
        have HG := Aside0.mk hg
        have HST := Aside0.mk hst
        generalize (M (1, s, (i : Int))).isSome = sm at *
        clear hg hst ui hsn hx
        go_wp2_with (first
          | (go_at_call 35; ((with_reducible refine (view_stock.calls _ _ _ _ _ _ HST.out).mono ?_); rintro e w1 ⟨rfl, hbS⟩))
          | (go_at_call 27; ((with_reducible refine (HG.out _ hbS).mono ?_); rintro e w2 ⟨rfl, hb⟩; replace hb := below_step hbS hb))
          | ((with_reducible refine gate_builtin (b := .append) (xs := #[.tmp 33, .tmp 41]) rfl ?_); at_builtin; refine Kd.R_append k49 (w0 := w) w.heap.size rfl (.tmp 33) (.tmp 41) 45 49 (.agg #[.int .i64 0, .int .i64 0, .int .i64 0]) 24 rfl Try.underlying45 info49 rfl (by decide) (by decide) u7 (seens M s i) ⟨x3, x5, x4⟩ [.int .i64 x3, .int .i64 x5, .int .i64 x4] (fun _ => True) (fun _ => False) rfl ?aX (k49_mkM _ _ _ ⟨x3, x5, x4⟩) (fun _ hk => hk.elim) (fun _ _ => trivial) (Kd.R_alloc (Kd.R_below HO.out hb) _) (below_alloc (below_step HB1.out hb) _) (below_size (below_alloc (below_step HB1.out hb) _)) ?aL ?_; (case aX => (show Value.slice (some ⟨w2.heap.size + 1, 0, none⟩) 1 1 = _; simp)); (case aL => (simp [seens]; omega)); intro v1 w3 ho hb3 hg3 _))
        go_roundg k1
        case measure => omega
        case rel => exact ⟨i + 1, by simp, ⟨by omega⟩, ⟨by rw [HSN.out]; exact ho⟩, ⟨blk_grown (blk_alloc (blk_below HK.out hb) _) hg3 (Kd.R_ne HO.out HK.out (by decide))⟩, ⟨hb3⟩⟩
end Go.Proofs.Ytnipjfciphgfjaa.V
