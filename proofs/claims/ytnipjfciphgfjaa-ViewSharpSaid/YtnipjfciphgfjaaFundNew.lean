/- The walk of a fund's making. -/
import Derived.Test.YtnipjfciphgfjaaFundTell
namespace Go.Proofs.Ytnipjfciphgfjaa.V
open Go.RowKit Go.Proofs.Ytnipjfciphgfjaa.G Go.Proofs.YtnipjfciphgfjaaW.PrintWords Go.Proofs.YtnipjfciphgfjaaW.PrintLast Go.Proofs.YtnipjfciphgfjaaW.PrintMore
set_option linter.unusedVariables false
set_option linter.unusedSimpArgs false
set_option maxHeartbeats 2000000
set_option maxRecDepth 100000
/-- The field that a declaration makes, if it does. -/
def newOf (a b c : Int) : Option F6 := if a ≤ b ∧ b ≤ c then some (a, c, b, b, b, b) else none
def addDecl (M : Rowmap) (d : S60) : Rowmap := match newOf d.f1 d.f2 d.f3 with | some x => M.put (d.f0.f0, d.f0.f1, d.f0.f2) x | none => M
def newMap (l : List S60) : Rowmap := l.foldl addDecl (fun _ => none)
theorem newMap_snoc (l : List S60) (d : S60) : newMap (l ++ [d]) = addDecl (newMap l) d := by simp [newMap]
theorem take_succ_rd (l : List S60) (i : Nat) (h : i < l.length) : l.take (i + 1) = l.take i ++ [rd_T60 l (i : Int)] := by
  have e : rd_T60 l (i : Int) = l[i] := by simp [rd_T60, h]
  rw [e, List.take_append_getElem h]
theorem newMap_take (l : List S60) (i : Nat) (h : i < l.length) : newMap (l.take (i + 1)) = addDecl (newMap (l.take i)) (rd_T60 l (i : Int)) := by
  rw [take_succ_rd l i h, newMap_snoc]
theorem rd60_mem (l : List S60) (i : Nat) (h : i < l.length) : rd_T60 l (i : Int) ∈ l := by
  have e : rd_T60 l (i : Int) = l[i] := by simp [rd_T60, h]
  rw [e]; exact List.getElem_mem h
/-- A declaration's key may be one. -/
def DKey (d : S60) : Prop := U8 d.f0.f0 ∧ U8 d.f0.f1 ∧ U8 d.f0.f2
theorem field_New_eq (a0 a1 a2 a b c : Int) : field_New.f a0 a1 a2 a b c = some (match newOf a b c with | some x => (x.1, x.2.1, x.2.2.1, x.2.2.2.1, x.2.2.2.2.1, x.2.2.2.2.2, 0) | none => (0, 0, 0, 0, 0, 0, 3)) := by
  unfold field_New.f field_Good.f newOf
  simp only [mn, mx]
  by_cases h1 : a ≤ b
  · by_cases h2 : b ≤ c
    · simp [h1, h2]
    · simp [h1, h2]
  · simp [h1]
theorem grown_below {m : Nat} {w w' : World} {b : Nat} (h : w.grownBy w' (some b)) (hm : m ≤ w.heap.size) (hb : m ≤ b) : Below m w w' :=
  ⟨h.os, h.tape, h.output, h.size, fun i hi => h.block i (Nat.lt_of_lt_of_le hi hm) (by simp; omega)⟩
theorem fund_New.calls (w : World) (A : Option Addr) (c : Nat) (l : List S60) (hr : Kd.C k60 w A l.length l) (hc : l.length ≤ c) (hl : l.length ≤ 40) (hk : ∀ d ∈ l, DKey d) :
    Calls Try.prog 7 #[.slice A l.length c] w fun e w' => e = .returned (.pointer (some ⟨w.heap.size + 1 + 1, 0, none⟩)) ∧ Below w.heap.size w w' ∧ IsFund w' (w.heap.size + 1 + 1) (w.heap.size + 1) w.heap.size l.length (newMap l) := by
  have hF0 : IsFund (((w.alloc (.map #[] 0)).alloc (.cells #[.map (some w.heap.size)] 92 (0, 0))).alloc (.cells #[.pointer (some ⟨w.heap.size + 1, 0, none⟩)] 66 (0, 0))) (w.heap.size + 1 + 1) (w.heap.size + 1) w.heap.size 0 (fun _ => none) := by
    refine ⟨?_, ?_, ?_⟩
    · have z := blk_new ((w.alloc (.map #[] 0)).alloc (.cells #[.map (some w.heap.size)] 92 (0, 0))) (.cells #[.pointer (some ⟨w.heap.size + 1, 0, none⟩)] 66 (0, 0))
      simpa using z
    · have z := blk_alloc (blk_new (w.alloc (.map #[] 0)) (.cells #[.map (some w.heap.size)] 92 (0, 0))) (.cells #[.pointer (some ⟨w.heap.size + 1, 0, none⟩)] 66 (0, 0))
      simpa using z
    · refine (Tab.made w).kept ?_
      rw [Below.heap_alloc _ _ _ (by simp; omega), Below.heap_alloc _ _ _ (by simp)]
  have HF0 := Aside0.mk hF0
  clear hF0
  have HR0 := Aside0.mk hr
  have HC0 := Aside0.mk hc
  have HL := Aside0.mk hl
  have HK := Aside0.mk hk
  clear hr hc hl hk
  go_enter Try.func7, Try.ntmps7
  go_wp2_with (go_at_call 21; ((with_reducible refine (table_New.calls _).mono ?_); rintro e w1 ⟨rfl, rfl⟩))
  go_loopg [13] l.length (fun kq v13 w' => ∃ i : Nat, v13 = .int .i64 (i : Int) ∧ Aside0 (kq + i = l.length) ∧ Aside0 (IsFund w' (w.heap.size + 1 + 1) (w.heap.size + 1) w.heap.size i (newMap (l.take i))) ∧ Aside0 (Below w.heap.size w w'))
  case atStart => exact ⟨0, rfl, ⟨rfl⟩, HF0, ⟨below_alloc (below_alloc (below_alloc (Below.refl _ _) _) _) _⟩⟩
  case round =>
    obtain ⟨i, rfl, HI, HF, HB⟩ := hrel
    cases gk with
    | zero =>
      have hi : i = l.length := by have := HI.out; omega
      have c2 : decide ((i : Int) < (l.length : Int)) = false := decide_eq_false (by omega)
      clear HK HF0
      go_wp2
      go_ret
      exact ⟨rfl, HB.out, by have := HF.out; rw [hi, List.take_length] at this; exact this⟩
    | succ k1 =>
      have hi : i < l.length := by have := HI.out; omega
      have c2 : decide ((i : Int) < (l.length : Int)) = true := decide_eq_true (by omega)
      obtain ⟨ad, e0, hx0, hx1, hx2, hx3, hx4, hx5⟩ := at_T60 HR0.out (i : Int) (by omega) (by omega)
      cases e0
      replace hx0 := (HB.out.cell (World.block_lt_of_cell? w _ hx0)).trans hx0
      replace hx1 := (HB.out.cell (World.block_lt_of_cell? w _ hx1)).trans hx1
      replace hx2 := (HB.out.cell (World.block_lt_of_cell? w _ hx2)).trans hx2
      replace hx3 := (HB.out.cell (World.block_lt_of_cell? w _ hx3)).trans hx3
      replace hx4 := (HB.out.cell (World.block_lt_of_cell? w _ hx4)).trans hx4
      replace hx5 := (HB.out.cell (World.block_lt_of_cell? w _ hx5)).trans hx5
      have hN := newMap_take l i hi
      have hD := HK.out _ (rd60_mem l i hi)
      have p0 : (0 ≤ (i : Int)) = True := eq_true (by omega)
      have q0 : ((i : Int) < (l.length : Int)) = True := eq_true (by omega)
      have hHI := HI.out
      have hHL := HL.out
      generalize rd_T60 l (i : Int) = d at *
      obtain ⟨⟨k0, k1', k2⟩, x0, x1, x2⟩ := d
      simp only [Int.toNat_natCast] at hx0 hx1 hx2 hx3 hx4 hx5
      have HN := Aside0.mk hN
      have HD := Aside0.mk hD
      clear hN hD
      have hnew := field_New_eq k0 k1' k2 x0 x1 x2
      simp only [addDecl] at HN
      cases hc : newOf x0 x1 x2 with
      | none =>
        rw [hc] at hnew
        have HNE := Aside0.mk hnew
        clear hnew
        go_wp2_with (go_at_call 22; ((with_reducible refine (field_New.calls _ _ _ _ _ _ _ _ _ _ _ _ _ _ HNE.out).mono ?_); rintro e w1 ⟨rfl, hb⟩; obtain ⟨hcc, hff⟩ := bcell hb))
        have h3 : Below wr.heap.size wr (w1.alloc (.cells #[.int .i64 0, .int .i64 0, .int .i64 0, .int .i64 0, .int .i64 0, .int .i64 0] 64 (0, 0))) := below_alloc (below_step (below_alloc (Below.refl _ _) _) hb) _
        go_roundg k1
        case measure => omega
        case rel =>
          refine ⟨i + 1, by simp, ⟨by omega⟩, ⟨?_⟩, ⟨below_step HB.out h3⟩⟩
          rw [HN.out, hc]
          exact (HF.out.below h3).mono (Nat.le_succ i)
      | some y =>
        rw [hc] at hnew
        obtain ⟨y0, y1, y2, y3, y4, y5⟩ := y
        have HNE := Aside0.mk hnew
        clear hnew
        have hput : ∀ W, Below wr.heap.size wr W → Calls Try.prog 23 #[.pointer (some ⟨w.heap.size + 1, 0, none⟩), .agg #[.int .u8 k0, .int .u8 k1', .int .u8 k2], .agg #[.int .i64 y0, .int .i64 y1, .int .i64 y2, .int .i64 y3, .int .i64 y4, .int .i64 y5]] W fun e w' =>
            e = .returned (.tuple #[]) ∧ wr.grownBy w' (some w.heap.size) ∧ IsFund w' (w.heap.size + 1 + 1) (w.heap.size + 1) w.heap.size (i + 1) ((newMap (l.take i)).put (k0, k1', k2) (y0, y1, y2, y3, y4, y5)) := fun W hW =>
          (table_Put.calls W _ _ _ _ k0 k1' k2 y0 y1 y2 y3 y4 y5 (HF.out.below hW).table (HF.out.below hW).map (Nat.lt_of_le_of_lt (show i ≤ 40 by omega) (by decide)) HD.out.1 HD.out.2.1 HD.out.2.2).mono (fun e w' ⟨e1, e2, e3⟩ => by
            have g : wr.grownBy w' (some w.heap.size) := ⟨e2.os.trans hW.os, e2.tape.trans hW.tape, e2.output.trans hW.output, Nat.le_trans hW.size e2.size, fun i hi hr => (e2.block i (Nat.lt_of_lt_of_le hi hW.size) hr).trans (hW.block i hi)⟩
            exact ⟨e1, g, HF.out.grown g e3⟩)
        have HPUT := Aside0.mk hput
        clear hput
        have hcF : wr.cell? ⟨w.heap.size + 1 + 1, 0, none⟩ = some (.pointer (some ⟨w.heap.size + 1, 0, none⟩)) := blk_cell HF.out.fund 0
        have hltF := World.block_lt_of_cell? _ _ hcF
        go_wp2_with (go_at_call 22; ((with_reducible refine (field_New.calls _ _ _ _ _ _ _ _ _ _ _ _ _ _ HNE.out).mono ?_); rintro e w1 ⟨rfl, hb⟩; obtain ⟨hcc, hff⟩ := bcell hb))
        have h3 : Below wr.heap.size wr w1 := below_step (below_alloc (Below.refl _ _) _) hb
        have hz1 : wr.heap.size < w1.heap.size := (by have := hb.size; simp at this; omega)
        have kf : w1.cell? ⟨w.heap.size + 1 + 1, 0, none⟩ = some (.pointer (some ⟨w.heap.size + 1, 0, none⟩)) := (h3.cell hltF).trans hcF
        have hltW : w.heap.size + 1 + 1 < w1.heap.size := Nat.lt_trans hltF hz1
        have j0 : w1.cell? ⟨wr.heap.size, 0, none⟩ = some (.int .u8 k0) := by simp [hcc, go_sem]
        have j1 : w1.cell? ⟨wr.heap.size, 1, none⟩ = some (.int .u8 k1') := by simp [hcc, go_sem]
        have j2 : w1.cell? ⟨wr.heap.size, 2, none⟩ = some (.int .u8 k2) := by simp [hcc, go_sem]
        clear hcc hff hb hx0 hx1 hx2 hx3 hx4 hx5
        go_region_with (go_at_call 23; ((with_reducible refine (HPUT.out _ (below_drew1 (below_alloc h3 _))).mono ?_); rintro e w3 ⟨rfl, hg3, hF3⟩))
        all_goals go_wp2
        all_goals
          go_roundg k1
          case measure => omega
          case rel =>
            refine ⟨i + 1, by simp, ⟨by omega⟩, ⟨?_⟩, ⟨HB.out.grown hg3 (below_size HB.out) (fun k hk => by cases hk; exact Nat.le_refl _)⟩⟩
            rw [HN.out, hc]
            exact hF3
end Go.Proofs.Ytnipjfciphgfjaa.V
