/- What may be taken and put of a fund, and what is seen, is as the document says: the law ViewSays of the program's view layer answers true at every input, and leaves its input as it was: the row, out of the walk and the plain laws. -/
import Derived.Test.YtnipjfciphgfjaaSays13
/- Just so much may be taken: what an addition's grant hangs on, in plain Lean. -/
namespace Go.Proofs.Ytnipjfciphgfjaa.V
open Go.RowKit Go.Proofs.Ytnipjfciphgfjaa.G Go.Proofs.YtnipjfciphgfjaaW.PrintWords Go.Proofs.YtnipjfciphgfjaaW.PrintLast Go.Proofs.YtnipjfciphgfjaaW.PrintMore
set_option linter.unusedVariables false
set_option linter.unusedSimpArgs false
theorem zero_far : farV 0 0 = 0 := by decide +kernel
theorem sharp (M : Rowmap) (h : WF M) (k : Int × Int × Int) (d : Int) (hd : In64 d) :
    0 ≤ freeAt M k ∧ 0 ≤ roomAt M k ∧ (d = 0 ∨ d = -9223372036854775808 → (stepOf grantOf M k d).2 ≠ 0) ∧
    (d < 0 → d ≠ -9223372036854775808 → ((stepOf grantOf M k d).2 = 0 ↔ -d ≤ freeAt M k)) ∧ (0 < d → ((stepOf grantOf M k d).2 = 0 ↔ d ≤ roomAt M k)) := by
  unfold freeAt roomAt stepOf
  cases hM : M k with
  | none =>
    simp only [Option.getD_none, F6.zero, zero_far]
    refine ⟨by decide, by decide, fun _ => by decide, fun h1 h2 => ⟨fun z => absurd z (by decide), fun z => by omega⟩, fun h1 => ⟨fun z => absurd z (by decide), fun z => by omega⟩⟩
  | some x =>
    obtain ⟨x0, x1, x2, x3, x4, x5⟩ := x
    obtain ⟨hx, hg⟩ := h k _ hM
    simp only [Option.getD_some]
    have g := hg
    simp only [Good6, GoodP] at g
    have h7 : In7 x0 x1 x2 x3 x4 x5 d := ⟨hx.1, hx.2.1, hx.2.2.1, hx.2.2.2.1, hx.2.2.2.2.1, hx.2.2.2.2.2, hd⟩
    rw [farV_eq hx.1 hx.2.2.2.1, farV_eq hx.2.2.2.2.1 hx.2.1, if_neg (show ¬ x3 < x0 by omega), if_neg (show ¬ x1 < x4 by omega)]
    have hin := h7
    unfold In7 In64 at hin
    by_cases gr : Gr x0 x1 x2 x3 x4 x5 d
    · have e : (grantOf (x0, x1, x2, x3, x4, x5) d).2 = 0 := by simp only [grantOf, grantP_yes h7 gr, sixOf]
      simp only [if_pos e]
      obtain ⟨_, d0, d1, r1, r2⟩ := gr
      unfold infOf at r1
      unfold supOf at r2
      refine ⟨by split <;> omega, by split <;> omega, fun z => by omega, fun z1 z2 => ⟨fun _ => ?_, fun _ => trivial⟩, fun z1 => ⟨fun _ => ?_, fun _ => trivial⟩⟩
      · rw [if_pos z1] at r1; split <;> omega
      · rw [if_neg (by omega)] at r2; split <;> omega
    · obtain ⟨e, he, hr⟩ := grantP_no h7 gr
      have e2 : (grantOf (x0, x1, x2, x3, x4, x5) d).2 = e := by simp only [grantOf, hr, sixOf]
      simp only [e2, if_neg he]
      refine ⟨by split <;> omega, by split <;> omega, fun z => he, fun z1 z2 => ⟨fun z => absurd z he, fun z => ?_⟩, fun z1 => ⟨fun z => absurd z he, fun z => ?_⟩⟩
      · exfalso
        apply gr
        refine ⟨hg, by omega, z2, ?_, ?_⟩
        · unfold infOf; rw [if_pos z1]; split at z <;> omega
        · unfold supOf; rw [if_pos z1]; omega
      · exfalso
        apply gr
        refine ⟨hg, by omega, by omega, ?_, ?_⟩
        · unfold infOf; rw [if_neg (by omega)]; omega
        · unfold supOf; rw [if_neg (by omega)]; split at z <;> omega
end Go.Proofs.Ytnipjfciphgfjaa.V
/- The walk of the law ViewSharp: it answers true. -/
namespace Go.Proofs.Ytnipjfciphgfjaa.V
open Go.RowKit Go.Proofs.Ytnipjfciphgfjaa.G Go.Proofs.YtnipjfciphgfjaaW.PrintWords Go.Proofs.YtnipjfciphgfjaaW.PrintLast Go.Proofs.YtnipjfciphgfjaaW.PrintMore
set_option linter.unusedVariables false
set_option linter.unusedSimpArgs false
set_option maxHeartbeats 2000000
set_option maxRecDepth 100000
/-- A grant, of all that is in order. -/
theorem grant_in (w : World) (f t b n : Nat) (M : Rowmap) (k0 k1 k2 d : Int) (hF : IsFund w f t b n M) (hn : n < maxLen) (hW : WF M) (ho : OIn ⟨⟨k0, k1, k2⟩, d⟩) :
    Calls Try.prog 8 #[.pointer (some ⟨f, 0, none⟩), .agg #[.int .u8 k0, .int .u8 k1, .int .u8 k2, .int .i64 d]] w fun e w' =>
      e = .returned (.int .i64 (stepOf grantOf M (k0, k1, k2) d).2) ∧ w.grownBy w' (some b) ∧ IsFund w' f t b (n + 1) (stepOf grantOf M (k0, k1, k2) d).1 :=
  fund_Grant.calls grantOf w f t b n M k0 k1 k2 d hF hn ho.1 ho.2.1 ho.2.2.1 (fun x hx => makes_grant x d (hW _ x hx).1 ho.2.2.2)
theorem free_in (w : World) (f t b n : Nat) (M : Rowmap) (k0 k1 k2 : Int) (hF : IsFund w f t b n M) (u0 : U8 k0) (u1 : U8 k1) (u2 : U8 k2) :
    Calls Try.prog 9 #[.pointer (some ⟨f, 0, none⟩), .agg #[.int .u8 k0, .int .u8 k1, .int .u8 k2]] w fun e w' => e = .returned (.int .i64 (freeAt M (k0, k1, k2))) ∧ Below w.heap.size w w' :=
  view_Free.calls w f t b n M k0 k1 k2 _ _ _ _ _ _ _ hF u0 u1 u2 rfl (view_far_eq _ _)
theorem room_in (w : World) (f t b n : Nat) (M : Rowmap) (k0 k1 k2 : Int) (hF : IsFund w f t b n M) (u0 : U8 k0) (u1 : U8 k1) (u2 : U8 k2) :
    Calls Try.prog 10 #[.pointer (some ⟨f, 0, none⟩), .agg #[.int .u8 k0, .int .u8 k1, .int .u8 k2]] w fun e w' => e = .returned (.int .i64 (roomAt M (k0, k1, k2))) ∧ Below w.heap.size w w' :=
  view_Room.calls w f t b n M k0 k1 k2 _ _ _ _ _ _ _ hF u0 u1 u2 rfl (view_far_eq _ _)
theorem ViewSharp.calls (w : World) (A B : Option Addr) (c1 c2 : Nat) (l : List S60) (ops : List S27) (k0 k1 k2 d : Int) (hr : Kd.C k60 w A l.length l) (hc : l.length ≤ c1) (hl : ∀ x ∈ l, DKey x ∧ DIn x) (hr2 : Kd.C k27 w B ops.length ops) (hc2 : ops.length ≤ c2) (hops : ∀ x ∈ ops, OIn x) (ho : OIn ⟨⟨k0, k1, k2⟩, d⟩) (hml : l.length ≤ maxLen) (hmo : ops.length ≤ maxLen) :
    Calls Try.prog 3 #[.slice A l.length c1, .slice B ops.length c2, .agg #[.int .u8 k0, .int .u8 k1, .int .u8 k2, .int .i64 d]] w fun e w' => e = .returned (.bool true) ∧ Below w.heap.size w w' := by
  have HR := Aside0.mk hr
  have HC := Aside0.mk hc
  have HL := Aside0.mk hl
  have HR2 := Aside0.mk hr2
  have HC2 := Aside0.mk hc2
  have HOPS := Aside0.mk hops
  have HO := Aside0.mk ho
  clear hr hc hl hr2 hc2 hops ho
  by_cases h1 : (40 : Int) < (l.length : Int)
  · have e1 : decide ((40 : Int) < (l.length : Int)) = true := decide_eq_true h1
    go_enter Try.func3, Try.ntmps3
    go_wp2_with (go_at_call 6; ((with_reducible refine (works.calls _).mono ?_); rintro e w1 ⟨rfl, hb1⟩))
    go_ret
    exact ⟨rfl, below_step (below_alloc (Below.refl _ _) _) hb1⟩
  · have e1 : decide ((40 : Int) < (l.length : Int)) = false := decide_eq_false h1
    by_cases h2 : (40 : Int) < (ops.length : Int)
    · have e2 : decide ((40 : Int) < (ops.length : Int)) = true := decide_eq_true h2
      go_enter Try.func3, Try.ntmps3
      go_wp2_with (go_at_call 6; ((with_reducible refine (works.calls _).mono ?_); rintro e w1 ⟨rfl, hb1⟩))
      go_ret
      exact ⟨rfl, below_step (below_alloc (Below.refl _ _) _) hb1⟩
    · have e2 : decide ((40 : Int) < (ops.length : Int)) = false := decide_eq_false h2
      have HL40 : Aside0 (l.length ≤ 40) := ⟨by omega⟩
      have HO40 : Aside0 (ops.length ≤ 40) := ⟨by omega⟩
      go_enter Try.func3, Try.ntmps3
      go_wp2_with (go_at_call 7; ((with_reducible refine (fund_New'.calls _ A c1 l (Kd.C_alloc HR.out _) HC.out HL40.out (fun x hx => (HL.out x hx).1)).mono ?_); rintro e w1 ⟨f, t, b, rfl, hb1, hF1, hbb⟩))
      have HB1 := Aside0.mk (below_step (below_alloc (Below.refl _ _) _) hb1)
      have HK1 := Aside0.mk (blk_below (blk_new _ _) hb1)
      have HF1 := Aside0.mk (hF1.mono HL40.out)
      have HBB := Aside0.mk (Nat.lt_of_lt_of_le (show w.heap.size < (w.alloc _).heap.size by simp) hbb)
      have HW0 := Aside0.mk (WF.new l (fun x hx => (HL.out x hx).2))
      clear hb1 hF1 hbb
      go_wp2
      go_loopg [8] ops.length (fun kq v8 w' => ∃ i : Nat, v8 = .int .i64 (i : Int) ∧ Aside0 (kq + i = ops.length) ∧ Aside0 (IsFund w' f t b (40 + i) (grants (newMap l) (ops.take i))) ∧ Aside0 (w'.heap[w.heap.size]? = some (.cells #[.int .u8 k0, .int .u8 k1, .int .u8 k2, .int .i64 d] 27 (0, 0))) ∧ Aside0 (Below w.heap.size w w'))
      case atStart => exact ⟨0, rfl, ⟨rfl⟩, HF1, HK1, HB1⟩
      case round =>
        clear HF1 HK1 HB1
        obtain ⟨i, rfl, HI, HF, HK, HB⟩ := hrel
        have HWi := Aside0.mk (HW0.out.grants (ops.take i) (fun x hx => HOPS.out x (List.mem_of_mem_take hx)))
        cases gk with
        | zero =>
          have hi := HI.out
          have c2 : decide ((i : Int) < (ops.length : Int)) = false := decide_eq_false (by omega)
          have c2' : decide (i < ops.length) = false := decide_eq_false (by omega)
          have hio : i ≤ 40 := by have := HO40.out; omega
          have HN : Aside0 (40 + i < maxLen) := ⟨Nat.lt_of_le_of_lt (show 40 + i ≤ 80 by omega) (by decide)⟩
          clear hi hio
          generalize grants (newMap l) (ops.take i) = M at HF HWi
          have kc0 : wr.cell? ⟨w.heap.size, 0, none⟩ = some (.int .u8 k0) := (blk_cell HK.out 0).trans rfl
          have kc1 : wr.cell? ⟨w.heap.size, 1, none⟩ = some (.int .u8 k1) := (blk_cell HK.out 1).trans rfl
          have kc2 : wr.cell? ⟨w.heap.size, 2, none⟩ = some (.int .u8 k2) := (blk_cell HK.out 2).trans rfl
          have kc3 : wr.cell? ⟨w.heap.size, 3, none⟩ = some (.int .i64 d) := (blk_cell HK.out 3).trans rfl
          have hsh := sharp M HWi.out (k0, k1, k2) d HO.out.2.2.2
          obtain ⟨fr, hfr⟩ : ∃ fr, freeAt M (k0, k1, k2) = fr := ⟨_, rfl⟩
          obtain ⟨rm, hrm⟩ : ∃ rm, roomAt M (k0, k1, k2) = rm := ⟨_, rfl⟩
          obtain ⟨ev, hev⟩ : ∃ ev, (stepOf grantOf M (k0, k1, k2) d).2 = ev := ⟨_, rfl⟩
          rw [hfr, hrm, hev] at hsh
          have HFREE : Aside0 (∀ W, Below wr.heap.size wr W → Calls Try.prog 9 #[.pointer (some ⟨f, 0, none⟩), .agg #[.int .u8 k0, .int .u8 k1, .int .u8 k2]] W fun e w' => e = .returned (.int .i64 fr) ∧ Below W.heap.size W w') :=
            ⟨fun W hW => by rw [← hfr]; exact free_in W f t b _ M k0 k1 k2 (HF.out.below hW) HO.out.1 HO.out.2.1 HO.out.2.2.1⟩
          have HROOM : Aside0 (∀ W, Below wr.heap.size wr W → Calls Try.prog 10 #[.pointer (some ⟨f, 0, none⟩), .agg #[.int .u8 k0, .int .u8 k1, .int .u8 k2]] W fun e w' => e = .returned (.int .i64 rm) ∧ Below W.heap.size W w') :=
            ⟨fun W hW => by rw [← hrm]; exact room_in W f t b _ M k0 k1 k2 (HF.out.below hW) HO.out.1 HO.out.2.1 HO.out.2.2.1⟩
          have HGRANT : Aside0 (∀ W, Below wr.heap.size wr W → Calls Try.prog 8 #[.pointer (some ⟨f, 0, none⟩), .agg #[.int .u8 k0, .int .u8 k1, .int .u8 k2, .int .i64 d]] W fun e w' => e = .returned (.int .i64 ev) ∧ Below w.heap.size w w' ∧ w'.heap[w.heap.size]? = some (.cells #[.int .u8 k0, .int .u8 k1, .int .u8 k2, .int .i64 d] 27 (0, 0))) :=
            ⟨fun W hW => by
              rw [← hev]
              refine (grant_in W f t b _ M k0 k1 k2 d (HF.out.below hW) HN.out HWi.out HO.out).mono ?_
              rintro e w' ⟨g1, g2, g3⟩
              exact ⟨g1, (below_step HB.out hW).grown g2 (below_size (below_step HB.out hW)) (fun k hk => by cases hk; exact Nat.le_of_lt HBB.out), blk_grown (blk_below HK.out hW) g2 (fun hk => by injection hk with hk; exact absurd HBB.out (by rw [hk]; exact Nat.lt_irrefl _))⟩⟩
          have HSH := Aside0.mk hsh
          have HO' := Aside0.mk HO.out.2.2.2
          clear hsh hfr hrm hev
          go_wp2
          go_region_with (first
            | (go_at_call 9; ((with_reducible refine (HFREE.out _ ?bb).mono ?_); (case bb => first | exact below_drew1 (Below.refl _ _) | exact hS10); rintro e w2 ⟨rfl, hb2⟩; have hS9 : Below wr.heap.size wr w2 := (by first | exact below_step (below_drew1 (Below.refl _ _)) hb2 | exact below_step hS10 hb2); clear hb2; have q0 := (hS9.cell (World.block_lt_of_cell? _ _ kc0)).trans kc0; have q1 := (hS9.cell (World.block_lt_of_cell? _ _ kc1)).trans kc1; have q2 := (hS9.cell (World.block_lt_of_cell? _ _ kc2)).trans kc2; have q3 := (hS9.cell (World.block_lt_of_cell? _ _ kc3)).trans kc3))
            | (go_at_call 10; ((with_reducible refine (HROOM.out _ ?bb).mono ?_); (case bb => first | exact below_drew1 (Below.refl _ _) | exact hS9); rintro e w3 ⟨rfl, hb3⟩; have hS10 : Below wr.heap.size wr w3 := (by first | exact below_step (below_drew1 (Below.refl _ _)) hb3 | exact below_step hS9 hb3); clear hb3; have r0 := (hS10.cell (World.block_lt_of_cell? _ _ kc0)).trans kc0; have r1 := (hS10.cell (World.block_lt_of_cell? _ _ kc1)).trans kc1; have r2 := (hS10.cell (World.block_lt_of_cell? _ _ kc2)).trans kc2; have r3 := (hS10.cell (World.block_lt_of_cell? _ _ kc3)).trans kc3)))
          all_goals obtain ⟨f1, f2, f3, f4, f5⟩ := HSH.out
          all_goals
            rcases (show d = 0 ∨ d = -9223372036854775808 ∨ (d < 0 ∧ d ≠ -9223372036854775808 ∧ ev = 0) ∨ (d < 0 ∧ d ≠ -9223372036854775808 ∧ ¬ ev = 0) ∨ (0 < d ∧ ev = 0) ∨ (0 < d ∧ ¬ ev = 0) by omega) with z | z | ⟨z, z1, z2⟩ | ⟨z, z1, z2⟩ | ⟨z, z2⟩ | ⟨z, z2⟩
            · have y := f3 (.inl z)
              have e1 : (ev == 0) = false := beq_eq_false_iff_ne.mpr (by omega)
              have e1' : (ev != 0) = true := bne_iff_ne.mpr (by omega)
              have e1'' : decide (ev = 0) = false := decide_eq_false (by omega)
              clear f1 f2 f3 f4 f5
              clear y
              subst z
              go_wp2_with (first
                | (go_at_call 8; (first | (with_reducible refine (HGRANT.out _ hS10).mono ?_) | (with_reducible refine (HGRANT.out _ hS9).mono ?_)); rintro e w4 ⟨rfl, hB4, hK4⟩; have HB4 := Aside0.mk hB4; have HK4 := Aside0.mk hK4; clear hB4 hK4; have zc := (blk_cell HK4.out 3).trans rfl)
                | (go_at_call 6; ((with_reducible refine (works.calls _).mono ?_); rintro e w5 ⟨rfl, hb5⟩)))
              go_ret
              exact ⟨rfl, below_step HB4.out hb5⟩
            · have y := f3 (.inr z)
              have e1 : (ev == 0) = false := beq_eq_false_iff_ne.mpr (by omega)
              have e1' : (ev != 0) = true := bne_iff_ne.mpr (by omega)
              have e1'' : decide (ev = 0) = false := decide_eq_false (by omega)
              clear f1 f2 f3 f4 f5
              clear y
              subst z
              go_wp2_with (first
                | (go_at_call 8; (first | (with_reducible refine (HGRANT.out _ hS10).mono ?_) | (with_reducible refine (HGRANT.out _ hS9).mono ?_)); rintro e w4 ⟨rfl, hB4, hK4⟩; have HB4 := Aside0.mk hB4; have HK4 := Aside0.mk hK4; clear hB4 hK4; have zc := (blk_cell HK4.out 3).trans rfl)
                | (go_at_call 6; ((with_reducible refine (works.calls _).mono ?_); rintro e w5 ⟨rfl, hb5⟩)))
              go_ret
              exact ⟨rfl, below_step HB4.out hb5⟩
            · have y := (f4 z z1).1 z2
              have e3 : (d == 0) = false := beq_eq_false_iff_ne.mpr (by omega)
              have e3' : (d != 0) = true := bne_iff_ne.mpr (by omega)
              have e3'' : decide (d = 0) = false := decide_eq_false (by omega)
              have e4 : (d == -9223372036854775808) = false := beq_eq_false_iff_ne.mpr (by omega)
              have e4' : (d != -9223372036854775808) = true := bne_iff_ne.mpr (by omega)
              have e4'' : decide (d = -9223372036854775808) = false := decide_eq_false (by omega)
              have e5 : decide (d < 0) = true := decide_eq_true (by omega)
              have e6 : decide (0 < d) = false := decide_eq_false (by omega)
              have e7 : decide (-d ≤ fr) = true := decide_eq_true (by omega)
              have zw : wrap64 (-d) = -d := by have := HO'.out; unfold In64 at this; unfold wrap64; omega
              have g1 : decide (0 ≤ fr) = true := decide_eq_true (by omega)
              have g2 : decide (0 ≤ rm) = true := decide_eq_true (by omega)
              clear f1 f2 f3 f4 f5
              clear y z z1
              subst z2
              go_wp2_with (first
                | (go_at_call 8; (first | (with_reducible refine (HGRANT.out _ hS10).mono ?_) | (with_reducible refine (HGRANT.out _ hS9).mono ?_)); rintro e w4 ⟨rfl, hB4, hK4⟩; have HB4 := Aside0.mk hB4; have HK4 := Aside0.mk hK4; clear hB4 hK4; have zc := (blk_cell HK4.out 3).trans rfl)
                | (go_at_call 6; ((with_reducible refine (works.calls _).mono ?_); rintro e w5 ⟨rfl, hb5⟩)))
              go_ret
              exact ⟨rfl, below_step HB4.out hb5⟩
            · have y : ¬ -d ≤ fr := fun q => z2 ((f4 z z1).2 q)
              have e1 : (ev == 0) = false := beq_eq_false_iff_ne.mpr (by omega)
              have e1' : (ev != 0) = true := bne_iff_ne.mpr (by omega)
              have e1'' : decide (ev = 0) = false := decide_eq_false (by omega)
              have e3 : (d == 0) = false := beq_eq_false_iff_ne.mpr (by omega)
              have e3' : (d != 0) = true := bne_iff_ne.mpr (by omega)
              have e3'' : decide (d = 0) = false := decide_eq_false (by omega)
              have e4 : (d == -9223372036854775808) = false := beq_eq_false_iff_ne.mpr (by omega)
              have e4' : (d != -9223372036854775808) = true := bne_iff_ne.mpr (by omega)
              have e4'' : decide (d = -9223372036854775808) = false := decide_eq_false (by omega)
              have e5 : decide (d < 0) = true := decide_eq_true (by omega)
              have e6 : decide (0 < d) = false := decide_eq_false (by omega)
              have e7 : decide (-d ≤ fr) = false := decide_eq_false (by omega)
              have zw : wrap64 (-d) = -d := by have := HO'.out; unfold In64 at this; unfold wrap64; omega
              have g1 : decide (0 ≤ fr) = true := decide_eq_true (by omega)
              have g2 : decide (0 ≤ rm) = true := decide_eq_true (by omega)
              clear f1 f2 f3 f4 f5
              clear y z z1 z2
              go_wp2_with (first
                | (go_at_call 8; (first | (with_reducible refine (HGRANT.out _ hS10).mono ?_) | (with_reducible refine (HGRANT.out _ hS9).mono ?_)); rintro e w4 ⟨rfl, hB4, hK4⟩; have HB4 := Aside0.mk hB4; have HK4 := Aside0.mk hK4; clear hB4 hK4; have zc := (blk_cell HK4.out 3).trans rfl)
                | (go_at_call 6; ((with_reducible refine (works.calls _).mono ?_); rintro e w5 ⟨rfl, hb5⟩)))
              go_ret
              exact ⟨rfl, below_step HB4.out hb5⟩
            · have y := (f5 z).1 z2
              have e3 : (d == 0) = false := beq_eq_false_iff_ne.mpr (by omega)
              have e3' : (d != 0) = true := bne_iff_ne.mpr (by omega)
              have e3'' : decide (d = 0) = false := decide_eq_false (by omega)
              have e4 : (d == -9223372036854775808) = false := beq_eq_false_iff_ne.mpr (by omega)
              have e4' : (d != -9223372036854775808) = true := bne_iff_ne.mpr (by omega)
              have e4'' : decide (d = -9223372036854775808) = false := decide_eq_false (by omega)
              have e5 : decide (d < 0) = false := decide_eq_false (by omega)
              have e6 : decide (0 < d) = true := decide_eq_true (by omega)
              have e7 : decide (d ≤ rm) = true := decide_eq_true (by omega)
              have g1 : decide (0 ≤ fr) = true := decide_eq_true (by omega)
              have g2 : decide (0 ≤ rm) = true := decide_eq_true (by omega)
              clear f1 f2 f3 f4 f5
              clear y z
              subst z2
              go_wp2_with (first
                | (go_at_call 8; (first | (with_reducible refine (HGRANT.out _ hS10).mono ?_) | (with_reducible refine (HGRANT.out _ hS9).mono ?_)); rintro e w4 ⟨rfl, hB4, hK4⟩; have HB4 := Aside0.mk hB4; have HK4 := Aside0.mk hK4; clear hB4 hK4; have zc := (blk_cell HK4.out 3).trans rfl)
                | (go_at_call 6; ((with_reducible refine (works.calls _).mono ?_); rintro e w5 ⟨rfl, hb5⟩)))
              go_ret
              exact ⟨rfl, below_step HB4.out hb5⟩
            · have y : ¬ d ≤ rm := fun q => z2 ((f5 z).2 q)
              have e1 : (ev == 0) = false := beq_eq_false_iff_ne.mpr (by omega)
              have e1' : (ev != 0) = true := bne_iff_ne.mpr (by omega)
              have e1'' : decide (ev = 0) = false := decide_eq_false (by omega)
              have e3 : (d == 0) = false := beq_eq_false_iff_ne.mpr (by omega)
              have e3' : (d != 0) = true := bne_iff_ne.mpr (by omega)
              have e3'' : decide (d = 0) = false := decide_eq_false (by omega)
              have e4 : (d == -9223372036854775808) = false := beq_eq_false_iff_ne.mpr (by omega)
              have e4' : (d != -9223372036854775808) = true := bne_iff_ne.mpr (by omega)
              have e4'' : decide (d = -9223372036854775808) = false := decide_eq_false (by omega)
              have e5 : decide (d < 0) = false := decide_eq_false (by omega)
              have e6 : decide (0 < d) = true := decide_eq_true (by omega)
              have e7 : decide (d ≤ rm) = false := decide_eq_false (by omega)
              have g1 : decide (0 ≤ fr) = true := decide_eq_true (by omega)
              have g2 : decide (0 ≤ rm) = true := decide_eq_true (by omega)
              clear f1 f2 f3 f4 f5
              clear y z z2
              go_wp2_with (first
                | (go_at_call 8; (first | (with_reducible refine (HGRANT.out _ hS10).mono ?_) | (with_reducible refine (HGRANT.out _ hS9).mono ?_)); rintro e w4 ⟨rfl, hB4, hK4⟩; have HB4 := Aside0.mk hB4; have HK4 := Aside0.mk hK4; clear hB4 hK4; have zc := (blk_cell HK4.out 3).trans rfl)
                | (go_at_call 6; ((with_reducible refine (works.calls _).mono ?_); rintro e w5 ⟨rfl, hb5⟩)))
              go_ret
              exact ⟨rfl, below_step HB4.out hb5⟩
        | succ k' =>
          have hi : i < ops.length := by have := HI.out; omega
          have c2 : decide ((i : Int) < (ops.length : Int)) = true := decide_eq_true (by omega)
          obtain ⟨ad, e0, hx0, hx1, hx2, hx3⟩ := at_T27 HR2.out (i : Int) (by omega) (by omega)
          cases e0
          replace hx0 := (HB.out.cell (World.block_lt_of_cell? w _ hx0)).trans hx0
          replace hx1 := (HB.out.cell (World.block_lt_of_cell? w _ hx1)).trans hx1
          replace hx2 := (HB.out.cell (World.block_lt_of_cell? w _ hx2)).trans hx2
          replace hx3 := (HB.out.cell (World.block_lt_of_cell? w _ hx3)).trans hx3
          have hN := grants_snoc (newMap l) (ops.take i) (rd_T27 ops (i : Int))
          rw [← take27 ops i hi] at hN
          have hD := HOPS.out _ (rd27_mem ops i hi)
          have p0 : (0 ≤ (i : Int)) = True := eq_true (by omega)
          have q0 : ((i : Int) < (ops.length : Int)) = True := eq_true (by omega)
          have hio : i ≤ 40 := by have := HO40.out; omega
          have HN0 : Aside0 (40 + i < maxLen) := ⟨Nat.lt_of_le_of_lt (show 40 + i ≤ 80 by omega) (by decide)⟩
          generalize rd_T27 ops (i : Int) = o at *
          obtain ⟨⟨j0, j1, j2⟩, dd⟩ := o
          simp only [Int.toNat_natCast] at hx0 hx1 hx2 hx3
          simp only [keyOf] at hN
          have HN := Aside0.mk hN
          have HD := Aside0.mk hD
          clear hN hD
          go_wp2_with (go_at_call 8; ((with_reducible refine (grant_in _ _ _ _ _ _ _ _ _ _ HF.out HN0.out HWi.out HD.out).mono ?_); rintro e w2 ⟨rfl, hg2, hF2⟩))
          go_roundg k'
          case measure => omega
          case rel =>
            refine ⟨i + 1, by simp, ⟨by have := HI.out; omega⟩, ⟨by rw [HN.out]; exact hF2⟩, ⟨blk_grown HK.out hg2 (fun hk => by injection hk with hk; exact absurd HBB.out (by rw [hk]; exact Nat.lt_irrefl _))⟩, ⟨HB.out.grown hg2 (below_size HB.out) (fun k hk => by cases hk; exact Nat.le_of_lt HBB.out)⟩⟩
end Go.Proofs.Ytnipjfciphgfjaa.V
/- A configuration read and written as one step; two tables of numbers are one; what is told of no fund. -/
namespace Go.Proofs.Ytnipjfciphgfjaa.V
open Go.RowKit Go.Proofs.Ytnipjfciphgfjaa.G Go.Proofs.YtnipjfciphgfjaaW.PrintWords Go.Proofs.YtnipjfciphgfjaaW.PrintLast Go.Proofs.YtnipjfciphgfjaaW.PrintMore
set_option linter.unusedVariables false
set_option linter.unusedSimpArgs false
set_option maxHeartbeats 2000000
set_option maxRecDepth 100000
/-- A whole block is written anew. -/
theorem store_all {W : World} {g : Nat} {e : TypeId} {cur : Array Value} (t : TypeId) (cs : Array Value) (hh : W.heap[g]? = some (.cells cur e (0, 0))) (hsz : cs.size = cur.size) (ht : (Try.prog.info? t).map (·.size) = some cs.size) (h1 : ∀ q ∈ cs.toList, q.oneCell' = true) :
    ∃ W', (Instr.storeAt t (.pointer (some ⟨g, 0, none⟩)) (.agg cs)).run Try.prog W = .ok () W' ∧ W'.heap[g]? = some (.cells cs e (0, 0)) ∧ W.grownBy W' (some g) := by
  refine ⟨_, run_store_run t (.agg cs) cs.toList hh rfl (by simpa using ht) (by simp; omega) h1, ?_, ?_⟩
  · obtain ⟨cur', h2, h3, h4⟩ := setCells_row (e := e) cs.toList 0 W cur hh (by simp; omega)
    have e1 : cur' = cs := by
      apply Array.ext'
      rw [h4]
      have : (cur.toList.drop (0 + cs.toList.length)) = [] := List.drop_eq_nil_of_le (by simp; omega)
      rw [this]; simp
    rw [e1] at h2
    exact h2
  · have s := setCells_same g cs.toList 0 W
    exact ⟨s.1, s.2.1, s.2.2.1, Nat.le_of_eq s.2.2.2.symm, fun k hk hr => setCells_far _ _ _ (fun z => hr (by rw [z]))⟩
/-- The store of a configuration into its new block, as one step. -/
theorem store_cfg {ops : Array Oper} {rest : List Oper} {o : Oper} {a : Act} {Q : Exit → Act → World → Prop} {W : World} (hgd : o.guard = none) {p v : Operand} (ho : o.op = .store 44 p v) (hN : o.dst = none) {g : Nat} {s k : Int}
    (hp : a.eval p = .pointer (some ⟨g, 0, none⟩)) (hv : a.eval v = .agg (cfg s k)) (hh : W.heap[g]? = some (.cells (cfg 0 0) 44 (0, 0)))
    (h : ∀ w', w'.heap[g]? = some (.cells (cfg s k) 44 (0, 0)) → W.grownBy w' (some g) → wpList Try.prog ops Q rest a w') : wpList Try.prog ops Q (o :: rest) a W := by
  obtain ⟨W', h1, h2, h3⟩ := store_all 44 (cfg s k) hh rfl (by kernel_rfl) (by
    intro q hq
    simp [cfg] at hq
    rcases hq with rfl | rfl | rfl | rfl | rfl <;> rfl)
  refine wpList_plain hgd fun K hK => ?_
  have hrun : (execOp a.eval o).run Try.prog W = .ok .skip W' := by
    unfold execOp
    rw [ho]
    simp only [hp, hv]
    simp [h1, Result.andThen]
  unfold Oper.wp
  rw [hrun]
  show K (a.put o.dst undef) W'
  rw [hN]
  exact hK _ _ (h _ h2 h3)
/-- A configuration is read, as one step. -/
noncomputable def cfgSem (x : Value) : Sem Value := Instr.loadAt 44 x
theorem load44_is (x : Value) : Instr.loadAt 44 x = cfgSem x := rfl
attribute [irreducible] cfgSem
theorem cfg_read {W : World} {g : Nat} {s k : Int} (hh : W.heap[g]? = some (.cells (cfg s k) 44 (0, 0))) : (cfgSem (.pointer (some ⟨g, 0, none⟩))).run Try.prog W = .ok (.agg (cfg s k)) W := by
  rw [← load44_is]
  have := run_loadVar_row (P := Try.prog) W g 44 44 (cfg s k) (0, 0) _ hh Try.underlying44 rfl (by kernel_rfl)
  simp [Instr.loadAt, Instr.sureAddr, this]
theorem farV_in (a b : Int) : In64 (farV a b) := by
  unfold farV view_far.f calc_Dist.f calc_Fits.f
  have w : ∀ x : Int, In64 (wrap64 x) := fun x => by unfold In64 wrap64; omega
  by_cases h : b < a
  · rw [if_pos h]; simp; exact w _
  · rw [if_neg h]
    simp only [Option.bind_some]
    split
    · simp; decide
    · simp; exact w _
theorem freesTo_in (M : Rowmap) (skus wares : Int) (n p : Nat) : In64 (freesTo M skus wares n p) := by
  unfold freesTo freeOf freeAt
  split
  · split
    · exact farV_in _ _
    · decide
  · decide
theorem lit_in {a : Int} (h : In64 a) : (Lit.int .i64 a).wf = true := by
  unfold In64 at h
  simp [Lit.wf, IntKind.min, IntKind.max, IntKind.signed, IntKind.bits]; omega
theorem cells51 : Try.prog.cellsOf 51 = 4 := by kernel_rfl
theorem cells52 : Try.prog.cellsOf 52 = 16 := by kernel_rfl
theorem cellsOf2 : Try.prog.cellsOf 2 = 1 := by kernel_rfl
theorem lits4 (D : Nat) (a b c d : Int) (ha : In64 a) (hb : In64 b) (hc : In64 c) (hd : In64 d) : Try.prog.keyLits (D + 2) 51 [.int .i64 a, .int .i64 b, .int .i64 c, .int .i64 d] = some [.int .i64 a, .int .i64 b, .int .i64 c, .int .i64 d] := by
  unfold Program.keyLits
  rw [Try.underlying51]
  simp only [cells51, cellsOf2, List.length_cons, List.length_nil, List.range_succ, List.range_zero, List.nil_append, List.cons_append, List.mapM_cons, List.mapM_nil]
  simp [Program.keyLits, Try.underlying2, lit_in ha, lit_in hb, lit_in hc, lit_in hd]
theorem grid_eq (F : Nat → Int) (hF : ∀ p, In64 (F p)) (w : World) : (Op.equalIn 10000 52 (.agg (grid F)) (.agg (grid F))).run Try.prog w = .ok true w := by
  have hl : Try.prog.keyLits 3 52 (Value.agg (grid F)).cells.toList = some [.int .i64 (F 0), .int .i64 (F 1), .int .i64 (F 2), .int .i64 (F 3), .int .i64 (F 4), .int .i64 (F 5), .int .i64 (F 6), .int .i64 (F 7), .int .i64 (F 8), .int .i64 (F 9), .int .i64 (F 10), .int .i64 (F 11), .int .i64 (F 12), .int .i64 (F 13), .int .i64 (F 14), .int .i64 (F 15)] := by
    unfold Program.keyLits
    rw [Try.underlying52]
    simp only [Value.cells, grid, cells52, cells51, List.length_cons, List.length_nil, List.range_succ, List.range_zero, List.nil_append, List.cons_append, List.mapM_cons, List.mapM_nil]
    simp [lits4 0 _ _ _ _ (hF 0) (hF 1) (hF 2) (hF 3), lits4 0 _ _ _ _ (hF 4) (hF 5) (hF 6) (hF 7), lits4 0 _ _ _ _ (hF 8) (hF 9) (hF 10) (hF 11), lits4 0 _ _ _ _ (hF 12) (hF 13) (hF 14) (hF 15)]
  have hf : (Value.agg (grid F)).formed Try.prog 52 = true := by
    unfold Value.formed
    simp only [Try.underlying52, cells52]
    rfl
  obtain ⟨r, hr, hiff⟩ := run_equalIn_deep (P := Try.prog) 9997 3 52 (by kernel_rfl) w 3 3 _ _ _ _ hf hf hl hl
  rw [hiff.2 rfl] at hr
  exact hr
theorem IsFund.keep {w W : World} {f t b n : Nat} {M : Rowmap} {S : Nat → Prop} (h : IsFund w f t b n M) (hk : Kept w W S) (hf : ¬ S f) (ht : ¬ S t) (hb : ¬ S b) : IsFund W f t b n M :=
  ⟨(hk.2 f (blk_lt h.fund) hf).trans h.fund, (hk.2 t (blk_lt h.table) ht).trans h.table, h.map.kept (hk.2 b h.map.lt hb)⟩
theorem IsFund.lts {w : World} {f t b n : Nat} {M : Rowmap} (h : IsFund w f t b n M) : f < w.heap.size ∧ t < w.heap.size ∧ b < w.heap.size := ⟨blk_lt h.fund, blk_lt h.table, h.map.lt⟩
theorem fund_all_nil (w : World) : Calls Try.prog 44 #[.pointer none] w fun e w' => e = .returned (.pointer none) ∧ w' = w := by
  go_enter Try.func44, Try.ntmps44
  go_wp2
  refine bodyPost_ret (v := .pointer none) (by simp [results, Try.results44, go_sem]) rfl ⟨rfl, rfl⟩
theorem table_Get_nil (w : World) (k0 k1 k2 : Int) : Calls Try.prog 45 #[.pointer none, .agg #[.int .u8 k0, .int .u8 k1, .int .u8 k2]] w fun e w' =>
      e = .returned (.tuple #[.agg #[.int .i64 0, .int .i64 0, .int .i64 0, .int .i64 0, .int .i64 0, .int .i64 0], .bool false]) ∧ Below w.heap.size w w' := by
  go_enter Try.func45, Try.ntmps45
  go_wp2
  refine bodyPost_ret (v := .tuple #[.agg #[.int .i64 0, .int .i64 0, .int .i64 0, .int .i64 0, .int .i64 0, .int .i64 0], .bool false]) (by simp [results, Try.results45, go_sem]) rfl ⟨rfl, ?_⟩
  (with_reducible repeat (first | exact Below.refl _ _ | apply below_alloc | apply below_drew1 | refine below_set ?_ (by simp)))
theorem fund_Get_nil (w : World) (k0 k1 k2 : Int) : Calls Try.prog 27 #[.pointer none, .agg #[.int .u8 k0, .int .u8 k1, .int .u8 k2]] w fun e w' =>
      e = .returned (.tuple #[.agg #[.int .i64 0, .int .i64 0, .int .i64 0, .int .i64 0, .int .i64 0, .int .i64 0], .bool false]) ∧ Below w.heap.size w w' := by
  go_enter Try.func27, Try.ntmps27
  go_wp2
  go_region_with (first | (go_at_call 44; ((with_reducible refine (fund_all_nil _).mono ?_); rintro e w' ⟨rfl, rfl⟩)) | (go_at_call 45; ((with_reducible refine (table_Get_nil _ _ _ _).mono ?_); rintro e w1 ⟨rfl, hb⟩; obtain ⟨hcc, hff⟩ := bcell hb)))
  all_goals go_wp2
  all_goals (try refine bodyPost_ret (v := .tuple #[.agg #[.int .i64 0, .int .i64 0, .int .i64 0, .int .i64 0, .int .i64 0, .int .i64 0], .bool false]) (by simp [results, Try.results27, go_sem, hcc]) rfl ⟨rfl, ?_⟩)
  all_goals (have h3 : Below w.heap.size w w1 := below_step (below_drew1 (below_alloc (below_alloc (Below.refl _ _) _) _)) hb)
  all_goals (with_reducible repeat (first | exact h3 | apply below_alloc | apply below_drew1 | refine below_set ?_ (by simp)))
theorem free_zero : view_far.f 0 0 = some 0 := by decide +kernel
theorem view_Free_nil (w : World) (k0 k1 k2 : Int) : Calls Try.prog 9 #[.pointer none, .agg #[.int .u8 k0, .int .u8 k1, .int .u8 k2]] w fun e w' => e = .returned (.int .i64 0) ∧ Below w.heap.size w w' := by
  go_enter Try.func9, Try.ntmps9
  go_wp2_with (first | (go_at_call 27; ((with_reducible refine (fund_Get_nil _ _ _ _).mono ?_); rintro e w1 ⟨rfl, hb⟩; have h3 : Below w.heap.size w w1 := below_step (below_alloc (Below.refl _ _) _) hb; obtain ⟨hcc, hff⟩ := bcell hb)) | (go_at_call 28; ((with_reducible refine (view_far.calls _ _ _ _ free_zero).mono ?_); rintro e w2 ⟨rfl, ⟨nd, rfl⟩⟩)))
  refine bodyPost_ret (v := .int .i64 0) (by simp [results, Try.results9, go_sem]) rfl ⟨rfl, ?_⟩
  exact pw_below_drewN (below_alloc h3 _) nd
end Go.Proofs.Ytnipjfciphgfjaa.V
/- The walk of the law ViewSays: it answers true. -/
namespace Go.Proofs.Ytnipjfciphgfjaa.V
open Go.RowKit Go.Proofs.Ytnipjfciphgfjaa.G Go.Proofs.YtnipjfciphgfjaaW.PrintWords Go.Proofs.YtnipjfciphgfjaaW.PrintLast Go.Proofs.YtnipjfciphgfjaaW.PrintMore
set_option linter.unusedVariables false
set_option linter.unusedSimpArgs false
set_option maxHeartbeats 2000000
set_option maxRecDepth 100000
attribute [local go_sem ↓ high] load44_is
attribute [local go_sem high] eqA49
theorem spans_len (M : Rowmap) (skus wares s : Int) : (spansOf M skus wares s).length ≤ 4 := by
  unfold spansOf
  by_cases h : mn skus 4 ≤ s
  · rw [if_pos h]; exact Nat.zero_le _
  · rw [if_neg h]
    have e : (seens M s (most4 wares)).length = most4 wares := by simp [seens]
    rw [e]; unfold most4 mn
    by_cases c : (4 : Int) < wares
    · rw [if_pos c]; decide
    · rw [if_neg c]; omega
theorem ViewSays.calls (w : World) (A B : Option Addr) (c1 c2 : Nat) (l : List S60) (ops : List S27) (k0 k1 k2 skus wares : Int) (hr : Kd.C k60 w A l.length l) (hc : l.length ≤ c1) (hl : ∀ x ∈ l, DKey x ∧ DIn x) (hr2 : Kd.C k27 w B ops.length ops) (hc2 : ops.length ≤ c2) (hops : ∀ x ∈ ops, OIn x) (u0 : U8 k0) (u1 : U8 k1) (u2 : U8 k2) (hsk : In64 skus) (hwa : In64 wares) (hml : l.length ≤ maxLen) (hmo : ops.length ≤ maxLen) :
    Calls Try.prog 4 #[.slice A l.length c1, .slice B ops.length c2, .agg #[.int .u8 k0, .int .u8 k1, .int .u8 k2, .int .i64 skus, .int .i64 wares]] w fun e w' => e = .returned (.bool true) ∧ Below w.heap.size w w' := by
  have HR := Aside0.mk hr
  have HC := Aside0.mk hc
  have HL := Aside0.mk hl
  have HR2 := Aside0.mk hr2
  have HC2 := Aside0.mk hc2
  have HOPS := Aside0.mk hops
  have HU := Aside0.mk (And.intro u0 (And.intro u1 u2))
  have HS := Aside0.mk (And.intro hsk hwa)
  clear hr hc hl hr2 hc2 hops u0 u1 u2 hsk hwa
  by_cases h1 : (40 : Int) < (l.length : Int)
  · have e1 : decide ((40 : Int) < (l.length : Int)) = true := decide_eq_true h1
    go_enter Try.func4, Try.ntmps4
    go_wp2_with (go_at_call 6; ((with_reducible refine (works.calls _).mono ?_); rintro e w1 ⟨rfl, hb1⟩))
    go_ret
    exact ⟨rfl, below_step (below_alloc (Below.refl _ _) _) hb1⟩
  · have e1 : decide ((40 : Int) < (l.length : Int)) = false := decide_eq_false h1
    by_cases h2 : (40 : Int) < (ops.length : Int)
    · have e2 : decide ((40 : Int) < (ops.length : Int)) = true := decide_eq_true h2
      go_enter Try.func4, Try.ntmps4
      go_wp2_with (go_at_call 6; ((with_reducible refine (works.calls _).mono ?_); rintro e w1 ⟨rfl, hb1⟩))
      go_ret
      exact ⟨rfl, below_step (below_alloc (Below.refl _ _) _) hb1⟩
    · have e2 : decide ((40 : Int) < (ops.length : Int)) = false := decide_eq_false h2
      have HL40 : Aside0 (l.length ≤ 40) := ⟨by omega⟩
      have HO40 : Aside0 (ops.length ≤ 40) := ⟨by omega⟩
      obtain ⟨rows0, hn0, hrows0, hlen0⟩ := ref_new l HL40.out 1000 (by omega)
      have HN0 := Aside0.mk hn0
      have HROWS0 := Aside0.mk hrows0
      have HLEN0 := Aside0.mk hlen0
      clear hn0 hrows0 hlen0
      go_enter Try.func4, Try.ntmps4
      go_wp2_with (first
        | (go_at_call 7; ((with_reducible refine (fund_New'.calls _ A c1 l (Kd.C_alloc HR.out _) HC.out HL40.out (fun x hx => (HL.out x hx).1)).mono ?_); rintro e w1 ⟨f, t, b, rfl, hb1, hF1, hbb⟩; have HB1 := Aside0.mk (below_step (below_alloc (Below.refl _ _) _) hb1); have HK1 := Aside0.mk (blk_below (blk_new _ _) hb1); have HF1 := Aside0.mk (hF1.mono HL40.out); have HBB := Aside0.mk (Nat.lt_of_lt_of_le (show w.heap.size < (w.alloc _).heap.size by simp) hbb); clear hb1 hF1 hbb))
        | (go_at_call 11; ((with_reducible refine (pledgeref18_New.calls 1000 A c1 l rows0 _ (Kd.C_below HR.out HB1.out) HC.out HN0.out).mono ?_); rintro e w2 ⟨v0, rfl, hR, hb2⟩)))
      obtain ⟨lf, lt, lb⟩ := HF1.out.lts
      have HLT := Aside0.mk (And.intro lf (And.intro lt lb))
      clear lf lt lb
      have HB2 := Aside0.mk (below_step HB1.out hb2)
      have HK2 := Aside0.mk (blk_below HK1.out hb2)
      have HF2 := Aside0.mk (HF1.out.below hb2)
      have HRW2 := Aside0.mk (Kd.R_lower (Kd.R_mono (Kd.R_bound hR) (fun k hk => (hk.2.1 : w1.heap.size ≤ k))) (below_size HB1.out))
      have HSZ := Aside0.mk hb2.size
      have HBW := Aside0.mk (blk_lt HK1.out)
      have HW0 := Aside0.mk (WF.new l (fun x hx => (HL.out x hx).2))
      clear hR hb2 HF1 HK1
      go_wp2
      go_loopg [8, 9] ops.length (fun kq v8 v9 w' => ∃ (i : Nat) (rows : List S81), v9 = .int .i64 (i : Int) ∧ Aside0 (kq + i = ops.length) ∧ Aside0 (Kd.R k81 81 w' w.heap.size (fun k => w1.heap.size ≤ k) v8 rows) ∧ Aside0 (RowsIs rows (grants (newMap l) (ops.take i))) ∧ Aside0 (rows.length ≤ 40 + i) ∧ Aside0 (IsFund w' f t b (40 + i) (grants (newMap l) (ops.take i))) ∧ Aside0 (w'.heap[w.heap.size]? = some (.cells #[.int .u8 k0, .int .u8 k1, .int .u8 k2, .int .i64 skus, .int .i64 wares] 36 (0, 0))) ∧ Aside0 (Below w.heap.size w w') ∧ Aside0 (w1.heap.size ≤ w'.heap.size))
      case atStart => exact ⟨0, rows0, rfl, ⟨rfl⟩, HRW2, HROWS0, ⟨by have := HLEN0.out; have := HL40.out; omega⟩, HF2, HK2, HB2, HSZ⟩
      case round =>
        clear HF2 HK2 HB2 HRW2 HROWS0 HSZ HLEN0 HN0
        obtain ⟨i, rows, rfl, HI, HRW, HRI, HLEN, HF, HK, HB, HSZ⟩ := hrel
        have HWi := Aside0.mk (HW0.out.grants (ops.take i) (fun x hx => HOPS.out x (List.mem_of_mem_take hx)))
        cases gk with
        | zero =>
          have hi := HI.out
          have c2 : decide ((i : Int) < (ops.length : Int)) = false := decide_eq_false (by omega)
          have c2' : decide (i < ops.length) = false := decide_eq_false (by omega)
          have hio : i ≤ 40 := by have := HO40.out; omega
          have HLEN2 : Aside0 (rows.length ≤ 80) := ⟨by have := HLEN.out; omega⟩
          clear hi hio
          generalize grants (newMap l) (ops.take i) = M at HF HWi HRI
          obtain ⟨AR, cR, rfl, hcR, hCR⟩ := Kd.R_reads HRW.out
          have HCR := Aside0.mk hCR
          have HcR := Aside0.mk hcR
          clear hCR hcR HRW HLT
          have kc0 : wr.cell? ⟨w.heap.size, 0, none⟩ = some (.int .u8 k0) := (blk_cell HK.out 0).trans rfl
          have kc1 : wr.cell? ⟨w.heap.size, 1, none⟩ = some (.int .u8 k1) := (blk_cell HK.out 1).trans rfl
          have kc2 : wr.cell? ⟨w.heap.size, 2, none⟩ = some (.int .u8 k2) := (blk_cell HK.out 2).trans rfl
          have kc3 : wr.cell? ⟨w.heap.size, 3, none⟩ = some (.int .i64 skus) := (blk_cell HK.out 3).trans rfl
          have kc4 : wr.cell? ⟨w.heap.size, 4, none⟩ = some (.int .i64 wares) := (blk_cell HK.out 4).trans rfl
          go_wp2_with (first
            | ((with_reducible refine gate_dst (N := 10) rfl ?_); refine box_event ?hg (N := 10) ?hd (cs := cfg 0 0) (t := 44) ?hr ?_; (case hd => rfl); (case hg => rfl); (case hr => first | (go_simp; done) | (go_simp; rfl)); intro gb hgb w3 hbox hb3; have HG0 := Aside0.mk hbox; have HB3 := Aside0.mk hb3; have HGB := Aside0.mk hgb; clear hbox hb3 hgb)
            | ((with_reducible refine gate_store (t := 44) (p := 10) (v := .tmp 52) rfl ?_); refine store_cfg rfl rfl rfl rfl rfl HG0.out ?_; intro w4 hG4 hg4; have HG4 := Aside0.mk hG4; have Hg4 := Aside0.mk hg4; clear hG4 hg4))
          have HB4 := Aside0.mk (HB3.out.grown Hg4.out HB3.out.size (fun k hk => by cases hk; rw [HGB.out]; exact Nat.le_refl _))
          have HF4 := Aside0.mk (HF.out.below HB4.out)
          have HK4 := Aside0.mk (blk_below HK.out HB4.out)
          have HCR4 := Aside0.mk (Kd.C_below HCR.out HB4.out)
          have HBW4 := Aside0.mk (below_step HB.out HB4.out)
          clear HF HK HCR HB HB3 HG0 Hg4 HGB HB4 kc0 kc1 kc2 kc3 kc4
          have HSOF : Aside0 (∀ w', Below w4.heap.size w4 w' → Below w4.heap.size w4 w' ∧ w'.cell? ⟨w.heap.size, 1, none⟩ = some (.int .u8 k1) ∧ (cfgSem (.pointer (some ⟨gb, 0, none⟩))).run Try.prog w' = .ok (.agg (cfg skus wares)) w') := ⟨fun w' hW => ⟨hW, (blk_cell (blk_below HK4.out hW) 1).trans rfl, cfg_read (blk_below HG4.out hW)⟩⟩
          have H13 : Aside0 (∀ W, Below w4.heap.size w4 W → Calls Try.prog 13 #[.agg (cfg skus wares), .pointer (some ⟨f, 0, none⟩), .int .u8 k1] W fun e w' => ∃ v, e = .returned v ∧ Kd.R k49 49 w' w4.heap.size (fun _ => True) v (spansOf M skus wares k1) ∧ Below w4.heap.size w4 w') :=
            ⟨fun W hW => (view_Spans.calls W f t b _ M skus wares k1 (HF4.out.below hW) HU.out.2.1 HS.out.1 HS.out.2).mono (fun e w' ⟨v, h1, h2, h3⟩ => ⟨v, h1, Kd.R_lower h2 hW.size, below_step hW h3⟩)⟩
          have H14 : Aside0 (∀ W, Below w4.heap.size w4 W → Calls Try.prog 14 #[.agg (cfg skus wares), .slice AR rows.length cR, .int .u8 k1] W fun e w' => ∃ v, e = .returned v ∧ Kd.R k49 49 w' w4.heap.size (fun _ => True) v (spansOf M skus wares k1) ∧ Below w4.heap.size w4 w' ∧ Below W.heap.size W w') :=
            ⟨fun W hW => (ref_Spans.calls W 1000 AR 0 cR rows M skus wares k1 (Kd.C_below HCR4.out hW) HcR.out (fun a b c _ _ _ => get_is HRI.out (by have := HLEN2.out; omega) a b c 1000 (by have := HLEN2.out; omega)) HU.out.2.1 HS.out.1 HS.out.2).mono (fun e w' ⟨v, h1, h2, h3⟩ => ⟨v, h1, Kd.R_lower h2 hW.size, below_step hW h3, h3⟩)⟩
          go_region_held3 (fun w' => Below w4.heap.size w4 w' ∧ w'.cell? ⟨w.heap.size, 1, none⟩ = some (.int .u8 k1) ∧ (cfgSem (.pointer (some ⟨gb, 0, none⟩))).run Try.prog w' = .ok (.agg (cfg skus wares)) w') (first | exact HSOF.out _ (below_drew1 (Below.refl _ _)) | exact HSOF.out _ hb13 | exact HSOF.out _ hb14) (first
            | (go_at_call 13; ((with_reducible refine (H13.out _ (by first | exact below_drew1 (Below.refl _ _) | exact hb14)).mono ?_); rintro e w5 ⟨v5, rfl, hR5, hb13⟩))
            | (go_at_call 14; ((with_reducible refine (H14.out _ (by first | exact below_drew1 (Below.refl _ _) | exact hb13)).mono ?_); rintro e w6 ⟨v6, rfl, hR6, hb14, hb14'⟩)))
          obtain ⟨A5, n5, rfl, hc5, hC5⟩ := Kd.R_reads (Kd.R_below hR5 hb14')
          obtain ⟨A6, n6, rfl, hc6, hC6⟩ := Kd.R_reads hR6
          have HC5 := Aside0.mk hC5
          have HC6 := Aside0.mk hC6
          have Hc5 := Aside0.mk hc5
          have Hc6 := Aside0.mk hc6
          have HF6 := Aside0.mk (HF4.out.below hb14)
          have HK6 := Aside0.mk (blk_below HK4.out hb14)
          have HG6 := Aside0.mk (blk_below HG4.out hb14)
          have HCR6 := Aside0.mk (Kd.C_below HCR4.out hb14)
          have HBW6 := Aside0.mk (below_step HBW4.out hb14)
          have hLL := spans_len M skus wares k1
          clear H13 H14 HSOF HF4 HK4 HG4 HCR4 HBW4 hR5 hR6 hb13 hb14 hb14' hC5 hC6 hc5 hc6
          rename_i hHeld
          clear hHeld
          generalize spansOf M skus wares k1 = L at *
          have HLL := Aside0.mk hLL
          clear hLL
          go_wp2
          go_loopg [13] L.length (fun kq v13 w' => ∃ i : Nat, v13 = .int .i64 (i : Int) ∧ Aside0 (kq + i = L.length) ∧ Aside0 (Below w6.heap.size w6 w'))
          case atStart => exact ⟨0, rfl, ⟨rfl⟩, ⟨Below.refl _ _⟩⟩
          case round =>
            obtain ⟨i, rfl, HJ, HB6⟩ := hrel
            cases gk with
            | zero =>
              have hj := HJ.out
              have c3 : decide ((i : Int) < (L.length : Int)) = false := decide_eq_false (by omega)
              have c3' : decide (i < L.length) = false := decide_eq_false (by omega)
              obtain ⟨fr, hfr⟩ : ∃ fr, freeAt M (k0, k1, k2) = fr := ⟨_, rfl⟩
              obtain ⟨rm, hrm⟩ : ∃ rm, roomAt M (k0, k1, k2) = rm := ⟨_, rfl⟩
              obtain ⟨G, hG⟩ : ∃ G, grid (freesTo M skus wares 16) = G := ⟨_, rfl⟩
              have hge : ∀ W, (Op.equalIn 10000 52 (.agg G) (.agg G)).run Try.prog W = .ok true W := fun W => by
                rw [← hG]; exact grid_eq _ (freesTo_in M skus wares 16) W
              have C9 : Aside0 (∀ W, Below w6.heap.size w6 W → Calls Try.prog 9 #[.pointer (some ⟨f, 0, none⟩), .agg #[.int .u8 k0, .int .u8 k1, .int .u8 k2]] W fun e w' => e = .returned (.int .i64 fr) ∧ Below w6.heap.size w6 w') :=
                ⟨fun W hW => by rw [← hfr]; exact (free_in W f t b _ M k0 k1 k2 (HF6.out.below hW) HU.out.1 HU.out.2.1 HU.out.2.2).mono (fun e w' ⟨h1, h2⟩ => ⟨h1, below_step hW h2⟩)⟩
              have C10 : Aside0 (∀ W, Below w6.heap.size w6 W → Calls Try.prog 10 #[.pointer (some ⟨f, 0, none⟩), .agg #[.int .u8 k0, .int .u8 k1, .int .u8 k2]] W fun e w' => e = .returned (.int .i64 rm) ∧ Below w6.heap.size w6 w') :=
                ⟨fun W hW => by rw [← hrm]; exact (room_in W f t b _ M k0 k1 k2 (HF6.out.below hW) HU.out.1 HU.out.2.1 HU.out.2.2).mono (fun e w' ⟨h1, h2⟩ => ⟨h1, below_step hW h2⟩)⟩
              have C15 : Aside0 (∀ W, Below w6.heap.size w6 W → Calls Try.prog 15 #[.slice AR rows.length cR, .agg #[.int .u8 k0, .int .u8 k1, .int .u8 k2]] W fun e w' => e = .returned (.int .i64 fr) ∧ Below w6.heap.size w6 w') :=
                ⟨fun W hW => by exact ((pledgeref32_Free.calls 1000 AR cR rows k0 k1 k2 fr W (Kd.C_below HCR6.out hW) HcR.out (by rw [← hfr]; exact ref_free HRI.out (by have := HLEN2.out; omega) HWi.out k0 k1 k2 1000 (by omega)))).mono (fun e w' ⟨h1, h2⟩ => ⟨h1, below_step hW h2⟩)⟩
              have C16 : Aside0 (∀ W, Below w6.heap.size w6 W → Calls Try.prog 16 #[.slice AR rows.length cR, .agg #[.int .u8 k0, .int .u8 k1, .int .u8 k2]] W fun e w' => e = .returned (.int .i64 rm) ∧ Below w6.heap.size w6 w') :=
                ⟨fun W hW => by exact ((pledgeref32_Room.calls 1000 AR cR rows k0 k1 k2 rm W (Kd.C_below HCR6.out hW) HcR.out (by rw [← hrm]; exact ref_room HRI.out (by have := HLEN2.out; omega) HWi.out k0 k1 k2 1000 (by omega)))).mono (fun e w' ⟨h1, h2⟩ => ⟨h1, below_step hW h2⟩)⟩
              have C17 : Aside0 (∀ W, Below w6.heap.size w6 W → Calls Try.prog 17 #[.agg (cfg skus wares), .pointer (some ⟨f, 0, none⟩)] W fun e w' => e = .returned (.agg G) ∧ Below w6.heap.size w6 w') :=
                ⟨fun W hW => by rw [← hG]; exact (view_Frees.calls W f t b _ M skus wares (HF6.out.below hW)).mono (fun e w' ⟨h1, h2⟩ => ⟨h1, below_step hW h2⟩)⟩
              have C18 : Aside0 (∀ W, Below w6.heap.size w6 W → Calls Try.prog 18 #[.agg (cfg skus wares), .slice AR rows.length cR] W fun e w' => e = .returned (.agg G) ∧ Below w6.heap.size w6 w') :=
                ⟨fun W hW => by rw [← hG]; exact (ref_Frees.calls W 1000 AR cR rows M skus wares (Kd.C_below HCR6.out hW) HcR.out (fun s k _ _ => ref_free HRI.out (by have := HLEN2.out; omega) HWi.out 1 s k 1000 (by omega))).mono (fun e w' ⟨h1, h2⟩ => ⟨h1, below_step hW h2⟩)⟩
              have C9n : Aside0 (∀ W, Below w6.heap.size w6 W → Calls Try.prog 9 #[.pointer none, .agg #[.int .u8 k0, .int .u8 k1, .int .u8 k2]] W fun e w' => e = .returned (.int .i64 0) ∧ Below w6.heap.size w6 w') :=
                ⟨fun W hW => by exact (view_Free_nil W k0 k1 k2).mono (fun e w' ⟨h1, h2⟩ => ⟨h1, below_step hW h2⟩)⟩
              have C6 : Aside0 (∀ W, Below w6.heap.size w6 W → Calls Try.prog 6 #[] W fun e w' => e = .returned (.bool true) ∧ Below w6.heap.size w6 w') :=
                ⟨fun W hW => by exact (works.calls W).mono (fun e w' ⟨h1, h2⟩ => ⟨h1, below_step hW h2⟩)⟩
              have HSOF : Aside0 (∀ w', Below w6.heap.size w6 w' → Below w6.heap.size w6 w' ∧ w'.cell? ⟨w.heap.size, 0, none⟩ = some (.int .u8 k0) ∧ w'.cell? ⟨w.heap.size, 1, none⟩ = some (.int .u8 k1) ∧ w'.cell? ⟨w.heap.size, 2, none⟩ = some (.int .u8 k2) ∧ (cfgSem (.pointer (some ⟨gb, 0, none⟩))).run Try.prog w' = .ok (.agg (cfg skus wares)) w') := ⟨fun w' hW => ⟨hW, (blk_cell (blk_below HK6.out hW) 0).trans rfl, (blk_cell (blk_below HK6.out hW) 1).trans rfl, (blk_cell (blk_below HK6.out hW) 2).trans rfl, cfg_read (blk_below HG6.out hW)⟩⟩
              clear hfr hrm hG hj HC5 HC6
              go_wp2
              go_region_held3 (fun w' => Below w6.heap.size w6 w' ∧ w'.cell? ⟨w.heap.size, 0, none⟩ = some (.int .u8 k0) ∧ w'.cell? ⟨w.heap.size, 1, none⟩ = some (.int .u8 k1) ∧ w'.cell? ⟨w.heap.size, 2, none⟩ = some (.int .u8 k2) ∧ (cfgSem (.pointer (some ⟨gb, 0, none⟩))).run Try.prog w' = .ok (.agg (cfg skus wares)) w') (first | exact HSOF.out _ (below_drew1 HB6.out) | exact HSOF.out _ (by assumption)) (first
                | (go_at_call 9; (first | (with_reducible refine (C9.out _ (by first | exact below_drew1 HB6.out | assumption)).mono ?_) | (with_reducible refine (C9n.out _ (by first | exact below_drew1 HB6.out | assumption)).mono ?_)); rintro e w7 ⟨rfl, hb7⟩)
                | (go_at_call 15; (first | (with_reducible refine (C15.out _ (by first | exact below_drew1 HB6.out | assumption)).mono ?_)); rintro e w7 ⟨rfl, hb7⟩)
                | (go_at_call 10; (first | (with_reducible refine (C10.out _ (by first | exact below_drew1 HB6.out | assumption)).mono ?_)); rintro e w7 ⟨rfl, hb7⟩)
                | (go_at_call 16; (first | (with_reducible refine (C16.out _ (by first | exact below_drew1 HB6.out | assumption)).mono ?_)); rintro e w7 ⟨rfl, hb7⟩)
                | (go_at_call 17; (first | (with_reducible refine (C17.out _ (by first | exact below_drew1 HB6.out | assumption)).mono ?_)); rintro e w7 ⟨rfl, hb7⟩)
                | (go_at_call 18; (first | (with_reducible refine (C18.out _ (by first | exact below_drew1 HB6.out | assumption)).mono ?_)); rintro e w7 ⟨rfl, hb7⟩)
                | (go_at_call 6; (first | (with_reducible refine (C6.out _ (by first | exact below_drew1 HB6.out | assumption)).mono ?_)); rintro e w7 ⟨rfl, hb7⟩))
              go_wp2
              go_ret
              exact ⟨rfl, below_step HBW6.out hb7⟩
            | succ k2 =>
              have hj := HJ.out
              have hi : i < L.length := by omega
              have c3 : decide ((i : Int) < (L.length : Int)) = true := decide_eq_true (by omega)
              have p0 : (0 ≤ (i : Int)) = True := eq_true (by omega)
              have q0 : ((i : Int) < (L.length : Int)) = True := eq_true (by omega)
              have hLL := HLL.out
              obtain ⟨ad5, e5, x0, x1, x2⟩ := at_T49 (Kd.C_below HC5.out HB6.out) (i : Int) (by omega) (by omega)
              obtain ⟨ad6, e6, y0, y1, y2⟩ := at_T49 (Kd.C_below HC6.out HB6.out) (i : Int) (by omega) (by omega)
              cases e5
              cases e6
              generalize rd_T49 L (i : Int) = d at *
              simp only [Int.toNat_natCast] at x0 x1 x2 y0 y1 y2
              go_wp2
              go_region
              all_goals go_wp2
              all_goals
                go_roundg k2
                case measure => omega
                case rel => exact ⟨i + 1, by simp, ⟨by omega⟩, ⟨below_drew1 HB6.out⟩⟩
        | succ k' =>
          have hi : i < ops.length := by have := HI.out; omega
          have c2 : decide ((i : Int) < (ops.length : Int)) = true := decide_eq_true (by omega)
          obtain ⟨ad, e0, hx0, hx1, hx2, hx3⟩ := at_T27 HR2.out (i : Int) (by omega) (by omega)
          cases e0
          have hN := grants_snoc (newMap l) (ops.take i) (rd_T27 ops (i : Int))
          rw [← take27 ops i hi] at hN
          have hD := HOPS.out _ (rd27_mem ops i hi)
          have p0 : (0 ≤ (i : Int)) = True := eq_true (by omega)
          have q0 : ((i : Int) < (ops.length : Int)) = True := eq_true (by omega)
          have hio : i ≤ 40 := by have := HO40.out; omega
          have HN0 : Aside0 (40 + i < maxLen) := ⟨Nat.lt_of_le_of_lt (show 40 + i ≤ 80 by omega) (by decide)⟩
          generalize rd_T27 ops (i : Int) = o at *
          obtain ⟨⟨j0, j1, j2⟩, dd⟩ := o
          simp only [Int.toNat_natCast] at hx0 hx1 hx2 hx3
          simp only [keyOf] at hN
          have HN := Aside0.mk hN
          have HD := Aside0.mk hD
          obtain ⟨rows', hdo, hri', hlen'⟩ := ref_do_grant HRI.out (by have := HLEN.out; omega) HWi.out j0 j1 j2 dd HD.out.2.2.2 1000 (by omega)
          have HDO := Aside0.mk hdo
          have HRI' := Aside0.mk hri'
          have HLEN' := Aside0.mk hlen'
          have HX0 := Aside0.mk hx0
          have HX1 := Aside0.mk hx1
          have HX2 := Aside0.mk hx2
          have HX3 := Aside0.mk hx3
          replace hx0 := (HB.out.cell (World.block_lt_of_cell? w _ HX0.out)).trans HX0.out
          replace hx1 := (HB.out.cell (World.block_lt_of_cell? w _ HX1.out)).trans HX1.out
          replace hx2 := (HB.out.cell (World.block_lt_of_cell? w _ HX2.out)).trans HX2.out
          replace hx3 := (HB.out.cell (World.block_lt_of_cell? w _ HX3.out)).trans HX3.out
          clear hN hD hdo hri' hlen'
          go_wp2_with (first
            | (go_at_call 8; ((with_reducible refine (grant_in _ _ _ _ _ _ _ _ _ _ HF.out HN0.out HWi.out HD.out).mono ?_); rintro e w3 ⟨rfl, hg3, hF3⟩; have HB3 := Aside0.mk (HB.out.grown hg3 (below_size HB.out) (fun k hk => by cases hk; exact Nat.le_of_lt HBB.out)); have HK3 := Aside0.mk (blk_grown HK.out hg3 (fun hk => by injection hk with hk; exact absurd HBB.out (by rw [hk]; exact Nat.lt_irrefl _))); have HRW3 := Aside0.mk (Kd.R_grown HRW.out hg3 (fun k hk hkb => by injection hkb with hkb; exact absurd HLT.out.2.2 (by rw [← hkb]; exact Nat.not_lt.2 hk))); have HF3 := Aside0.mk hF3; have HSZ3 := Aside0.mk (Nat.le_trans HSZ.out hg3.size); clear hg3 hF3; replace hx0 := (HB3.out.cell (World.block_lt_of_cell? w _ HX0.out)).trans HX0.out; replace hx1 := (HB3.out.cell (World.block_lt_of_cell? w _ HX1.out)).trans HX1.out; replace hx2 := (HB3.out.cell (World.block_lt_of_cell? w _ HX2.out)).trans HX2.out; replace hx3 := (HB3.out.cell (World.block_lt_of_cell? w _ HX3.out)).trans HX3.out))
            | (go_at_call 12; ((with_reducible refine (pledgeref18_Do.calls 1000 (fun k => w1.heap.size ≤ k) _ rows 0 j0 j1 j2 dd _ _ w _ HB3.out HRW3.out HDO.out).mono ?_); rintro e w4 ⟨v1, rfl, hR4, hB4, hK4⟩)))
          go_roundg k'
          case measure => omega
          case rel =>
            refine ⟨i + 1, rows', by simp, ⟨by have := HI.out; omega⟩, ⟨Kd.R_mono hR4 (fun k hk => hk.elim id (fun z => Nat.le_trans HSZ3.out z))⟩, ⟨by rw [HN.out]; exact HRI'.out⟩, ⟨by have := HLEN.out; have := HLEN'.out; omega⟩, ⟨by rw [HN.out]; exact HF3.out.keep hK4 (Nat.not_le.2 HLT.out.1) (Nat.not_le.2 HLT.out.2.1) (Nat.not_le.2 HLT.out.2.2)⟩, ⟨(hK4.2 _ (blk_lt HK3.out) (Nat.not_le.2 HBW.out)).trans HK3.out⟩, ⟨hB4⟩, ⟨Nat.le_trans HSZ3.out hK4.1⟩⟩
end Go.Proofs.Ytnipjfciphgfjaa.V
namespace Go.Proofs.Ytnipjfciphgfjaa.viewSays
open Go.ChangeShapes Go.WideShapes Go.ChangeAt Go.RowKit Go.Proofs.Ytnipjfciphgfjaa.V Go.Proofs.YtnipjfciphgfjaaW.PrintWords Go.Proofs.YtnipjfciphgfjaaW.PrintLast Go.Proofs.YtnipjfciphgfjaaW.PrintMore
set_option linter.unusedVariables false
set_option maxRecDepth 100000 in
theorem lifted (os : Os) (started : os.Started) (H : Type) (enc : TypeId × Value → H) :
    ReturnsInHanded {} Try.checked os 4 .any (Rows.viewSaysSpec.pre6 enc Try.prog Try.f4 Rows.viewSaysRow.domain false) (Rows.viewSaysSpec.post enc Try.prog Try.f4 false true false false) := by
  refine returnsInHanded_of_change_sized (C := Try.checked) own started (by kernel_rfl) Try.func4
    (ChangeSpec.witness6 (enc := enc) (C := Try.checked) false ⟨#[], #[.slice none 0 0, .slice none 0 0, .agg #[.int .u8 0, .int .u8 0, .int .u8 0, .int .i64 0, .int .i64 0]], []⟩ 8 (by kernel_rfl) (by kernel_rfl) (by kernel_rfl) (by kernel_rfl)) ?_
  intro W base args ds gs before hval0 hW hcnd hsz0 _
  have hval : ∀ (j : Nat) t v, Try.f4.params[j]? = some t → args[j]? = some v → Value.okWide Try.prog W .any base t v := hval0
  have hW' := hW
  obtain ⟨p, q, hA0, hV, rfl, hfz, hnd⟩ := hW
  have hA : DataW.TrodAll enc Try.prog W 0 (fun _ => true) true Try.f4.params.toList args.toList ds p := hA0
  rw [Try.params4] at hA hval
  obtain ⟨v0, vs0, d0, ds0, p0, q0, hargs, rfl, rfl, h0, r0⟩ := trodAll_cons hA
  obtain ⟨v1, vs1, d1, ds1, p1, q1, rfl, rfl, rfl, h1, r1⟩ := trodAll_cons r0
  obtain ⟨v2, vs2, d2, ds2, p2, q2, rfl, rfl, rfl, h2, r2⟩ := trodAll_cons r1
  obtain ⟨rfl, rfl, rfl⟩ := trodAll_nil r2
  obtain rfl : args = #[v0, v1, v2] := by cases args; simp_all
  obtain ⟨rfl, rfl⟩ := trodVars_none hV
  have k0 := h0
  have lt0 : ∀ x ∈ p0, x.block < W.heap.size := by obtain ⟨m, hm⟩ := k0; exact DataW.trod_lt m _ _ _ hm
  have k1 := h1
  have lt1 : ∀ x ∈ p1, x.block < W.heap.size := by obtain ⟨m, hm⟩ := k1; exact DataW.trod_lt m _ _ _ hm
  have k2 := h2
  have lt2 : ∀ x ∈ p2, x.block < W.heap.size := by obtain ⟨m, hm⟩ := k2; exact DataW.trod_lt m _ _ _ hm
  obtain ⟨A0, l0, c0, rfl, hc0, hm0, hr0, hg0⟩ := open_rows G.k60 (fun d => DKey d ∧ DIn d) Try.underlying22 cells60 (fun _ _ _ h => read_decl h) (hval 0 22 v0 rfl rfl) h0
  obtain ⟨A1, l1, c1, rfl, hc1, hm1, hr1, hg1⟩ := open_rows k27 OIn Try.underlying23 cells27 (fun _ _ _ h => read_op' h) (hval 1 23 v1 rfl rfl) h1
  obtain ⟨a0, a1, a2, a3, a4, rfl, u0, u1, u2, u3, u4⟩ := open_ask (hval 2 36 v2 rfl rfl) h2
  clear hA0 hval0 hsz0
  refine (ViewSays.calls W A0 A1 c0 c1 l0 l1 a0 a1 a2 a3 a4 hr0 hc0 hg0 hr1 hc1 hg1 u0 u1 u2 u3 u4 hm0 hm1).mono ?_
  rintro e W' ⟨rfl, bel⟩
  exact ⟨_, rfl, _, _, _, [], _, [], hW', trodAll_mk1 (shut_bool Try.underlying4 _), (trodAll_cons_mk (Below.trod laidOut (by kernel_rfl) (of_decide_eq_true (by kernel_rfl)) k0 bel lt0) (trodAll_cons_mk (Below.trod laidOut (by kernel_rfl) (of_decide_eq_true (by kernel_rfl)) k1 bel lt1) (trodAll_cons_mk (Below.trod laidOut (by kernel_rfl) (of_decide_eq_true (by kernel_rfl)) k2 bel lt2) trodAll_mk0))), rfl, bel.frame _, fun h => by cases h⟩
theorem over : Rows.viewSaysRow.holds Try.pinned (OpenSpec.ofChange Rows.viewSaysSpec) :=
  OpenClaim.holds_of_wide 4 Try.f4 rfl rfl rfl rfl rfl rfl rfl ⟨rfl, rfl, rfl, rfl, rfl⟩ rfl rfl rfl rfl rfl (by kernel_rfl) Try.func4 (by kernel_rfl)
    (of_decide_eq_true (by kernel_rfl)) (by unfold Func.isWrapper; first | (rw [if_pos (by decide +kernel)]; kernel_rfl) | (rw [if_neg (by decide +kernel)]; exact ⟨rfl, rfl⟩))
    (fun os started H enc _ => lifted os started H enc)
theorem proved : Rows.ViewSaysSaid := over
#print axioms proved
end Go.Proofs.Ytnipjfciphgfjaa.viewSays
namespace Go.Proofs.Ytnipjfciphgfjaa
/-- The row, under a short name, for the claim. -/
theorem viewSays_holds : Rows.ViewSaysSaid := viewSays.proved
end Go.Proofs.Ytnipjfciphgfjaa
