/- The walk of the law ViewSharp: it answers true. -/
import Derived.Test.YtnipjfciphgfjaaPureViewSharp
namespace Go.Proofs.Ytnipjfciphgfjaa.V
open Go.RowKit Go.Proofs.Ytnipjfciphgfjaa.G Go.Proofs.YtnipjfciphgfjaaW.PrintWords Go.Proofs.YtnipjfciphgfjaaW.PrintLast Go.Proofs.YtnipjfciphgfjaaW.PrintMore
set_option linter.unusedVariables false
set_option linter.unusedSimpArgs false
set_option maxHeartbeats 2000000
set_option maxRecDepth 100000
/-- A grant, of all that is in order. -/
theorem grant_in (w : World) (f t b n : Nat) (M : Rowmap) (k0 k1 k2 d : Int) (hF : IsFund w f t b n M) (hn : n < maxLen) (hW : WF M) (ho : OIn ⟨⟨k0, k1, k2⟩, d⟩) :
    Calls Try.prog 8 #[.pointer (some ⟨f, 0, none⟩), .agg #[.int .u8 k0, .int .u8 k1, .int .u8 k2, .int .i64 d]] w fun e w' =>
      e = .returned (.int .i64 (stepOf grantOf M (k0, k1, k2) d).2) ∧ w.grownBy w' (some b) ∧ IsFund w' f t b (n + 1) (stepOf grantOf M (k0, k1, k2) d).1 :=
  fund_Grant.calls grantOf w f t b n M k0 k1 k2 d hF hn ho.1 ho.2.1 ho.2.2.1 (fun x hx => makes_grant x d (hW _ x hx).1 ho.2.2.2)
theorem free_in (w : World) (f t b n : Nat) (M : Rowmap) (k0 k1 k2 : Int) (hF : IsFund w f t b n M) (u0 : U8 k0) (u1 : U8 k1) (u2 : U8 k2) :
    Calls Try.prog 9 #[.pointer (some ⟨f, 0, none⟩), .agg #[.int .u8 k0, .int .u8 k1, .int .u8 k2]] w fun e w' => e = .returned (.int .i64 (freeAt M (k0, k1, k2))) ∧ Below w.heap.size w w' :=
  view_Free.calls w f t b n M k0 k1 k2 _ _ _ _ _ _ _ hF u0 u1 u2 rfl (view_far_eq _ _)
theorem room_in (w : World) (f t b n : Nat) (M : Rowmap) (k0 k1 k2 : Int) (hF : IsFund w f t b n M) (u0 : U8 k0) (u1 : U8 k1) (u2 : U8 k2) :
    Calls Try.prog 10 #[.pointer (some ⟨f, 0, none⟩), .agg #[.int .u8 k0, .int .u8 k1, .int .u8 k2]] w fun e w' => e = .returned (.int .i64 (roomAt M (k0, k1, k2))) ∧ Below w.heap.size w w' :=
  view_Room.calls w f t b n M k0 k1 k2 _ _ _ _ _ _ _ hF u0 u1 u2 rfl (view_far_eq _ _)
theorem ViewSharp.calls (w : World) (A B : Option Addr) (c1 c2 : Nat) (l : List S60) (ops : List S27) (k0 k1 k2 d : Int) (hr : Kd.C k60 w A l.length l) (hc : l.length ≤ c1) (hl : ∀ x ∈ l, DKey x ∧ DIn x) (hr2 : Kd.C k27 w B ops.length ops) (hc2 : ops.length ≤ c2) (hops : ∀ x ∈ ops, OIn x) (ho : OIn ⟨⟨k0, k1, k2⟩, d⟩) (hml : l.length ≤ maxLen) (hmo : ops.length ≤ maxLen) :
    Calls Try.prog 3 #[.slice A l.length c1, .slice B ops.length c2, .agg #[.int .u8 k0, .int .u8 k1, .int .u8 k2, .int .i64 d]] w fun e w' => e = .returned (.bool true) ∧ Below w.heap.size w w' := by
  have HR := Aside0.mk hr
  have HC := Aside0.mk hc
  have HL := Aside0.mk hl
  have HR2 := Aside0.mk hr2
  have HC2 := Aside0.mk hc2
  have HOPS := Aside0.mk hops
  have HO := Aside0.mk ho
  clear hr hc hl hr2 hc2 hops ho
  by_cases h1 : (40 : Int) < (l.length : Int)
  · have e1 : decide ((40 : Int) < (l.length : Int)) = true := decide_eq_true h1
    go_enter Try.func3, Try.ntmps3
    go_wp2_with (go_at_call 6; ((with_reducible refine (works.calls _).mono ?_); rintro e w1 ⟨rfl, hb1⟩))
    go_ret
    exact ⟨rfl, below_step (below_alloc (Below.refl _ _) _) hb1⟩
  · have e1 : decide ((40 : Int) < (l.length : Int)) = false := decide_eq_false h1
    by_cases h2 : (40 : Int) < (ops.length : Int)
    · have e2 : decide ((40 : Int) < (ops.length : Int)) = true := decide_eq_true h2
      go_enter Try.func3, Try.ntmps3
      go_wp2_with (go_at_call 6; ((with_reducible refine (works.calls _).mono ?_); rintro e w1 ⟨rfl, hb1⟩))
      go_ret
      exact ⟨rfl, below_step (below_alloc (Below.refl _ _) _) hb1⟩
    · have e2 : decide ((40 : Int) < (ops.length : Int)) = false := decide_eq_false h2
      have HL40 : Aside0 (l.length ≤ 40) := ⟨by omega⟩
      have HO40 : Aside0 (ops.length ≤ 40) := ⟨by omega⟩
      go_enter Try.func3, Try.ntmps3
      go_wp2_with (go_at_call 7; ((with_reducible refine (fund_New'.calls _ A c1 l (Kd.C_alloc HR.out _) HC.out HL40.out (fun x hx => (HL.out x hx).1)).mono ?_); rintro e w1 ⟨f, t, b, rfl, hb1, hF1, hbb⟩))
      have HB1 := Aside0.mk (below_step (below_alloc (Below.refl _ _) _) hb1)
      have HK1 := Aside0.mk (blk_below (blk_new _ _) hb1)
      have HF1 := Aside0.mk (hF1.mono HL40.out)
      have HBB := Aside0.mk (Nat.lt_of_lt_of_le (show w.heap.size < (w.alloc _).heap.size by simp) hbb)
      have HW0 := Aside0.mk (WF.new l (fun x hx => (HL.out x hx).2))
      clear hb1 hF1 hbb
      go_wp2
      go_loopg [8] ops.length (fun kq v8 w' => ∃ i : Nat, v8 = .int .i64 (i : Int) ∧ Aside0 (kq + i = ops.length) ∧ Aside0 (IsFund w' f t b (40 + i) (grants (newMap l) (ops.take i))) ∧ Aside0 (w'.heap[w.heap.size]? = some (.cells #[.int .u8 k0, .int .u8 k1, .int .u8 k2, .int .i64 d] 27 (0, 0))) ∧ Aside0 (Below w.heap.size w w'))
      case atStart => exact ⟨0, rfl, ⟨rfl⟩, HF1, HK1, HB1⟩
      case round =>
        clear HF1 HK1 HB1
        obtain ⟨i, rfl, HI, HF, HK, HB⟩ := hrel
        have HWi := Aside0.mk (HW0.out.grants (ops.take i) (fun x hx => HOPS.out x (List.mem_of_mem_take hx)))
        cases gk with
        | zero =>
          have hi := HI.out
          have c2 : decide ((i : Int) < (ops.length : Int)) = false := decide_eq_false (by omega)
          have c2' : decide (i < ops.length) = false := decide_eq_false (by omega)
          have hio : i ≤ 40 := by have := HO40.out; omega
          have HN : Aside0 (40 + i < maxLen) := ⟨Nat.lt_of_le_of_lt (show 40 + i ≤ 80 by omega) (by decide)⟩
          clear hi hio
          generalize grants (newMap l) (ops.take i) = M at HF HWi
          have kc0 : wr.cell? ⟨w.heap.size, 0, none⟩ = some (.int .u8 k0) := (blk_cell HK.out 0).trans rfl
          have kc1 : wr.cell? ⟨w.heap.size, 1, none⟩ = some (.int .u8 k1) := (blk_cell HK.out 1).trans rfl
          have kc2 : wr.cell? ⟨w.heap.size, 2, none⟩ = some (.int .u8 k2) := (blk_cell HK.out 2).trans rfl
          have kc3 : wr.cell? ⟨w.heap.size, 3, none⟩ = some (.int .i64 d) := (blk_cell HK.out 3).trans rfl
          have hsh := sharp M HWi.out (k0, k1, k2) d HO.out.2.2.2
          obtain ⟨fr, hfr⟩ : ∃ fr, freeAt M (k0, k1, k2) = fr := ⟨_, rfl⟩
          obtain ⟨rm, hrm⟩ : ∃ rm, roomAt M (k0, k1, k2) = rm := ⟨_, rfl⟩
          obtain ⟨ev, hev⟩ : ∃ ev, (stepOf grantOf M (k0, k1, k2) d).2 = ev := ⟨_, rfl⟩
          rw [hfr, hrm, hev] at hsh
          have HFREE : Aside0 (∀ W, Below wr.heap.size wr W → Calls Try.prog 9 #[.pointer (some ⟨f, 0, none⟩), .agg #[.int .u8 k0, .int .u8 k1, .int .u8 k2]] W fun e w' => e = .returned (.int .i64 fr) ∧ Below W.heap.size W w') :=
            ⟨fun W hW => by rw [← hfr]; exact free_in W f t b _ M k0 k1 k2 (HF.out.below hW) HO.out.1 HO.out.2.1 HO.out.2.2.1⟩
          have HROOM : Aside0 (∀ W, Below wr.heap.size wr W → Calls Try.prog 10 #[.pointer (some ⟨f, 0, none⟩), .agg #[.int .u8 k0, .int .u8 k1, .int .u8 k2]] W fun e w' => e = .returned (.int .i64 rm) ∧ Below W.heap.size W w') :=
            ⟨fun W hW => by rw [← hrm]; exact room_in W f t b _ M k0 k1 k2 (HF.out.below hW) HO.out.1 HO.out.2.1 HO.out.2.2.1⟩
          have HGRANT : Aside0 (∀ W, Below wr.heap.size wr W → Calls Try.prog 8 #[.pointer (some ⟨f, 0, none⟩), .agg #[.int .u8 k0, .int .u8 k1, .int .u8 k2, .int .i64 d]] W fun e w' => e = .returned (.int .i64 ev) ∧ Below w.heap.size w w' ∧ w'.heap[w.heap.size]? = some (.cells #[.int .u8 k0, .int .u8 k1, .int .u8 k2, .int .i64 d] 27 (0, 0))) :=
            ⟨fun W hW => by
              rw [← hev]
              refine (grant_in W f t b _ M k0 k1 k2 d (HF.out.below hW) HN.out HWi.out HO.out).mono ?_
              rintro e w' ⟨g1, g2, g3⟩
              exact ⟨g1, (below_step HB.out hW).grown g2 (below_size (below_step HB.out hW)) (fun k hk => by cases hk; exact Nat.le_of_lt HBB.out), blk_grown (blk_below HK.out hW) g2 (fun hk => by injection hk with hk; exact absurd HBB.out (by rw [hk]; exact Nat.lt_irrefl _))⟩⟩
          have HSH := Aside0.mk hsh
          have HO' := Aside0.mk HO.out.2.2.2
          clear hsh hfr hrm hev
          go_wp2
          go_region_with (first
            | (go_at_call 9; ((with_reducible refine (HFREE.out _ ?bb).mono ?_); (case bb => first | exact below_drew1 (Below.refl _ _) | exact hS10); rintro e w2 ⟨rfl, hb2⟩; have hS9 : Below wr.heap.size wr w2 := (by first | exact below_step (below_drew1 (Below.refl _ _)) hb2 | exact below_step hS10 hb2); clear hb2; have q0 := (hS9.cell (World.block_lt_of_cell? _ _ kc0)).trans kc0; have q1 := (hS9.cell (World.block_lt_of_cell? _ _ kc1)).trans kc1; have q2 := (hS9.cell (World.block_lt_of_cell? _ _ kc2)).trans kc2; have q3 := (hS9.cell (World.block_lt_of_cell? _ _ kc3)).trans kc3))
            | (go_at_call 10; ((with_reducible refine (HROOM.out _ ?bb).mono ?_); (case bb => first | exact below_drew1 (Below.refl _ _) | exact hS9); rintro e w3 ⟨rfl, hb3⟩; have hS10 : Below wr.heap.size wr w3 := (by first | exact below_step (below_drew1 (Below.refl _ _)) hb3 | exact below_step hS9 hb3); clear hb3; have r0 := (hS10.cell (World.block_lt_of_cell? _ _ kc0)).trans kc0; have r1 := (hS10.cell (World.block_lt_of_cell? _ _ kc1)).trans kc1; have r2 := (hS10.cell (World.block_lt_of_cell? _ _ kc2)).trans kc2; have r3 := (hS10.cell (World.block_lt_of_cell? _ _ kc3)).trans kc3)))
          all_goals obtain ⟨f1, f2, f3, f4, f5⟩ := HSH.out
          all_goals
            rcases (show d = 0 ∨ d = -9223372036854775808 ∨ (d < 0 ∧ d ≠ -9223372036854775808 ∧ ev = 0) ∨ (d < 0 ∧ d ≠ -9223372036854775808 ∧ ¬ ev = 0) ∨ (0 < d ∧ ev = 0) ∨ (0 < d ∧ ¬ ev = 0) by omega) with z | z | ⟨z, z1, z2⟩ | ⟨z, z1, z2⟩ | ⟨z, z2⟩ | ⟨z, z2⟩
            · have y := f3 (.inl z)
              have e1 : (ev == 0) = false := beq_eq_false_iff_ne.mpr (by omega)
              have e1' : (ev != 0) = true := bne_iff_ne.mpr (by omega)
              have e1'' : decide (ev = 0) = false := decide_eq_false (by omega)
              clear f1 f2 f3 f4 f5
              clear y
              subst z
              go_wp2_with (first
                | (go_at_call 8; (first | (with_reducible refine (HGRANT.out _ hS10).mono ?_) | (with_reducible refine (HGRANT.out _ hS9).mono ?_)); rintro e w4 ⟨rfl, hB4, hK4⟩; have HB4 := Aside0.mk hB4; have HK4 := Aside0.mk hK4; clear hB4 hK4; have zc := (blk_cell HK4.out 3).trans rfl)
                | (go_at_call 6; ((with_reducible refine (works.calls _).mono ?_); rintro e w5 ⟨rfl, hb5⟩)))
              go_ret
              exact ⟨rfl, below_step HB4.out hb5⟩
            · have y := f3 (.inr z)
              have e1 : (ev == 0) = false := beq_eq_false_iff_ne.mpr (by omega)
              have e1' : (ev != 0) = true := bne_iff_ne.mpr (by omega)
              have e1'' : decide (ev = 0) = false := decide_eq_false (by omega)
              clear f1 f2 f3 f4 f5
              clear y
              subst z
              go_wp2_with (first
                | (go_at_call 8; (first | (with_reducible refine (HGRANT.out _ hS10).mono ?_) | (with_reducible refine (HGRANT.out _ hS9).mono ?_)); rintro e w4 ⟨rfl, hB4, hK4⟩; have HB4 := Aside0.mk hB4; have HK4 := Aside0.mk hK4; clear hB4 hK4; have zc := (blk_cell HK4.out 3).trans rfl)
                | (go_at_call 6; ((with_reducible refine (works.calls _).mono ?_); rintro e w5 ⟨rfl, hb5⟩)))
              go_ret
              exact ⟨rfl, below_step HB4.out hb5⟩
            · have y := (f4 z z1).1 z2
              have e3 : (d == 0) = false := beq_eq_false_iff_ne.mpr (by omega)
              have e3' : (d != 0) = true := bne_iff_ne.mpr (by omega)
              have e3'' : decide (d = 0) = false := decide_eq_false (by omega)
              have e4 : (d == -9223372036854775808) = false := beq_eq_false_iff_ne.mpr (by omega)
              have e4' : (d != -9223372036854775808) = true := bne_iff_ne.mpr (by omega)
              have e4'' : decide (d = -9223372036854775808) = false := decide_eq_false (by omega)
              have e5 : decide (d < 0) = true := decide_eq_true (by omega)
              have e6 : decide (0 < d) = false := decide_eq_false (by omega)
              have e7 : decide (-d ≤ fr) = true := decide_eq_true (by omega)
              have zw : wrap64 (-d) = -d := by have := HO'.out; unfold In64 at this; unfold wrap64; omega
              have g1 : decide (0 ≤ fr) = true := decide_eq_true (by omega)
              have g2 : decide (0 ≤ rm) = true := decide_eq_true (by omega)
              clear f1 f2 f3 f4 f5
              clear y z z1
              subst z2
              go_wp2_with (first
                | (go_at_call 8; (first | (with_reducible refine (HGRANT.out _ hS10).mono ?_) | (with_reducible refine (HGRANT.out _ hS9).mono ?_)); rintro e w4 ⟨rfl, hB4, hK4⟩; have HB4 := Aside0.mk hB4; have HK4 := Aside0.mk hK4; clear hB4 hK4; have zc := (blk_cell HK4.out 3).trans rfl)
                | (go_at_call 6; ((with_reducible refine (works.calls _).mono ?_); rintro e w5 ⟨rfl, hb5⟩)))
              go_ret
              exact ⟨rfl, below_step HB4.out hb5⟩
            · have y : ¬ -d ≤ fr := fun q => z2 ((f4 z z1).2 q)
              have e1 : (ev == 0) = false := beq_eq_false_iff_ne.mpr (by omega)
              have e1' : (ev != 0) = true := bne_iff_ne.mpr (by omega)
              have e1'' : decide (ev = 0) = false := decide_eq_false (by omega)
              have e3 : (d == 0) = false := beq_eq_false_iff_ne.mpr (by omega)
              have e3' : (d != 0) = true := bne_iff_ne.mpr (by omega)
              have e3'' : decide (d = 0) = false := decide_eq_false (by omega)
              have e4 : (d == -9223372036854775808) = false := beq_eq_false_iff_ne.mpr (by omega)
              have e4' : (d != -9223372036854775808) = true := bne_iff_ne.mpr (by omega)
              have e4'' : decide (d = -9223372036854775808) = false := decide_eq_false (by omega)
              have e5 : decide (d < 0) = true := decide_eq_true (by omega)
              have e6 : decide (0 < d) = false := decide_eq_false (by omega)
              have e7 : decide (-d ≤ fr) = false := decide_eq_false (by omega)
              have zw : wrap64 (-d) = -d := by have := HO'.out; unfold In64 at this; unfold wrap64; omega
              have g1 : decide (0 ≤ fr) = true := decide_eq_true (by omega)
              have g2 : decide (0 ≤ rm) = true := decide_eq_true (by omega)
              clear f1 f2 f3 f4 f5
              clear y z z1 z2
              go_wp2_with (first
                | (go_at_call 8; (first | (with_reducible refine (HGRANT.out _ hS10).mono ?_) | (with_reducible refine (HGRANT.out _ hS9).mono ?_)); rintro e w4 ⟨rfl, hB4, hK4⟩; have HB4 := Aside0.mk hB4; have HK4 := Aside0.mk hK4; clear hB4 hK4; have zc := (blk_cell HK4.out 3).trans rfl)
                | (go_at_call 6; ((with_reducible refine (works.calls _).mono ?_); rintro e w5 ⟨rfl, hb5⟩)))
              go_ret
              exact ⟨rfl, below_step HB4.out hb5⟩
            · have y := (f5 z).1 z2
              have e3 : (d == 0) = false := beq_eq_false_iff_ne.mpr (by omega)
              have e3' : (d != 0) = true := bne_iff_ne.mpr (by omega)
              have e3'' : decide (d = 0) = false := decide_eq_false (by omega)
              have e4 : (d == -9223372036854775808) = false := beq_eq_false_iff_ne.mpr (by omega)
              have e4' : (d != -9223372036854775808) = true := bne_iff_ne.mpr (by omega)
              have e4'' : decide (d = -9223372036854775808) = false := decide_eq_false (by omega)
              have e5 : decide (d < 0) = false := decide_eq_false (by omega)
              have e6 : decide (0 < d) = true := decide_eq_true (by omega)
              have e7 : decide (d ≤ rm) = true := decide_eq_true (by omega)
              have g1 : decide (0 ≤ fr) = true := decide_eq_true (by omega)
              have g2 : decide (0 ≤ rm) = true := decide_eq_true (by omega)
              clear f1 f2 f3 f4 f5
              clear y z
              subst z2
              go_wp2_with (first
                | (go_at_call 8; (first | (with_reducible refine (HGRANT.out _ hS10).mono ?_) | (with_reducible refine (HGRANT.out _ hS9).mono ?_)); rintro e w4 ⟨rfl, hB4, hK4⟩; have HB4 := Aside0.mk hB4; have HK4 := Aside0.mk hK4; clear hB4 hK4; have zc := (blk_cell HK4.out 3).trans rfl)
                | (go_at_call 6; ((with_reducible refine (works.calls _).mono ?_); rintro e w5 ⟨rfl, hb5⟩)))
              go_ret
              exact ⟨rfl, below_step HB4.out hb5⟩
            · have y : ¬ d ≤ rm := fun q => z2 ((f5 z).2 q)
              have e1 : (ev == 0) = false := beq_eq_false_iff_ne.mpr (by omega)
              have e1' : (ev != 0) = true := bne_iff_ne.mpr (by omega)
              have e1'' : decide (ev = 0) = false := decide_eq_false (by omega)
              have e3 : (d == 0) = false := beq_eq_false_iff_ne.mpr (by omega)
              have e3' : (d != 0) = true := bne_iff_ne.mpr (by omega)
              have e3'' : decide (d = 0) = false := decide_eq_false (by omega)
              have e4 : (d == -9223372036854775808) = false := beq_eq_false_iff_ne.mpr (by omega)
              have e4' : (d != -9223372036854775808) = true := bne_iff_ne.mpr (by omega)
              have e4'' : decide (d = -9223372036854775808) = false := decide_eq_false (by omega)
              have e5 : decide (d < 0) = false := decide_eq_false (by omega)
              have e6 : decide (0 < d) = true := decide_eq_true (by omega)
              have e7 : decide (d ≤ rm) = false := decide_eq_false (by omega)
              have g1 : decide (0 ≤ fr) = true := decide_eq_true (by omega)
              have g2 : decide (0 ≤ rm) = true := decide_eq_true (by omega)
              clear f1 f2 f3 f4 f5
              clear y z z2
              go_wp2_with (first
                | (go_at_call 8; (first | (with_reducible refine (HGRANT.out _ hS10).mono ?_) | (with_reducible refine (HGRANT.out _ hS9).mono ?_)); rintro e w4 ⟨rfl, hB4, hK4⟩; have HB4 := Aside0.mk hB4; have HK4 := Aside0.mk hK4; clear hB4 hK4; have zc := (blk_cell HK4.out 3).trans rfl)
                | (go_at_call 6; ((with_reducible refine (works.calls _).mono ?_); rintro e w5 ⟨rfl, hb5⟩)))
              go_ret
              exact ⟨rfl, below_step HB4.out hb5⟩
        | succ k' =>
          have hi : i < ops.length := by have := HI.out; omega
          have c2 : decide ((i : Int) < (ops.length : Int)) = true := decide_eq_true (by omega)
          obtain ⟨ad, e0, hx0, hx1, hx2, hx3⟩ := at_T27 HR2.out (i : Int) (by omega) (by omega)
          cases e0
          replace hx0 := (HB.out.cell (World.block_lt_of_cell? w _ hx0)).trans hx0
          replace hx1 := (HB.out.cell (World.block_lt_of_cell? w _ hx1)).trans hx1
          replace hx2 := (HB.out.cell (World.block_lt_of_cell? w _ hx2)).trans hx2
          replace hx3 := (HB.out.cell (World.block_lt_of_cell? w _ hx3)).trans hx3
          have hN := grants_snoc (newMap l) (ops.take i) (rd_T27 ops (i : Int))
          rw [← take27 ops i hi] at hN
          have hD := HOPS.out _ (rd27_mem ops i hi)
          have p0 : (0 ≤ (i : Int)) = True := eq_true (by omega)
          have q0 : ((i : Int) < (ops.length : Int)) = True := eq_true (by omega)
          have hio : i ≤ 40 := by have := HO40.out; omega
          have HN0 : Aside0 (40 + i < maxLen) := ⟨Nat.lt_of_le_of_lt (show 40 + i ≤ 80 by omega) (by decide)⟩
          generalize rd_T27 ops (i : Int) = o at *
          obtain ⟨⟨j0, j1, j2⟩, dd⟩ := o
          simp only [Int.toNat_natCast] at hx0 hx1 hx2 hx3
          simp only [keyOf] at hN
          have HN := Aside0.mk hN
          have HD := Aside0.mk hD
          clear hN hD
          go_wp2_with (go_at_call 8; ((with_reducible refine (grant_in _ _ _ _ _ _ _ _ _ _ HF.out HN0.out HWi.out HD.out).mono ?_); rintro e w2 ⟨rfl, hg2, hF2⟩))
          go_roundg k'
          case measure => omega
          case rel =>
            refine ⟨i + 1, by simp, ⟨by have := HI.out; omega⟩, ⟨by rw [HN.out]; exact hF2⟩, ⟨blk_grown HK.out hg2 (fun hk => by injection hk with hk; exact absurd HBB.out (by rw [hk]; exact Nat.lt_irrefl _))⟩, ⟨HB.out.grown hg2 (below_size HB.out) (fun k hk => by cases hk; exact Nat.le_of_lt HBB.out)⟩⟩
end Go.Proofs.Ytnipjfciphgfjaa.V
