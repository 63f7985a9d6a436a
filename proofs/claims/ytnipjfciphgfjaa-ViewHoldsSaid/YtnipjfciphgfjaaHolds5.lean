/- Several texts of this seat put together, each as it stands: Gx27, PureViewHolds, FundWorks, FundWords. -/
import Derived.Test.YtnipjfciphgfjaaHolds4
/- What functions of the program answer, for all inputs of which their Lean functions tell an answer; printed by a program of this session with the kit's printer, over contracts that this session proved by hand. -/
namespace Go.Proofs.Ytnipjfciphgfjaa.G
open Go.RowKit Go.Proofs.YtnipjfciphgfjaaW.PrintWords Go.Proofs.YtnipjfciphgfjaaW.PrintLast Go.Proofs.YtnipjfciphgfjaaW.PrintMore
attribute [local go_sem] max2_int min2_int max_two min_two max_three min_three max_four min_four   -- for this text's walks alone
set_option linter.unusedVariables false
set_option linter.unusedSimpArgs false

/-! ### field_Undo: function 39 -/
set_option maxHeartbeats 16000000 in
set_option maxRecDepth 100000 in
theorem move_undo_pos (a0_0 : Int) (a0_1 : Int) (a0_2 : Int) (a0_3 : Int) (a0_4 : Int) (a0_5 : Int) (a1 : Int) (v : Int) (vo : Bool) (s : Int) (so : Bool) (gd : Bool) (w : World) (hw : field_wrong.f a0_0 a0_1 a0_2 a0_3 a0_4 a0_5 a1 = some 0) (hd : decide (a1 < 0) = false) (hv : calc_Sub.f a0_5 a1 = some (v, vo)) (hs : calc_Sub.f a0_4 a1 = some (s, so)) (hg : field_Good.f a0_0 a0_1 a0_2 a0_3 s v = some gd) (r : Array Value) (c : Int) (hr : (r, c) = if vo = true ∧ so = true ∧ gd = true then (#[.int .i64 a0_0, .int .i64 a0_1, .int .i64 a0_2, .int .i64 a0_3, .int .i64 s, .int .i64 v], 0) else (#[.int .i64 a0_0, .int .i64 a0_1, .int .i64 a0_2, .int .i64 a0_3, .int .i64 a0_4, .int .i64 a0_5], 12)) :
    Calls Try.prog 54 #[.agg #[.int .i64 a0_0, .int .i64 a0_1, .int .i64 a0_2, .int .i64 a0_3, .int .i64 a0_4, .int .i64 a0_5], .int .i64 a1, .func (.func 57) #[] #[], .func (.func 55) #[] #[], .func (.func 55) #[] #[], .func (.func 57) #[] #[]] w fun e w' => e = .returned (.tuple #[.agg r, .int .i64 c]) ∧ Below w.heap.size w w' := by
  have HW := Aside0.mk hw
  have HV := Aside0.mk hv
  have HS := Aside0.mk hs
  have HG := Aside0.mk hg
  have HR := Aside0.mk hr
  clear hw hg hr hv hs
  go_enter Try.func54, Try.ntmps54
  go_wp2_with (go_at_call 42; ((with_reducible refine (field_wrong.calls _ _ _ _ _ _ _ _ _ HW.out).mono ?_); rintro e w1 ⟨rfl, hb⟩; obtain ⟨hc, hf⟩ := bcell hb; have hz : w.heap.size + 1 < w1.heap.size := (by have := hb.size; simp at this; omega)))
  have k0 : w1.cell? ⟨w.heap.size, 0, none⟩ = some (.int .i64 a0_0) := by simp [hc, go_sem]
  have k1 : w1.cell? ⟨w.heap.size, 1, none⟩ = some (.int .i64 a0_1) := by simp [hc, go_sem]
  have k2 : w1.cell? ⟨w.heap.size, 2, none⟩ = some (.int .i64 a0_2) := by simp [hc, go_sem]
  have k3 : w1.cell? ⟨w.heap.size, 3, none⟩ = some (.int .i64 a0_3) := by simp [hc, go_sem]
  have k4 : w1.cell? ⟨w.heap.size, 4, none⟩ = some (.int .i64 a0_4) := by simp [hc, go_sem]
  have k5 : w1.cell? ⟨w.heap.size, 5, none⟩ = some (.int .i64 a0_5) := by simp [hc, go_sem]
  have m0 : w1.cell? ⟨w.heap.size + 1, 0, none⟩ = some (.int .i64 0) := by simp [hc, go_sem]
  have n0 : w1.frozen? ⟨w.heap.size + 1, 0, none⟩ = false := by simp [hf, go_sem]
  have m1 : w1.cell? ⟨w.heap.size + 1, 1, none⟩ = some (.int .i64 0) := by simp [hc, go_sem]
  have n1 : w1.frozen? ⟨w.heap.size + 1, 1, none⟩ = false := by simp [hf, go_sem]
  have m2 : w1.cell? ⟨w.heap.size + 1, 2, none⟩ = some (.int .i64 0) := by simp [hc, go_sem]
  have n2 : w1.frozen? ⟨w.heap.size + 1, 2, none⟩ = false := by simp [hf, go_sem]
  have m3 : w1.cell? ⟨w.heap.size + 1, 3, none⟩ = some (.int .i64 0) := by simp [hc, go_sem]
  have n3 : w1.frozen? ⟨w.heap.size + 1, 3, none⟩ = false := by simp [hf, go_sem]
  have m4 : w1.cell? ⟨w.heap.size + 1, 4, none⟩ = some (.int .i64 0) := by simp [hc, go_sem]
  have n4 : w1.frozen? ⟨w.heap.size + 1, 4, none⟩ = false := by simp [hf, go_sem]
  have m5 : w1.cell? ⟨w.heap.size + 1, 5, none⟩ = some (.int .i64 0) := by simp [hc, go_sem]
  have n5 : w1.frozen? ⟨w.heap.size + 1, 5, none⟩ = false := by simp [hf, go_sem]
  have K0 := Aside0.mk k0
  have M0 := Aside0.mk m0
  have N0 := Aside0.mk n0
  have K1 := Aside0.mk k1
  have M1 := Aside0.mk m1
  have N1 := Aside0.mk n1
  have K2 := Aside0.mk k2
  have M2 := Aside0.mk m2
  have N2 := Aside0.mk n2
  have K3 := Aside0.mk k3
  have M3 := Aside0.mk m3
  have N3 := Aside0.mk n3
  have K4 := Aside0.mk k4
  have M4 := Aside0.mk m4
  have N4 := Aside0.mk n4
  have K5 := Aside0.mk k5
  have M5 := Aside0.mk m5
  have N5 := Aside0.mk n5
  clear k0 k1 k3 k4 m0 m1 m2 m3 m4 m5 n0 n1 n2 n3 n4 n5
  have hbw : Below w.heap.size w w1 := ((Below.refl _ _).alloc (Nat.le_refl _) _ |>.alloc (by simp) _).trans (hb.mono (by simp; omega))
  have HBW := Aside0.mk hbw
  clear hb hbw hc hf
  go_cut [15, 16] (fun p1 p2 wc => ∃ b1 b2 : Nat, p1 = .pointer (some ⟨b1, 0, none⟩) ∧ p2 = .pointer (some ⟨b2, 0, none⟩) ∧ TwoParts w1 b1 b2 v vo a0_2 true wc)
  case first =>
    go_region_held3 (fun w' => Below w1.heap.size w1 w' ∧ w'.cell? ⟨w.heap.size, 5, none⟩ = some (.int .i64 a0_5) ∧ w'.cell? ⟨w.heap.size, 2, none⟩ = some (.int .i64 a0_2)) (with_reducible ((refine keepTwo k5 k2 ?_); (with_reducible (repeat (first | exact Below.refl _ _ | refine Below.drew ?_ | refine belowDN ?_ | refine allocB ?_ | refine setB ?_ ?_ | omega))))) (first | (go_at_call 57; ((with_reducible refine (part_less_t _ _ _ _ _ HV.out).mono ?_); rintro e w' ⟨rfl, nd, c1, c2, rfl⟩)) | (go_at_call 55; ((with_reducible refine (part_still_t _ _ _).mono ?_); rintro e w' ⟨rfl, nd, c1, c2, rfl⟩)))
    all_goals
      go_wp2
      go_meet
      case rel => exact ⟨_, _, rfl, rfl, (by (with_reducible (repeat (first | exact Below.refl _ _ | refine Below.drew ?_ | refine belowDN ?_ | refine allocB ?_ | refine setB ?_ ?_ | omega)))), (by omega), (by omega), (by (first | (simp [go_sem]; done) | ((with_reducible refine World.cell?_setCell_same' _ _ _ ?_); (simp [go_sem]; done)) | (simp [go_sem]; (with_reducible refine World.cell?_setCell_same' _ _ _ ?_); (simp [go_sem]; done)))), (by (first | (simp [go_sem]; done) | ((with_reducible refine World.cell?_setCell_same' _ _ _ ?_); (simp [go_sem]; done)) | (simp [go_sem]; (with_reducible refine World.cell?_setCell_same' _ _ _ ?_); (simp [go_sem]; done)))), (by (first | (simp [go_sem]; done) | ((with_reducible refine World.cell?_setCell_same' _ _ _ ?_); (simp [go_sem]; done)) | (simp [go_sem]; (with_reducible refine World.cell?_setCell_same' _ _ _ ?_); (simp [go_sem]; done)))), (by (first | (simp [go_sem]; done) | ((with_reducible refine World.cell?_setCell_same' _ _ _ ?_); (simp [go_sem]; done)) | (simp [go_sem]; (with_reducible refine World.cell?_setCell_same' _ _ _ ?_); (simp [go_sem]; done))))⟩
  case rest =>
    rename World => w2
    obtain ⟨b1, b2, rfl, rfl, hB1, g1, g2, d0, d1, d2, d3⟩ := hcut
    have p3 := keepCell hB1 K3.out (show w.heap.size < w1.heap.size by omega)
    have p4 := keepCell hB1 K4.out (show w.heap.size < w1.heap.size by omega)
    have hz1 := hB1.size
    have H1 := Aside0.mk hB1
    have D0 := Aside0.mk d0
    have D1 := Aside0.mk d1
    have D2 := Aside0.mk d2
    have D3 := Aside0.mk d3
    clear hB1 k2 k5 d0 d1 d2 d3
    go_upto_region 7 with (fail)
    go_cut [17, 18] (fun p1 p2 wc => ∃ b1 b2 : Nat, p1 = .pointer (some ⟨b1, 0, none⟩) ∧ p2 = .pointer (some ⟨b2, 0, none⟩) ∧ TwoParts w2 b1 b2 a0_3 true s so wc)
    case first =>
      go_region_held3 (fun w' => Below w2.heap.size w2 w' ∧ w'.cell? ⟨w.heap.size, 3, none⟩ = some (.int .i64 a0_3) ∧ w'.cell? ⟨w.heap.size, 4, none⟩ = some (.int .i64 a0_4)) (with_reducible ((refine keepTwo p3 p4 ?_); (with_reducible (repeat (first | exact Below.refl _ _ | refine Below.drew ?_ | refine belowDN ?_ | refine allocB ?_ | refine setB ?_ ?_ | omega))))) (first | (go_at_call 55; ((with_reducible refine (part_still_t _ _ _).mono ?_); rintro e w' ⟨rfl, nd, c1, c2, rfl⟩)) | (go_at_call 57; ((with_reducible refine (part_less_t _ _ _ _ _ HS.out).mono ?_); rintro e w' ⟨rfl, nd, c1, c2, rfl⟩)))
      all_goals
        go_wp2
        go_meet
        case rel => exact ⟨_, _, rfl, rfl, (by (with_reducible (repeat (first | exact Below.refl _ _ | refine Below.drew ?_ | refine belowDN ?_ | refine allocB ?_ | refine setB ?_ ?_ | omega)))), (by omega), (by omega), (by (first | (simp [go_sem]; done) | ((with_reducible refine World.cell?_setCell_same' _ _ _ ?_); (simp [go_sem]; done)) | (simp [go_sem]; (with_reducible refine World.cell?_setCell_same' _ _ _ ?_); (simp [go_sem]; done)))), (by (first | (simp [go_sem]; done) | ((with_reducible refine World.cell?_setCell_same' _ _ _ ?_); (simp [go_sem]; done)) | (simp [go_sem]; (with_reducible refine World.cell?_setCell_same' _ _ _ ?_); (simp [go_sem]; done)))), (by (first | (simp [go_sem]; done) | ((with_reducible refine World.cell?_setCell_same' _ _ _ ?_); (simp [go_sem]; done)) | (simp [go_sem]; (with_reducible refine World.cell?_setCell_same' _ _ _ ?_); (simp [go_sem]; done)))), (by (first | (simp [go_sem]; done) | ((with_reducible refine World.cell?_setCell_same' _ _ _ ?_); (simp [go_sem]; done)) | (simp [go_sem]; (with_reducible refine World.cell?_setCell_same' _ _ _ ?_); (simp [go_sem]; done))))⟩
    case rest =>
      obtain ⟨b3, b4, rfl, rfl, hB3, g3, g4, d4, d5, d6, d7⟩ := hcut
      have hz3 := hB3.size
      have hB4 := H1.out.trans (hB3.mono hz1)
      have q0 := keepCell hB4 K0.out (show w.heap.size < w1.heap.size by omega)
      have r0 := keepCell hB4 M0.out (show w.heap.size + 1 < w1.heap.size by omega)
      have s0 := keepFrozen hB4 N0.out (show w.heap.size + 1 < w1.heap.size by omega)
      have q1 := keepCell hB4 K1.out (show w.heap.size < w1.heap.size by omega)
      have r1 := keepCell hB4 M1.out (show w.heap.size + 1 < w1.heap.size by omega)
      have s1 := keepFrozen hB4 N1.out (show w.heap.size + 1 < w1.heap.size by omega)
      have q2 := keepCell hB4 K2.out (show w.heap.size < w1.heap.size by omega)
      have r2 := keepCell hB4 M2.out (show w.heap.size + 1 < w1.heap.size by omega)
      have s2 := keepFrozen hB4 N2.out (show w.heap.size + 1 < w1.heap.size by omega)
      have q3 := keepCell hB4 K3.out (show w.heap.size < w1.heap.size by omega)
      have r3 := keepCell hB4 M3.out (show w.heap.size + 1 < w1.heap.size by omega)
      have s3 := keepFrozen hB4 N3.out (show w.heap.size + 1 < w1.heap.size by omega)
      have q4 := keepCell hB4 K4.out (show w.heap.size < w1.heap.size by omega)
      have r4 := keepCell hB4 M4.out (show w.heap.size + 1 < w1.heap.size by omega)
      have s4 := keepFrozen hB4 N4.out (show w.heap.size + 1 < w1.heap.size by omega)
      have q5 := keepCell hB4 K5.out (show w.heap.size < w1.heap.size by omega)
      have r5 := keepCell hB4 M5.out (show w.heap.size + 1 < w1.heap.size by omega)
      have s5 := keepFrozen hB4 N5.out (show w.heap.size + 1 < w1.heap.size by omega)
      have d0 := keepCell hB3 D0.out (World.block_lt_of_cell? _ _ D0.out)
      have d1 := keepCell hB3 D1.out (World.block_lt_of_cell? _ _ D1.out)
      have d2 := keepCell hB3 D2.out (World.block_lt_of_cell? _ _ D2.out)
      have d3 := keepCell hB3 D3.out (World.block_lt_of_cell? _ _ D3.out)
      have hz5 := World.block_lt_of_cell? _ _ d4
      have hz6 := World.block_lt_of_cell? _ _ d6
      have hz7 := World.block_lt_of_cell? _ _ d0
      have hz8 := World.block_lt_of_cell? _ _ d2
      have HB5 := Aside0.mk (HBW.out.trans (hB4.mono (show w.heap.size ≤ w1.heap.size by omega)))
      clear HBW hB3 hB4 H1 K0 M0 N0 K1 M1 N1 K2 M2 N2 K3 M3 N3 K4 M4 N4 K5 M5 N5
      have hz9 : w.heap.size + 1 < wc.heap.size := by omega
      have hz10 : w.heap.size < wc.heap.size := by omega
      have hr := HR.out
      clear hz1 hz3 g1 g2 g3 g4 HR HW
      cases vo
      · obtain ⟨rfl, rfl⟩ := Prod.mk.inj (hr.trans (if_neg (by simp)))
        go_wp2_with (fail)
        refine bodyPost_ret (v := .tuple #[.agg #[.int .i64 a0_0, .int .i64 a0_1, .int .i64 a0_2, .int .i64 a0_3, .int .i64 a0_4, .int .i64 a0_5], .int .i64 12]) (by simp [results, Try.results54, go_sem, r0, r1, r2, r3, r4, r5, hz9]) rfl ⟨rfl, ?_⟩
        (with_reducible repeat (first | refine bset1 ?_ | refine below_drewN' ?_ _ | refine allocB ?_))
        with_reducible exact HB5.out
      · skip
        cases so
        · obtain ⟨rfl, rfl⟩ := Prod.mk.inj (hr.trans (if_neg (by simp)))
          go_wp2_with (fail)
          refine bodyPost_ret (v := .tuple #[.agg #[.int .i64 a0_0, .int .i64 a0_1, .int .i64 a0_2, .int .i64 a0_3, .int .i64 a0_4, .int .i64 a0_5], .int .i64 12]) (by simp [results, Try.results54, go_sem, r0, r1, r2, r3, r4, r5, hz9]) rfl ⟨rfl, ?_⟩
          (with_reducible repeat (first | refine bset1 ?_ | refine below_drewN' ?_ _ | refine allocB ?_))
          with_reducible exact HB5.out
        · skip
          cases gd
          · obtain ⟨rfl, rfl⟩ := Prod.mk.inj (hr.trans (if_neg (by simp)))
            go_wp2_with (go_at_call 40; ((with_reducible refine (field_Good.calls _ _ _ _ _ _ _ _ HG.out).mono ?_); rintro e w5 ⟨rfl, hb⟩; have hb5 : Below wc.heap.size wc w5 := ((Below.refl _ _).alloc (Nat.le_refl _) _).trans (hb.mono (by simp)); have u0 := keepCell hb5 q0 hz10; have x0 := keepCell hb5 r0 hz9; have y0 := keepFrozen hb5 s0 hz9; have u1 := keepCell hb5 q1 hz10; have x1 := keepCell hb5 r1 hz9; have y1 := keepFrozen hb5 s1 hz9; have u2 := keepCell hb5 q2 hz10; have x2 := keepCell hb5 r2 hz9; have y2 := keepFrozen hb5 s2 hz9; have u3 := keepCell hb5 q3 hz10; have x3 := keepCell hb5 r3 hz9; have y3 := keepFrozen hb5 s3 hz9; have u4 := keepCell hb5 q4 hz10; have x4 := keepCell hb5 r4 hz9; have y4 := keepFrozen hb5 s4 hz9; have u5 := keepCell hb5 q5 hz10; have x5 := keepCell hb5 r5 hz9; have y5 := keepFrozen hb5 s5 hz9; have z0 : w5.cell? ⟨wc.heap.size, 0, none⟩ = some (.int .i64 a0_0) := (hb.cell (p := ⟨wc.heap.size, 0, none⟩) (by simp)).trans (World.cell?_alloc_at _ _ _ _ rfl); have z1 : w5.cell? ⟨wc.heap.size, 1, none⟩ = some (.int .i64 a0_1) := (hb.cell (p := ⟨wc.heap.size, 1, none⟩) (by simp)).trans (World.cell?_alloc_at _ _ _ _ rfl); have z2 : w5.cell? ⟨wc.heap.size, 2, none⟩ = some (.int .i64 a0_2) := (hb.cell (p := ⟨wc.heap.size, 2, none⟩) (by simp)).trans (World.cell?_alloc_at _ _ _ _ rfl); have z3 : w5.cell? ⟨wc.heap.size, 3, none⟩ = some (.int .i64 a0_3) := (hb.cell (p := ⟨wc.heap.size, 3, none⟩) (by simp)).trans (World.cell?_alloc_at _ _ _ _ rfl); have z4 : w5.cell? ⟨wc.heap.size, 4, none⟩ = some (.int .i64 s) := (hb.cell (p := ⟨wc.heap.size, 4, none⟩) (by simp)).trans (World.cell?_alloc_at _ _ _ _ rfl); have z5 : w5.cell? ⟨wc.heap.size, 5, none⟩ = some (.int .i64 v) := (hb.cell (p := ⟨wc.heap.size, 5, none⟩) (by simp)).trans (World.cell?_alloc_at _ _ _ _ rfl); have HB6 := Aside0.mk (HB5.out.trans (hb5.mono (Nat.le_of_lt hz10))); clear hb hb5))
            refine bodyPost_ret (v := .tuple #[.agg #[.int .i64 a0_0, .int .i64 a0_1, .int .i64 a0_2, .int .i64 a0_3, .int .i64 a0_4, .int .i64 a0_5], .int .i64 12]) (by simp [results, Try.results54, go_sem, x0, x1, x2, x3, x4, x5]) rfl ⟨rfl, ?_⟩
            (with_reducible repeat (first | refine bset1 ?_ | refine below_drewN' ?_ _ | refine allocB ?_))
            with_reducible exact HB6.out
          · obtain ⟨rfl, rfl⟩ := Prod.mk.inj (hr.trans (if_pos (by simp)))
            go_wp2_with (go_at_call 40; ((with_reducible refine (field_Good.calls _ _ _ _ _ _ _ _ HG.out).mono ?_); rintro e w5 ⟨rfl, hb⟩; have hb5 : Below wc.heap.size wc w5 := ((Below.refl _ _).alloc (Nat.le_refl _) _).trans (hb.mono (by simp)); have u0 := keepCell hb5 q0 hz10; have x0 := keepCell hb5 r0 hz9; have y0 := keepFrozen hb5 s0 hz9; have u1 := keepCell hb5 q1 hz10; have x1 := keepCell hb5 r1 hz9; have y1 := keepFrozen hb5 s1 hz9; have u2 := keepCell hb5 q2 hz10; have x2 := keepCell hb5 r2 hz9; have y2 := keepFrozen hb5 s2 hz9; have u3 := keepCell hb5 q3 hz10; have x3 := keepCell hb5 r3 hz9; have y3 := keepFrozen hb5 s3 hz9; have u4 := keepCell hb5 q4 hz10; have x4 := keepCell hb5 r4 hz9; have y4 := keepFrozen hb5 s4 hz9; have u5 := keepCell hb5 q5 hz10; have x5 := keepCell hb5 r5 hz9; have y5 := keepFrozen hb5 s5 hz9; have z0 : w5.cell? ⟨wc.heap.size, 0, none⟩ = some (.int .i64 a0_0) := (hb.cell (p := ⟨wc.heap.size, 0, none⟩) (by simp)).trans (World.cell?_alloc_at _ _ _ _ rfl); have z1 : w5.cell? ⟨wc.heap.size, 1, none⟩ = some (.int .i64 a0_1) := (hb.cell (p := ⟨wc.heap.size, 1, none⟩) (by simp)).trans (World.cell?_alloc_at _ _ _ _ rfl); have z2 : w5.cell? ⟨wc.heap.size, 2, none⟩ = some (.int .i64 a0_2) := (hb.cell (p := ⟨wc.heap.size, 2, none⟩) (by simp)).trans (World.cell?_alloc_at _ _ _ _ rfl); have z3 : w5.cell? ⟨wc.heap.size, 3, none⟩ = some (.int .i64 a0_3) := (hb.cell (p := ⟨wc.heap.size, 3, none⟩) (by simp)).trans (World.cell?_alloc_at _ _ _ _ rfl); have z4 : w5.cell? ⟨wc.heap.size, 4, none⟩ = some (.int .i64 s) := (hb.cell (p := ⟨wc.heap.size, 4, none⟩) (by simp)).trans (World.cell?_alloc_at _ _ _ _ rfl); have z5 : w5.cell? ⟨wc.heap.size, 5, none⟩ = some (.int .i64 v) := (hb.cell (p := ⟨wc.heap.size, 5, none⟩) (by simp)).trans (World.cell?_alloc_at _ _ _ _ rfl); have HB6 := Aside0.mk (HB5.out.trans (hb5.mono (Nat.le_of_lt hz10))); clear hb hb5))
            refine bodyPost_ret (v := .tuple #[.agg #[.int .i64 a0_0, .int .i64 a0_1, .int .i64 a0_2, .int .i64 a0_3, .int .i64 s, .int .i64 v], .int .i64 0]) (by simp [results, Try.results54, go_sem, x0, x1, x2, x3, x4, x5]) rfl ⟨rfl, ?_⟩
            (with_reducible repeat (first | refine bset1 ?_ | refine below_drewN' ?_ _ | refine allocB ?_))
            with_reducible exact HB6.out
set_option maxHeartbeats 16000000 in
set_option maxRecDepth 100000 in
theorem move_undo_neg (a0_0 : Int) (a0_1 : Int) (a0_2 : Int) (a0_3 : Int) (a0_4 : Int) (a0_5 : Int) (a1 : Int) (v : Int) (vo : Bool) (i : Int) (io : Bool) (gd : Bool) (w : World) (hw : field_wrong.f a0_0 a0_1 a0_2 a0_3 a0_4 a0_5 a1 = some 0) (hd : decide (a1 < 0) = true) (hv : calc_Sub.f a0_5 a1 = some (v, vo)) (hi : calc_Sub.f a0_3 a1 = some (i, io)) (hg : field_Good.f a0_0 a0_1 a0_2 i a0_4 v = some gd) (r : Array Value) (c : Int) (hr : (r, c) = if vo = true ∧ io = true ∧ gd = true then (#[.int .i64 a0_0, .int .i64 a0_1, .int .i64 a0_2, .int .i64 i, .int .i64 a0_4, .int .i64 v], 0) else (#[.int .i64 a0_0, .int .i64 a0_1, .int .i64 a0_2, .int .i64 a0_3, .int .i64 a0_4, .int .i64 a0_5], 12)) :
    Calls Try.prog 54 #[.agg #[.int .i64 a0_0, .int .i64 a0_1, .int .i64 a0_2, .int .i64 a0_3, .int .i64 a0_4, .int .i64 a0_5], .int .i64 a1, .func (.func 57) #[] #[], .func (.func 55) #[] #[], .func (.func 55) #[] #[], .func (.func 57) #[] #[]] w fun e w' => e = .returned (.tuple #[.agg r, .int .i64 c]) ∧ Below w.heap.size w w' := by
  have HW := Aside0.mk hw
  have HV := Aside0.mk hv
  have HI := Aside0.mk hi
  have HG := Aside0.mk hg
  have HR := Aside0.mk hr
  clear hw hg hr hv hi
  go_enter Try.func54, Try.ntmps54
  go_wp2_with (go_at_call 42; ((with_reducible refine (field_wrong.calls _ _ _ _ _ _ _ _ _ HW.out).mono ?_); rintro e w1 ⟨rfl, hb⟩; obtain ⟨hc, hf⟩ := bcell hb; have hz : w.heap.size + 1 < w1.heap.size := (by have := hb.size; simp at this; omega)))
  have k0 : w1.cell? ⟨w.heap.size, 0, none⟩ = some (.int .i64 a0_0) := by simp [hc, go_sem]
  have k1 : w1.cell? ⟨w.heap.size, 1, none⟩ = some (.int .i64 a0_1) := by simp [hc, go_sem]
  have k2 : w1.cell? ⟨w.heap.size, 2, none⟩ = some (.int .i64 a0_2) := by simp [hc, go_sem]
  have k3 : w1.cell? ⟨w.heap.size, 3, none⟩ = some (.int .i64 a0_3) := by simp [hc, go_sem]
  have k4 : w1.cell? ⟨w.heap.size, 4, none⟩ = some (.int .i64 a0_4) := by simp [hc, go_sem]
  have k5 : w1.cell? ⟨w.heap.size, 5, none⟩ = some (.int .i64 a0_5) := by simp [hc, go_sem]
  have m0 : w1.cell? ⟨w.heap.size + 1, 0, none⟩ = some (.int .i64 0) := by simp [hc, go_sem]
  have n0 : w1.frozen? ⟨w.heap.size + 1, 0, none⟩ = false := by simp [hf, go_sem]
  have m1 : w1.cell? ⟨w.heap.size + 1, 1, none⟩ = some (.int .i64 0) := by simp [hc, go_sem]
  have n1 : w1.frozen? ⟨w.heap.size + 1, 1, none⟩ = false := by simp [hf, go_sem]
  have m2 : w1.cell? ⟨w.heap.size + 1, 2, none⟩ = some (.int .i64 0) := by simp [hc, go_sem]
  have n2 : w1.frozen? ⟨w.heap.size + 1, 2, none⟩ = false := by simp [hf, go_sem]
  have m3 : w1.cell? ⟨w.heap.size + 1, 3, none⟩ = some (.int .i64 0) := by simp [hc, go_sem]
  have n3 : w1.frozen? ⟨w.heap.size + 1, 3, none⟩ = false := by simp [hf, go_sem]
  have m4 : w1.cell? ⟨w.heap.size + 1, 4, none⟩ = some (.int .i64 0) := by simp [hc, go_sem]
  have n4 : w1.frozen? ⟨w.heap.size + 1, 4, none⟩ = false := by simp [hf, go_sem]
  have m5 : w1.cell? ⟨w.heap.size + 1, 5, none⟩ = some (.int .i64 0) := by simp [hc, go_sem]
  have n5 : w1.frozen? ⟨w.heap.size + 1, 5, none⟩ = false := by simp [hf, go_sem]
  have K0 := Aside0.mk k0
  have M0 := Aside0.mk m0
  have N0 := Aside0.mk n0
  have K1 := Aside0.mk k1
  have M1 := Aside0.mk m1
  have N1 := Aside0.mk n1
  have K2 := Aside0.mk k2
  have M2 := Aside0.mk m2
  have N2 := Aside0.mk n2
  have K3 := Aside0.mk k3
  have M3 := Aside0.mk m3
  have N3 := Aside0.mk n3
  have K4 := Aside0.mk k4
  have M4 := Aside0.mk m4
  have N4 := Aside0.mk n4
  have K5 := Aside0.mk k5
  have M5 := Aside0.mk m5
  have N5 := Aside0.mk n5
  clear k0 k1 k3 k4 m0 m1 m2 m3 m4 m5 n0 n1 n2 n3 n4 n5
  have hbw : Below w.heap.size w w1 := ((Below.refl _ _).alloc (Nat.le_refl _) _ |>.alloc (by simp) _).trans (hb.mono (by simp; omega))
  have HBW := Aside0.mk hbw
  clear hb hbw hc hf
  go_cut [15, 16] (fun p1 p2 wc => ∃ b1 b2 : Nat, p1 = .pointer (some ⟨b1, 0, none⟩) ∧ p2 = .pointer (some ⟨b2, 0, none⟩) ∧ TwoParts w1 b1 b2 v vo a0_2 true wc)
  case first =>
    go_region_held3 (fun w' => Below w1.heap.size w1 w' ∧ w'.cell? ⟨w.heap.size, 5, none⟩ = some (.int .i64 a0_5) ∧ w'.cell? ⟨w.heap.size, 2, none⟩ = some (.int .i64 a0_2)) (with_reducible ((refine keepTwo k5 k2 ?_); (with_reducible (repeat (first | exact Below.refl _ _ | refine Below.drew ?_ | refine belowDN ?_ | refine allocB ?_ | refine setB ?_ ?_ | omega))))) (first | (go_at_call 57; ((with_reducible refine (part_less_t _ _ _ _ _ HV.out).mono ?_); rintro e w' ⟨rfl, nd, c1, c2, rfl⟩)) | (go_at_call 55; ((with_reducible refine (part_still_t _ _ _).mono ?_); rintro e w' ⟨rfl, nd, c1, c2, rfl⟩)))
    all_goals
      go_wp2
      go_meet
      case rel => exact ⟨_, _, rfl, rfl, (by (with_reducible (repeat (first | exact Below.refl _ _ | refine Below.drew ?_ | refine belowDN ?_ | refine allocB ?_ | refine setB ?_ ?_ | omega)))), (by omega), (by omega), (by (first | (simp [go_sem]; done) | ((with_reducible refine World.cell?_setCell_same' _ _ _ ?_); (simp [go_sem]; done)) | (simp [go_sem]; (with_reducible refine World.cell?_setCell_same' _ _ _ ?_); (simp [go_sem]; done)))), (by (first | (simp [go_sem]; done) | ((with_reducible refine World.cell?_setCell_same' _ _ _ ?_); (simp [go_sem]; done)) | (simp [go_sem]; (with_reducible refine World.cell?_setCell_same' _ _ _ ?_); (simp [go_sem]; done)))), (by (first | (simp [go_sem]; done) | ((with_reducible refine World.cell?_setCell_same' _ _ _ ?_); (simp [go_sem]; done)) | (simp [go_sem]; (with_reducible refine World.cell?_setCell_same' _ _ _ ?_); (simp [go_sem]; done)))), (by (first | (simp [go_sem]; done) | ((with_reducible refine World.cell?_setCell_same' _ _ _ ?_); (simp [go_sem]; done)) | (simp [go_sem]; (with_reducible refine World.cell?_setCell_same' _ _ _ ?_); (simp [go_sem]; done))))⟩
  case rest =>
    rename World => w2
    obtain ⟨b1, b2, rfl, rfl, hB1, g1, g2, d0, d1, d2, d3⟩ := hcut
    have p3 := keepCell hB1 K3.out (show w.heap.size < w1.heap.size by omega)
    have p4 := keepCell hB1 K4.out (show w.heap.size < w1.heap.size by omega)
    have hz1 := hB1.size
    have H1 := Aside0.mk hB1
    have D0 := Aside0.mk d0
    have D1 := Aside0.mk d1
    have D2 := Aside0.mk d2
    have D3 := Aside0.mk d3
    clear hB1 k2 k5 d0 d1 d2 d3
    go_upto_region 7 with (fail)
    go_cut [17, 18] (fun p1 p2 wc => ∃ b1 b2 : Nat, p1 = .pointer (some ⟨b1, 0, none⟩) ∧ p2 = .pointer (some ⟨b2, 0, none⟩) ∧ TwoParts w2 b1 b2 i io a0_4 true wc)
    case first =>
      go_region_held3 (fun w' => Below w2.heap.size w2 w' ∧ w'.cell? ⟨w.heap.size, 3, none⟩ = some (.int .i64 a0_3) ∧ w'.cell? ⟨w.heap.size, 4, none⟩ = some (.int .i64 a0_4)) (with_reducible ((refine keepTwo p3 p4 ?_); (with_reducible (repeat (first | exact Below.refl _ _ | refine Below.drew ?_ | refine belowDN ?_ | refine allocB ?_ | refine setB ?_ ?_ | omega))))) (first | (go_at_call 57; ((with_reducible refine (part_less_t _ _ _ _ _ HI.out).mono ?_); rintro e w' ⟨rfl, nd, c1, c2, rfl⟩)) | (go_at_call 55; ((with_reducible refine (part_still_t _ _ _).mono ?_); rintro e w' ⟨rfl, nd, c1, c2, rfl⟩)))
      all_goals
        go_wp2
        go_meet
        case rel => exact ⟨_, _, rfl, rfl, (by (with_reducible (repeat (first | exact Below.refl _ _ | refine Below.drew ?_ | refine belowDN ?_ | refine allocB ?_ | refine setB ?_ ?_ | omega)))), (by omega), (by omega), (by (first | (simp [go_sem]; done) | ((with_reducible refine World.cell?_setCell_same' _ _ _ ?_); (simp [go_sem]; done)) | (simp [go_sem]; (with_reducible refine World.cell?_setCell_same' _ _ _ ?_); (simp [go_sem]; done)))), (by (first | (simp [go_sem]; done) | ((with_reducible refine World.cell?_setCell_same' _ _ _ ?_); (simp [go_sem]; done)) | (simp [go_sem]; (with_reducible refine World.cell?_setCell_same' _ _ _ ?_); (simp [go_sem]; done)))), (by (first | (simp [go_sem]; done) | ((with_reducible refine World.cell?_setCell_same' _ _ _ ?_); (simp [go_sem]; done)) | (simp [go_sem]; (with_reducible refine World.cell?_setCell_same' _ _ _ ?_); (simp [go_sem]; done)))), (by (first | (simp [go_sem]; done) | ((with_reducible refine World.cell?_setCell_same' _ _ _ ?_); (simp [go_sem]; done)) | (simp [go_sem]; (with_reducible refine World.cell?_setCell_same' _ _ _ ?_); (simp [go_sem]; done))))⟩
    case rest =>
      obtain ⟨b3, b4, rfl, rfl, hB3, g3, g4, d4, d5, d6, d7⟩ := hcut
      have hz3 := hB3.size
      have hB4 := H1.out.trans (hB3.mono hz1)
      have q0 := keepCell hB4 K0.out (show w.heap.size < w1.heap.size by omega)
      have r0 := keepCell hB4 M0.out (show w.heap.size + 1 < w1.heap.size by omega)
      have s0 := keepFrozen hB4 N0.out (show w.heap.size + 1 < w1.heap.size by omega)
      have q1 := keepCell hB4 K1.out (show w.heap.size < w1.heap.size by omega)
      have r1 := keepCell hB4 M1.out (show w.heap.size + 1 < w1.heap.size by omega)
      have s1 := keepFrozen hB4 N1.out (show w.heap.size + 1 < w1.heap.size by omega)
      have q2 := keepCell hB4 K2.out (show w.heap.size < w1.heap.size by omega)
      have r2 := keepCell hB4 M2.out (show w.heap.size + 1 < w1.heap.size by omega)
      have s2 := keepFrozen hB4 N2.out (show w.heap.size + 1 < w1.heap.size by omega)
      have q3 := keepCell hB4 K3.out (show w.heap.size < w1.heap.size by omega)
      have r3 := keepCell hB4 M3.out (show w.heap.size + 1 < w1.heap.size by omega)
      have s3 := keepFrozen hB4 N3.out (show w.heap.size + 1 < w1.heap.size by omega)
      have q4 := keepCell hB4 K4.out (show w.heap.size < w1.heap.size by omega)
      have r4 := keepCell hB4 M4.out (show w.heap.size + 1 < w1.heap.size by omega)
      have s4 := keepFrozen hB4 N4.out (show w.heap.size + 1 < w1.heap.size by omega)
      have q5 := keepCell hB4 K5.out (show w.heap.size < w1.heap.size by omega)
      have r5 := keepCell hB4 M5.out (show w.heap.size + 1 < w1.heap.size by omega)
      have s5 := keepFrozen hB4 N5.out (show w.heap.size + 1 < w1.heap.size by omega)
      have d0 := keepCell hB3 D0.out (World.block_lt_of_cell? _ _ D0.out)
      have d1 := keepCell hB3 D1.out (World.block_lt_of_cell? _ _ D1.out)
      have d2 := keepCell hB3 D2.out (World.block_lt_of_cell? _ _ D2.out)
      have d3 := keepCell hB3 D3.out (World.block_lt_of_cell? _ _ D3.out)
      have hz5 := World.block_lt_of_cell? _ _ d4
      have hz6 := World.block_lt_of_cell? _ _ d6
      have hz7 := World.block_lt_of_cell? _ _ d0
      have hz8 := World.block_lt_of_cell? _ _ d2
      have HB5 := Aside0.mk (HBW.out.trans (hB4.mono (show w.heap.size ≤ w1.heap.size by omega)))
      clear HBW hB3 hB4 H1 K0 M0 N0 K1 M1 N1 K2 M2 N2 K3 M3 N3 K4 M4 N4 K5 M5 N5
      have hz9 : w.heap.size + 1 < wc.heap.size := by omega
      have hz10 : w.heap.size < wc.heap.size := by omega
      have hr := HR.out
      clear hz1 hz3 g1 g2 g3 g4 HR HW
      cases vo
      · obtain ⟨rfl, rfl⟩ := Prod.mk.inj (hr.trans (if_neg (by simp)))
        go_wp2_with (fail)
        refine bodyPost_ret (v := .tuple #[.agg #[.int .i64 a0_0, .int .i64 a0_1, .int .i64 a0_2, .int .i64 a0_3, .int .i64 a0_4, .int .i64 a0_5], .int .i64 12]) (by simp [results, Try.results54, go_sem, r0, r1, r2, r3, r4, r5, hz9]) rfl ⟨rfl, ?_⟩
        (with_reducible repeat (first | refine bset1 ?_ | refine below_drewN' ?_ _ | refine allocB ?_))
        with_reducible exact HB5.out
      · skip
        cases io
        · obtain ⟨rfl, rfl⟩ := Prod.mk.inj (hr.trans (if_neg (by simp)))
          go_wp2_with (fail)
          refine bodyPost_ret (v := .tuple #[.agg #[.int .i64 a0_0, .int .i64 a0_1, .int .i64 a0_2, .int .i64 a0_3, .int .i64 a0_4, .int .i64 a0_5], .int .i64 12]) (by simp [results, Try.results54, go_sem, r0, r1, r2, r3, r4, r5, hz9]) rfl ⟨rfl, ?_⟩
          (with_reducible repeat (first | refine bset1 ?_ | refine below_drewN' ?_ _ | refine allocB ?_))
          with_reducible exact HB5.out
        · skip
          cases gd
          · obtain ⟨rfl, rfl⟩ := Prod.mk.inj (hr.trans (if_neg (by simp)))
            go_wp2_with (go_at_call 40; ((with_reducible refine (field_Good.calls _ _ _ _ _ _ _ _ HG.out).mono ?_); rintro e w5 ⟨rfl, hb⟩; have hb5 : Below wc.heap.size wc w5 := ((Below.refl _ _).alloc (Nat.le_refl _) _).trans (hb.mono (by simp)); have u0 := keepCell hb5 q0 hz10; have x0 := keepCell hb5 r0 hz9; have y0 := keepFrozen hb5 s0 hz9; have u1 := keepCell hb5 q1 hz10; have x1 := keepCell hb5 r1 hz9; have y1 := keepFrozen hb5 s1 hz9; have u2 := keepCell hb5 q2 hz10; have x2 := keepCell hb5 r2 hz9; have y2 := keepFrozen hb5 s2 hz9; have u3 := keepCell hb5 q3 hz10; have x3 := keepCell hb5 r3 hz9; have y3 := keepFrozen hb5 s3 hz9; have u4 := keepCell hb5 q4 hz10; have x4 := keepCell hb5 r4 hz9; have y4 := keepFrozen hb5 s4 hz9; have u5 := keepCell hb5 q5 hz10; have x5 := keepCell hb5 r5 hz9; have y5 := keepFrozen hb5 s5 hz9; have z0 : w5.cell? ⟨wc.heap.size, 0, none⟩ = some (.int .i64 a0_0) := (hb.cell (p := ⟨wc.heap.size, 0, none⟩) (by simp)).trans (World.cell?_alloc_at _ _ _ _ rfl); have z1 : w5.cell? ⟨wc.heap.size, 1, none⟩ = some (.int .i64 a0_1) := (hb.cell (p := ⟨wc.heap.size, 1, none⟩) (by simp)).trans (World.cell?_alloc_at _ _ _ _ rfl); have z2 : w5.cell? ⟨wc.heap.size, 2, none⟩ = some (.int .i64 a0_2) := (hb.cell (p := ⟨wc.heap.size, 2, none⟩) (by simp)).trans (World.cell?_alloc_at _ _ _ _ rfl); have z3 : w5.cell? ⟨wc.heap.size, 3, none⟩ = some (.int .i64 i) := (hb.cell (p := ⟨wc.heap.size, 3, none⟩) (by simp)).trans (World.cell?_alloc_at _ _ _ _ rfl); have z4 : w5.cell? ⟨wc.heap.size, 4, none⟩ = some (.int .i64 a0_4) := (hb.cell (p := ⟨wc.heap.size, 4, none⟩) (by simp)).trans (World.cell?_alloc_at _ _ _ _ rfl); have z5 : w5.cell? ⟨wc.heap.size, 5, none⟩ = some (.int .i64 v) := (hb.cell (p := ⟨wc.heap.size, 5, none⟩) (by simp)).trans (World.cell?_alloc_at _ _ _ _ rfl); have HB6 := Aside0.mk (HB5.out.trans (hb5.mono (Nat.le_of_lt hz10))); clear hb hb5))
            refine bodyPost_ret (v := .tuple #[.agg #[.int .i64 a0_0, .int .i64 a0_1, .int .i64 a0_2, .int .i64 a0_3, .int .i64 a0_4, .int .i64 a0_5], .int .i64 12]) (by simp [results, Try.results54, go_sem, x0, x1, x2, x3, x4, x5]) rfl ⟨rfl, ?_⟩
            (with_reducible repeat (first | refine bset1 ?_ | refine below_drewN' ?_ _ | refine allocB ?_))
            with_reducible exact HB6.out
          · obtain ⟨rfl, rfl⟩ := Prod.mk.inj (hr.trans (if_pos (by simp)))
            go_wp2_with (go_at_call 40; ((with_reducible refine (field_Good.calls _ _ _ _ _ _ _ _ HG.out).mono ?_); rintro e w5 ⟨rfl, hb⟩; have hb5 : Below wc.heap.size wc w5 := ((Below.refl _ _).alloc (Nat.le_refl _) _).trans (hb.mono (by simp)); have u0 := keepCell hb5 q0 hz10; have x0 := keepCell hb5 r0 hz9; have y0 := keepFrozen hb5 s0 hz9; have u1 := keepCell hb5 q1 hz10; have x1 := keepCell hb5 r1 hz9; have y1 := keepFrozen hb5 s1 hz9; have u2 := keepCell hb5 q2 hz10; have x2 := keepCell hb5 r2 hz9; have y2 := keepFrozen hb5 s2 hz9; have u3 := keepCell hb5 q3 hz10; have x3 := keepCell hb5 r3 hz9; have y3 := keepFrozen hb5 s3 hz9; have u4 := keepCell hb5 q4 hz10; have x4 := keepCell hb5 r4 hz9; have y4 := keepFrozen hb5 s4 hz9; have u5 := keepCell hb5 q5 hz10; have x5 := keepCell hb5 r5 hz9; have y5 := keepFrozen hb5 s5 hz9; have z0 : w5.cell? ⟨wc.heap.size, 0, none⟩ = some (.int .i64 a0_0) := (hb.cell (p := ⟨wc.heap.size, 0, none⟩) (by simp)).trans (World.cell?_alloc_at _ _ _ _ rfl); have z1 : w5.cell? ⟨wc.heap.size, 1, none⟩ = some (.int .i64 a0_1) := (hb.cell (p := ⟨wc.heap.size, 1, none⟩) (by simp)).trans (World.cell?_alloc_at _ _ _ _ rfl); have z2 : w5.cell? ⟨wc.heap.size, 2, none⟩ = some (.int .i64 a0_2) := (hb.cell (p := ⟨wc.heap.size, 2, none⟩) (by simp)).trans (World.cell?_alloc_at _ _ _ _ rfl); have z3 : w5.cell? ⟨wc.heap.size, 3, none⟩ = some (.int .i64 i) := (hb.cell (p := ⟨wc.heap.size, 3, none⟩) (by simp)).trans (World.cell?_alloc_at _ _ _ _ rfl); have z4 : w5.cell? ⟨wc.heap.size, 4, none⟩ = some (.int .i64 a0_4) := (hb.cell (p := ⟨wc.heap.size, 4, none⟩) (by simp)).trans (World.cell?_alloc_at _ _ _ _ rfl); have z5 : w5.cell? ⟨wc.heap.size, 5, none⟩ = some (.int .i64 v) := (hb.cell (p := ⟨wc.heap.size, 5, none⟩) (by simp)).trans (World.cell?_alloc_at _ _ _ _ rfl); have HB6 := Aside0.mk (HB5.out.trans (hb5.mono (Nat.le_of_lt hz10))); clear hb hb5))
            refine bodyPost_ret (v := .tuple #[.agg #[.int .i64 a0_0, .int .i64 a0_1, .int .i64 a0_2, .int .i64 i, .int .i64 a0_4, .int .i64 v], .int .i64 0]) (by simp [results, Try.results54, go_sem, x0, x1, x2, x3, x4, x5]) rfl ⟨rfl, ?_⟩
            (with_reducible repeat (first | refine bset1 ?_ | refine below_drewN' ?_ _ | refine allocB ?_))
            with_reducible exact HB6.out
set_option maxHeartbeats 2000000 in
set_option maxRecDepth 100000 in
theorem field_Undo.run (a0_0 : Int) (a0_1 : Int) (a0_2 : Int) (a0_3 : Int) (a0_4 : Int) (a0_5 : Int) (a1 : Int) (x0 x1 x2 x3 x4 x5 c : Int) (w : World) (hm : ∀ w : World, Calls Try.prog 54 #[.agg #[.int .i64 a0_0, .int .i64 a0_1, .int .i64 a0_2, .int .i64 a0_3, .int .i64 a0_4, .int .i64 a0_5], .int .i64 a1, .func (.func 57) #[] #[], .func (.func 55) #[] #[], .func (.func 55) #[] #[], .func (.func 57) #[] #[]] w fun e w' => e = .returned (.tuple #[.agg #[.int .i64 x0, .int .i64 x1, .int .i64 x2, .int .i64 x3, .int .i64 x4, .int .i64 x5], .int .i64 c]) ∧ Below w.heap.size w w') :
    Calls Try.prog 39 #[.agg #[.int .i64 a0_0, .int .i64 a0_1, .int .i64 a0_2, .int .i64 a0_3, .int .i64 a0_4, .int .i64 a0_5], .int .i64 a1] w fun e w' => e = .returned (.tuple #[.agg #[.int .i64 x0, .int .i64 x1, .int .i64 x2, .int .i64 x3, .int .i64 x4, .int .i64 x5], .int .i64 c]) ∧ Below w.heap.size w w' := by
  have HM := Aside0.mk hm
  clear hm
  go_enter Try.func39, Try.ntmps39
  go_wp2_with (go_at_call 54; ((with_reducible refine (HM.out _).mono ?_); rintro e w1 ⟨rfl, hb⟩; obtain ⟨hc, hf⟩ := bcell hb))
  refine bodyPost_ret (v := .tuple #[.agg #[.int .i64 x0, .int .i64 x1, .int .i64 x2, .int .i64 x3, .int .i64 x4, .int .i64 x5], .int .i64 c]) (by simp [results, Try.results39, go_sem, hc]) rfl ⟨rfl, ?_⟩
  (with_reducible repeat (first | refine bset0 ?_ | refine bset1 ?_))
  exact ((Below.refl _ _).alloc (Nat.le_refl _) _ |>.alloc (by simp) _).trans (hb.mono (by simp; omega))
def field_Undo.f (a0_0 : Int) (a0_1 : Int) (a0_2 : Int) (a0_3 : Int) (a0_4 : Int) (a0_5 : Int) (a1 : Int) : Option (Int × Int × Int × Int × Int × Int × Int) :=
  if In64 a0_0 ∧ In64 a0_1 ∧ In64 a0_2 ∧ In64 a0_3 ∧ In64 a0_4 ∧ In64 a0_5 ∧ In64 a1 then some (moveP a0_0 a0_1 a0_2 a0_3 a0_4 a0_5 a1 (a0_5 - a1) (a0_2) (if a1 < 0 then a0_3 - a1 else a0_3) (if a1 < 0 then a0_4 else a0_4 - a1)) else none
theorem field_Undo.calls (a0_0 : Int) (a0_1 : Int) (a0_2 : Int) (a0_3 : Int) (a0_4 : Int) (a0_5 : Int) (a1 : Int) (r1 : Int) (r2 : Int) (r3 : Int) (r4 : Int) (r5 : Int) (r6 : Int) (r7 : Int) (w : World) (h : field_Undo.f a0_0 a0_1 a0_2 a0_3 a0_4 a0_5 a1 = some (r1, r2, r3, r4, r5, r6, r7)) :
    Calls Try.prog 39 #[.agg #[.int .i64 a0_0, .int .i64 a0_1, .int .i64 a0_2, .int .i64 a0_3, .int .i64 a0_4, .int .i64 a0_5], .int .i64 a1] w fun e w' => e = .returned (.tuple #[.agg #[.int .i64 r1, .int .i64 r2, .int .i64 r3, .int .i64 r4, .int .i64 r5, .int .i64 r6], .int .i64 r7]) ∧ Below w.heap.size w w' := by
  unfold field_Undo.f at h
  split at h
  case isFalse => simp at h
  case isTrue hh =>
  obtain ⟨i0, i1, i2, i3, i4, i5, i6⟩ := hh
  simp only [Option.some.injEq] at h
  have hw := field_wrong_eq a0_0 a0_1 a0_2 a0_3 a0_4 a0_5 a1
  refine field_Undo.run _ _ _ _ _ _ _ _ _ _ _ _ _ _ w (fun w => ?_)
  unfold moveP at h
  by_cases g : GoodP a0_0 a0_1 a0_2 a0_3 a0_4 a0_5
  · rw [if_neg (fun z => z g)] at h hw
    by_cases g1 : a1 = 0 ∨ a1 = -9223372036854775808
    · rw [if_pos g1] at h hw
      simp only [Prod.mk.injEq] at h
      obtain ⟨rfl, rfl, rfl, rfl, rfl, rfl, rfl⟩ := h
      exact move_wrong _ _ _ _ _ _ _ 1 _ _ _ _ w hw (by decide)
    · rw [if_neg g1] at h hw
      by_cases c : a1 < 0
      · have hd : decide (a1 < 0) = true := decide_eq_true c
        refine move_undo_neg a0_0 a0_1 a0_2 a0_3 a0_4 a0_5 a1 _ _ _ _ _ w hw hd ((sub_fit a0_5 a1 i5 i6).trans (congrArg some (fit_pair _))) ((sub_fit a0_3 a1 i3 i6).trans (congrArg some (fit_pair _))) (field_Good_eq a0_0 a0_1 a0_2 (fit (a0_3 - a1)).1 a0_4 (fit (a0_5 - a1)).1) _ _ ?_
        simp only [c, if_true] at h
        by_cases y : In64 (a0_5 - a1) ∧ In64 (a0_2) ∧ In64 (a0_3 - a1) ∧ In64 (a0_4) ∧ GoodP a0_0 a0_1 (a0_2) (a0_3 - a1) (a0_4) (a0_5 - a1)
        · rw [if_pos y] at h
          simp only [Prod.mk.injEq] at h
          obtain ⟨rfl, rfl, rfl, rfl, rfl, rfl, rfl⟩ := h
          rw [if_pos ⟨(fit_snd _).trans (decide_eq_true y.1), (fit_snd _).trans (decide_eq_true y.2.2.1), decide_eq_true (by rw [fit_fst y.1, fit_fst y.2.2.1]; exact y.2.2.2.2)⟩, fit_fst y.1, fit_fst y.2.2.1]
        · rw [if_neg y] at h
          simp only [Prod.mk.injEq] at h
          obtain ⟨rfl, rfl, rfl, rfl, rfl, rfl, rfl⟩ := h
          rw [if_neg]
          rintro ⟨z0, z1, z2⟩
          rw [fit_snd] at z0
          replace z0 := of_decide_eq_true z0
          rw [fit_snd] at z1
          replace z1 := of_decide_eq_true z1
          replace z2 := of_decide_eq_true z2
          rw [fit_fst z0, fit_fst z1] at z2
          exact y ⟨z0, i2, z1, i4, z2⟩
      · have hd : decide (a1 < 0) = false := decide_eq_false c
        refine move_undo_pos a0_0 a0_1 a0_2 a0_3 a0_4 a0_5 a1 _ _ _ _ _ w hw hd ((sub_fit a0_5 a1 i5 i6).trans (congrArg some (fit_pair _))) ((sub_fit a0_4 a1 i4 i6).trans (congrArg some (fit_pair _))) (field_Good_eq a0_0 a0_1 a0_2 a0_3 (fit (a0_4 - a1)).1 (fit (a0_5 - a1)).1) _ _ ?_
        simp only [c, if_false] at h
        by_cases y : In64 (a0_5 - a1) ∧ In64 (a0_2) ∧ In64 (a0_3) ∧ In64 (a0_4 - a1) ∧ GoodP a0_0 a0_1 (a0_2) (a0_3) (a0_4 - a1) (a0_5 - a1)
        · rw [if_pos y] at h
          simp only [Prod.mk.injEq] at h
          obtain ⟨rfl, rfl, rfl, rfl, rfl, rfl, rfl⟩ := h
          rw [if_pos ⟨(fit_snd _).trans (decide_eq_true y.1), (fit_snd _).trans (decide_eq_true y.2.2.2.1), decide_eq_true (by rw [fit_fst y.1, fit_fst y.2.2.2.1]; exact y.2.2.2.2)⟩, fit_fst y.1, fit_fst y.2.2.2.1]
        · rw [if_neg y] at h
          simp only [Prod.mk.injEq] at h
          obtain ⟨rfl, rfl, rfl, rfl, rfl, rfl, rfl⟩ := h
          rw [if_neg]
          rintro ⟨z0, z1, z2⟩
          rw [fit_snd] at z0
          replace z0 := of_decide_eq_true z0
          rw [fit_snd] at z1
          replace z1 := of_decide_eq_true z1
          replace z2 := of_decide_eq_true z2
          rw [fit_fst z0, fit_fst z1] at z2
          exact y ⟨z0, i2, i3, z1, z2⟩
  · rw [if_pos g] at h hw
    simp only [Prod.mk.injEq] at h
    obtain ⟨rfl, rfl, rfl, rfl, rfl, rfl, rfl⟩ := h
    exact move_wrong _ _ _ _ _ _ _ 12 _ _ _ _ w hw (by decide)


end Go.Proofs.Ytnipjfciphgfjaa.G
/- Whatever becomes of what was granted: what a view told holds: plain Lean. -/
namespace Go.Proofs.Ytnipjfciphgfjaa.V
open Go.RowKit Go.Proofs.Ytnipjfciphgfjaa.G Go.Proofs.YtnipjfciphgfjaaW.PrintWords Go.Proofs.YtnipjfciphgfjaaW.PrintLast Go.Proofs.YtnipjfciphgfjaaW.PrintMore
set_option linter.unusedVariables false
set_option linter.unusedSimpArgs false
/-- The sum of those below 0, of the others. -/
def negS : List Int → Int
  | [] => 0
  | d :: t => (if d < 0 then d else 0) + negS t
def posS : List Int → Int
  | [] => 0
  | d :: t => (if d < 0 then 0 else d) + posS t
theorem negS_cons (d : Int) (t : List Int) : negS (d :: t) = (if d < 0 then d else 0) + negS t := rfl
theorem posS_cons (d : Int) (t : List Int) : posS (d :: t) = (if d < 0 then 0 else d) + posS t := rfl
theorem negS_le (l : List Int) : negS l ≤ 0 := by
  induction l with
  | nil => exact Int.le_refl _
  | cons d t ih => unfold negS; split <;> omega
theorem posS_ge (l : List Int) : 0 ≤ posS l := by
  induction l with
  | nil => exact Int.le_refl _
  | cons d t ih => unfold posS; split <;> omega
theorem negS_snoc (l : List Int) (d : Int) : negS (l ++ [d]) = negS l + (if d < 0 then d else 0) := by
  induction l with
  | nil => simp [negS]
  | cons a t ih => simp only [List.cons_append, negS, ih]; omega
theorem posS_snoc (l : List Int) (d : Int) : posS (l ++ [d]) = posS l + (if d < 0 then 0 else d) := by
  induction l with
  | nil => simp [posS]
  | cons a t ih => simp only [List.cons_append, posS, ih]; omega
/-- What Settle, what Undo make of a field. -/
def settleOf : F6 → Int → F6 × Int
  | (x0, x1, x2, x3, x4, x5), d => sixOf (moveP x0 x1 x2 x3 x4 x5 d x5 (x2 + d) (if d < 0 then x3 else x3 + d) (if d < 0 then x4 + d else x4))
def undoOf : F6 → Int → F6 × Int
  | (x0, x1, x2, x3, x4, x5), d => sixOf (moveP x0 x1 x2 x3 x4 x5 d (x5 - d) x2 (if d < 0 then x3 - d else x3) (if d < 0 then x4 else x4 - d))
theorem makes_settle (x : F6) (d : Int) (h : In6 x) (hd : In64 d) : Makes 38 x d (settleOf x d).1 (settleOf x d).2 := by
  obtain ⟨x0, x1, x2, x3, x4, x5⟩ := x
  intro w
  exact field_Settle.calls x0 x1 x2 x3 x4 x5 d _ _ _ _ _ _ _ w (if_pos ⟨h.1, h.2.1, h.2.2.1, h.2.2.2.1, h.2.2.2.2.1, h.2.2.2.2.2, hd⟩)
theorem makes_undo (x : F6) (d : Int) (h : In6 x) (hd : In64 d) : Makes 39 x d (undoOf x d).1 (undoOf x d).2 := by
  obtain ⟨x0, x1, x2, x3, x4, x5⟩ := x
  intro w
  exact field_Undo.calls x0 x1 x2 x3 x4 x5 d _ _ _ _ _ _ _ w (if_pos ⟨h.1, h.2.1, h.2.2.1, h.2.2.2.1, h.2.2.2.2.1, h.2.2.2.2.2, hd⟩)
theorem move_yes {lo hi base inf sup val d v b i s : Int} (g : GoodP lo hi base inf sup val) (d0 : d ≠ 0) (d1 : d ≠ -9223372036854775808) (hv : In64 v) (hb : In64 b) (hi' : In64 i) (hs : In64 s) (q : GoodP lo hi b i s v) :
    moveP lo hi base inf sup val d v b i s = (lo, hi, b, i, s, v, 0) := by
  unfold moveP
  rw [if_neg (fun z => z g), if_neg (by omega), if_pos ⟨hv, hb, hi', hs, q⟩]
/-- A field that was a, behind additions. -/
def St (lo hi a : Int) (l : List Int) : F6 := (lo, hi, a, a + negS l, a + posS l, a + negS l + posS l)
/-- An addition may be one that was granted. -/
def Add1 (d : Int) : Prop := d ≠ 0 ∧ d ≠ -9223372036854775808 ∧ In64 d
theorem run_settle {lo hi a d : Int} {t : List Int} (h0 : In64 lo) (h1 : In64 hi) (h2 : lo ≤ a + negS (d :: t)) (h3 : a + posS (d :: t) ≤ hi) (hd : Add1 d) :
    settleOf (St lo hi a (d :: t)) d = (St lo hi (a + d) t, 0) ∧ lo ≤ a + d + negS t ∧ a + d + posS t ≤ hi := by
  have n := negS_le t
  have p := posS_ge t
  obtain ⟨d0, d1, d2⟩ := hd
  unfold St settleOf
  simp only [negS_cons, posS_cons] at h2 h3 ⊢
  unfold In64 at h0 h1
  by_cases c : d < 0
  · simp only [if_pos c] at h2 h3 ⊢
    rw [move_yes (v := a + (d + negS t) + (0 + posS t)) (b := a + d) (i := a + (d + negS t)) (s := a + (0 + posS t) + d) (by unfold GoodP; omega) d0 d1 (by unfold In64; omega) (by unfold In64; omega) (by unfold In64; omega) (by unfold In64; omega) (by unfold GoodP; omega)]
    refine ⟨?_, by omega, by omega⟩
    have e1 : a + (d + negS t) = a + d + negS t := by omega
    have e2 : a + (0 + posS t) + d = a + d + posS t := by omega
    have e3 : a + (d + negS t) + (0 + posS t) = a + d + negS t + posS t := by omega
    rw [e3, e1, e2]; rfl
  · simp only [if_neg c] at h2 h3 ⊢
    rw [move_yes (v := a + (0 + negS t) + (d + posS t)) (b := a + d) (i := a + (0 + negS t) + d) (s := a + (d + posS t)) (by unfold GoodP; omega) d0 d1 (by unfold In64; omega) (by unfold In64; omega) (by unfold In64; omega) (by unfold In64; omega) (by unfold GoodP; omega)]
    refine ⟨?_, by omega, by omega⟩
    have e1 : a + (0 + negS t) + d = a + d + negS t := by omega
    have e2 : a + (d + posS t) = a + d + posS t := by omega
    have e3 : a + (0 + negS t) + (d + posS t) = a + d + negS t + posS t := by omega
    rw [e3, e1, e2]; rfl
theorem run_undo {lo hi a d : Int} {t : List Int} (h0 : In64 lo) (h1 : In64 hi) (h2 : lo ≤ a + negS (d :: t)) (h3 : a + posS (d :: t) ≤ hi) (hd : Add1 d) :
    undoOf (St lo hi a (d :: t)) d = (St lo hi a t, 0) ∧ lo ≤ a + negS t ∧ a + posS t ≤ hi := by
  have n := negS_le t
  have p := posS_ge t
  obtain ⟨d0, d1, d2⟩ := hd
  unfold St undoOf
  simp only [negS_cons, posS_cons] at h2 h3 ⊢
  unfold In64 at h0 h1
  by_cases c : d < 0
  · simp only [if_pos c] at h2 h3 ⊢
    rw [move_yes (v := a + (d + negS t) + (0 + posS t) - d) (b := a) (i := a + (d + negS t) - d) (s := a + (0 + posS t)) (by unfold GoodP; omega) d0 d1 (by unfold In64; omega) (by unfold In64; omega) (by unfold In64; omega) (by unfold In64; omega) (by unfold GoodP; omega)]
    refine ⟨?_, by omega, by omega⟩
    have e3 : a + (d + negS t) + (0 + posS t) - d = a + negS t + posS t := by omega
    have e1 : a + (d + negS t) - d = a + negS t := by omega
    have e2 : a + (0 + posS t) = a + posS t := by omega
    rw [e3, e1, e2]; rfl
  · simp only [if_neg c] at h2 h3 ⊢
    rw [move_yes (v := a + (0 + negS t) + (d + posS t) - d) (b := a) (i := a + (0 + negS t)) (s := a + (d + posS t) - d) (by unfold GoodP; omega) d0 d1 (by unfold In64; omega) (by unfold In64; omega) (by unfold In64; omega) (by unfold In64; omega) (by unfold GoodP; omega)]
    refine ⟨?_, by omega, by omega⟩
    have e3 : a + (0 + negS t) + (d + posS t) - d = a + negS t + posS t := by omega
    have e1 : a + (0 + negS t) = a + negS t := by omega
    have e2 : a + (d + posS t) - d = a + posS t := by omega
    rw [e3, e1, e2]; rfl
theorem run_grant {lo hi a d : Int} {got : List Int} (h0 : In64 lo) (h1 : In64 hi) (g1 : lo ≤ a + negS got) (g2 : a + posS got ≤ hi) (hd : In64 d) :
    (grantOf (St lo hi a got) d = (St lo hi a (got ++ [d]), 0) ∧ lo ≤ a + negS (got ++ [d]) ∧ a + posS (got ++ [d]) ≤ hi ∧ Add1 d) ∨ (grantOf (St lo hi a got) d).2 ≠ 0 := by
  have n' := negS_le got
  have p' := posS_ge got
  unfold St
  rw [negS_snoc, posS_snoc]
  generalize negS got = n at *
  generalize posS got = p at *
  have h0' := h0
  have h1' := h1
  unfold In64 at h0' h1'
  have h7 : In7 lo hi a (a + n) (a + p) (a + n + p) d := ⟨h0, h1, by unfold In64; omega, by unfold In64; omega, by unfold In64; omega, by unfold In64; omega, hd⟩
  by_cases g : Gr lo hi a (a + n) (a + p) (a + n + p) d
  · left
    have g4 := g.2.2.2
    have e1 : infOf (a + n) d = a + (n + if d < 0 then d else 0) := by
      unfold infOf; by_cases cd : d < 0 <;> simp only [cd, if_true, if_false] <;> omega
    have e2 : supOf (a + p) d = a + (p + if d < 0 then 0 else d) := by
      unfold supOf; by_cases cd : d < 0 <;> simp only [cd, if_true, if_false] <;> omega
    have e3 : a + n + p + d = a + (n + if d < 0 then d else 0) + (p + if d < 0 then 0 else d) := by
      by_cases cd : d < 0 <;> simp only [cd, if_true, if_false] <;> omega
    rw [e1, e2] at g4
    have r := grantP_yes h7 g
    rw [e1, e2, e3] at r
    refine ⟨?_, g4.1, g4.2, g.2.1, g.2.2.1, hd⟩
    simp only [grantOf, r, sixOf]
  · right
    obtain ⟨e, he, hr⟩ := grantP_no h7 g
    simp only [grantOf, hr, sixOf]
    exact he
/-- The additions of a key. -/
def dl (k : Int × Int × Int) (l : List S27) : List Int := (l.filter fun o => decide (keyOf o = k)).map (·.f1)
theorem dl_cons_same {k : Int × Int × Int} {o : S27} (l : List S27) (h : keyOf o = k) : dl k (o :: l) = o.f1 :: dl k l := by simp [dl, h]
theorem dl_cons_other {k : Int × Int × Int} {o : S27} (l : List S27) (h : keyOf o ≠ k) : dl k (o :: l) = dl k l := by simp [dl, h]
theorem dl_snoc_same {k : Int × Int × Int} {o : S27} (l : List S27) (h : keyOf o = k) : dl k (l ++ [o]) = dl k l ++ [o.f1] := by simp [dl, h]
theorem dl_snoc_other {k : Int × Int × Int} {o : S27} (l : List S27) (h : keyOf o ≠ k) : dl k (l ++ [o]) = dl k l := by simp [dl, h]
/-- Of each key the bounds, and what the field would be were all that is open undone. -/
abbrev Bases := Int × Int × Int → Option (Int × Int × Int)
def Mof (A : Bases) (rem : List S27) : Rowmap := fun k => (A k).map fun b => St b.1 b.2.1 b.2.2 (dl k rem)
structure Inv (A : Bases) (rem : List S27) : Prop where
  fits : ∀ k lo hi a, A k = some (lo, hi, a) → In64 lo ∧ In64 hi ∧ lo ≤ a + negS (dl k rem) ∧ a + posS (dl k rem) ≤ hi
  adds : ∀ o ∈ rem, A (keyOf o) ≠ none ∧ Add1 o.f1
theorem St_in {lo hi a : Int} {l : List Int} (h0 : In64 lo) (h1 : In64 hi) (g1 : lo ≤ a + negS l) (g2 : a + posS l ≤ hi) : In6 (St lo hi a l) := by
  have n' := negS_le l
  have p' := posS_ge l
  unfold St In6
  unfold In64 at *
  omega
theorem Inv.in6 {A : Bases} {rem : List S27} (h : Inv A rem) (k : Int × Int × Int) (x : F6) (hx : Mof A rem k = some x) : In6 x := by
  unfold Mof at hx
  cases hA : A k with
  | none => rw [hA] at hx; cases hx
  | some b =>
    obtain ⟨lo, hi, a⟩ := b
    rw [hA] at hx
    simp only [Option.map_some, Option.some.injEq] at hx
    obtain ⟨h0, h1, h2, h3⟩ := h.fits k lo hi a hA
    rw [← hx]; exact St_in h0 h1 h2 h3
theorem put_eq {M : Rowmap} {k : Int × Int × Int} {x : F6} {N : Rowmap} (h1 : N k = some x) (h2 : ∀ j, j ≠ k → N j = M j) : M.put k x = N := by
  funext j
  unfold Rowmap.put
  by_cases c : j = k
  · rw [if_pos c, c, h1]
  · rw [if_neg c, h2 j c]
/-- One more grant. -/
theorem step_grant {A : Bases} {got : List S27} (h : Inv A got) (o : S27) (ho : In64 o.f1) :
    (stepOf grantOf (Mof A got) (keyOf o) o.f1 = (Mof A (got ++ [o]), 0) ∧ Inv A (got ++ [o])) ∨ ((stepOf grantOf (Mof A got) (keyOf o) o.f1).2 ≠ 0 ∧ (stepOf grantOf (Mof A got) (keyOf o) o.f1).1 = Mof A got) := by
  unfold stepOf
  cases hA : A (keyOf o) with
  | none =>
    right
    have : Mof A got (keyOf o) = none := by unfold Mof; rw [hA]; rfl
    rw [this]
    exact ⟨(by decide : (10 : Int) ≠ 0), rfl⟩
  | some b =>
    obtain ⟨lo, hi, a⟩ := b
    obtain ⟨h0, h1, h2, h3⟩ := h.fits _ lo hi a hA
    have hM : Mof A got (keyOf o) = some (St lo hi a (dl (keyOf o) got)) := by unfold Mof; rw [hA]; rfl
    rw [hM]
    simp only
    rcases run_grant h0 h1 h2 h3 ho with ⟨r1, r2, r3, r4⟩ | r
    · left
      rw [r1]
      simp only [if_true]
      refine ⟨?_, ⟨fun k lo' hi' a' hk => ?_, fun q hq => ?_⟩⟩
      · congr 1
        refine put_eq ?_ fun j hj => ?_
        · unfold Mof; rw [hA, dl_snoc_same _ rfl]; rfl
        · unfold Mof; rw [dl_snoc_other _ (fun z => hj z.symm)]
      · by_cases c : keyOf o = k
        · subst c
          rw [hA] at hk
          simp only [Option.some.injEq, Prod.mk.injEq] at hk
          obtain ⟨rfl, rfl, rfl⟩ := hk
          rw [dl_snoc_same _ rfl]
          exact ⟨h0, h1, r2, r3⟩
        · rw [dl_snoc_other _ c]; exact h.fits k lo' hi' a' hk
      · rcases List.mem_append.1 hq with hq | hq
        · exact h.adds q hq
        · obtain rfl := List.mem_singleton.1 hq
          exact ⟨by rw [hA]; simp, r4⟩
    · right
      rw [if_neg r]
      exact ⟨r, rfl⟩
/-- The ends as they were told. -/
def Within (A : Bases) (rem : List S27) (A0 : Bases) (got : List S27) : Prop :=
  ∀ k, (A k = none ∧ A0 k = none) ∨ ∃ lo hi a lo0 hi0 a0, A k = some (lo, hi, a) ∧ A0 k = some (lo0, hi0, a0) ∧ a0 + negS (dl k got) ≤ a + negS (dl k rem) ∧ a + posS (dl k rem) ≤ a0 + posS (dl k got)
theorem Within.refl (A : Bases) (got : List S27) : Within A got A got := fun k => by
  cases h : A k with
  | none => exact .inl ⟨rfl, rfl⟩
  | some b => exact .inr ⟨b.1, b.2.1, b.2.2, b.1, b.2.1, b.2.2, rfl, rfl, Int.le_refl _, Int.le_refl _⟩
theorem step_settle {A A0 : Bases} {o : S27} {t got : List S27} (h : Inv A (o :: t)) (hw : Within A (o :: t) A0 got) :
    ∃ A', stepOf settleOf (Mof A (o :: t)) (keyOf o) o.f1 = (Mof A' t, 0) ∧ Inv A' t ∧ Within A' t A0 got := by
  obtain ⟨hn, hd⟩ := h.adds o List.mem_cons_self
  cases hA : A (keyOf o) with
  | none => exact absurd hA hn
  | some b =>
    obtain ⟨lo, hi, a⟩ := b
    obtain ⟨h0, h1, h2, h3⟩ := h.fits _ lo hi a hA
    have hM : Mof A (o :: t) (keyOf o) = some (St lo hi a (o.f1 :: dl (keyOf o) t)) := by unfold Mof; rw [hA, dl_cons_same _ rfl]; rfl
    rw [dl_cons_same _ rfl] at h2 h3
    obtain ⟨r1, r2, r3⟩ := run_settle h0 h1 h2 h3 hd
    refine ⟨fun j => if j = keyOf o then some (lo, hi, a + o.f1) else A j, ?_, ⟨fun k lo' hi' a' hk => ?_, fun q hq => ?_⟩, fun k => ?_⟩
    · unfold stepOf
      rw [hM]
      simp only [r1, if_true]
      congr 1
      refine put_eq ?_ fun j hj => ?_
      · unfold Mof; simp
      · unfold Mof; simp only [if_neg hj]; rw [dl_cons_other _ (fun z => hj z.symm)]
    · by_cases c : k = keyOf o
      · simp only [if_pos c, Option.some.injEq, Prod.mk.injEq] at hk
        obtain ⟨rfl, rfl, rfl⟩ := hk
        rw [c]; exact ⟨h0, h1, r2, r3⟩
      · simp only [if_neg c] at hk
        have := h.fits k lo' hi' a' hk
        rw [dl_cons_other _ (fun z => c z.symm)] at this
        exact this
    · obtain ⟨q1, q2⟩ := h.adds q (List.mem_cons_of_mem _ hq)
      refine ⟨?_, q2⟩
      show (if keyOf q = keyOf o then _ else _) ≠ _
      split
      · simp
      · exact q1
    · rcases hw k with ⟨w1, w2⟩ | ⟨l1, u1, a1, l0, u0, a0, w1, w2, w3, w4⟩
      · left
        refine ⟨?_, w2⟩
        show (if k = keyOf o then _ else _) = _
        rw [if_neg (fun z => by rw [z, hA] at w1; cases w1)]
        exact w1
      · right
        by_cases c : k = keyOf o
        · subst c
          rw [hA] at w1
          simp only [Option.some.injEq, Prod.mk.injEq] at w1
          obtain ⟨rfl, rfl, rfl⟩ := w1
          refine ⟨lo, hi, a + o.f1, l0, u0, a0, if_pos rfl, w2, ?_, ?_⟩
          · rw [dl_cons_same _ rfl, negS_cons] at w3
            split at w3 <;> omega
          · rw [dl_cons_same _ rfl, posS_cons] at w4
            split at w4 <;> omega
        · refine ⟨l1, u1, a1, l0, u0, a0, (if_neg c).trans w1, w2, ?_, ?_⟩
          · rw [dl_cons_other _ (fun z => c z.symm)] at w3; exact w3
          · rw [dl_cons_other _ (fun z => c z.symm)] at w4; exact w4
theorem step_undo {A A0 : Bases} {o : S27} {t got : List S27} (h : Inv A (o :: t)) (hw : Within A (o :: t) A0 got) :
    stepOf undoOf (Mof A (o :: t)) (keyOf o) o.f1 = (Mof A t, 0) ∧ Inv A t ∧ Within A t A0 got := by
  obtain ⟨hn, hd⟩ := h.adds o List.mem_cons_self
  cases hA : A (keyOf o) with
  | none => exact absurd hA hn
  | some b =>
    obtain ⟨lo, hi, a⟩ := b
    obtain ⟨h0, h1, h2, h3⟩ := h.fits _ lo hi a hA
    have hM : Mof A (o :: t) (keyOf o) = some (St lo hi a (o.f1 :: dl (keyOf o) t)) := by unfold Mof; rw [hA, dl_cons_same _ rfl]; rfl
    rw [dl_cons_same _ rfl] at h2 h3
    obtain ⟨r1, r2, r3⟩ := run_undo h0 h1 h2 h3 hd
    refine ⟨?_, ⟨fun k lo' hi' a' hk => ?_, fun q hq => h.adds q (List.mem_cons_of_mem _ hq)⟩, fun k => ?_⟩
    · unfold stepOf
      rw [hM]
      simp only [r1, if_true]
      congr 1
      refine put_eq ?_ fun j hj => ?_
      · unfold Mof; rw [hA]; rfl
      · unfold Mof; rw [dl_cons_other _ (fun z => hj z.symm)]
    · by_cases c : k = keyOf o
      · subst c
        rw [hA] at hk
        simp only [Option.some.injEq, Prod.mk.injEq] at hk
        obtain ⟨rfl, rfl, rfl⟩ := hk
        exact ⟨h0, h1, r2, r3⟩
      · have := h.fits k lo' hi' a' hk
        rw [dl_cons_other _ (fun z => c z.symm)] at this
        exact this
    · rcases hw k with ⟨w1, w2⟩ | ⟨l1, u1, a1, l0, u0, a0, w1, w2, w3, w4⟩
      · exact .inl ⟨w1, w2⟩
      · right
        refine ⟨l1, u1, a1, l0, u0, a0, w1, w2, ?_, ?_⟩
        · by_cases c : keyOf o = k
          · rw [dl_cons_same _ c, negS_cons] at w3
            split at w3 <;> omega
          · rw [dl_cons_other _ c] at w3; exact w3
        · by_cases c : keyOf o = k
          · rw [dl_cons_same _ c, posS_cons] at w4
            split at w4 <;> omega
          · rw [dl_cons_other _ c] at w4; exact w4
/-- What was told holds. -/
def Held (x now : S49) : Prop := x.f0 ≤ now.f1 ∧ now.f1 ≤ x.f2 ∧ now.f0 = now.f2 ∧ x.f0 ≤ x.f1 ∧ x.f1 ≤ x.f2
theorem held_at {A A0 : Bases} {got : List S27} (hw : Within A [] A0 got) (s k : Int) : Held (seen (Mof A0 got) s k) (seen (Mof A []) s k) := by
  have n' := negS_le (dl (1, s, k) got)
  have p' := posS_ge (dl (1, s, k) got)
  unfold seen Mof Held
  rcases hw (1, s, k) with ⟨w1, w2⟩ | ⟨l1, u1, a1, l0, u0, a0, w1, w2, w3, w4⟩
  · rw [w1, w2]; simp [F6.zero, spanOf]
  · rw [w1, w2]
    have e1 : dl (1, s, k) [] = [] := rfl
    rw [e1] at w3 w4 ⊢
    simp only [Option.map_some, Option.getD_some, St, spanOf, negS, posS] at w3 w4 ⊢
    generalize negS (dl (1, s, k) got) = n at *
    generalize posS (dl (1, s, k) got) = p at *
    clear w1 w2 hw
    exact ⟨by omega, by omega, trivial, by omega, by omega⟩
/-- The bases of a fund that is made. -/
def baseOf (M : Rowmap) : Bases := fun k => (M k).map fun x => (x.1, x.2.1, x.2.2.1)
/-- A fund with nothing open. -/
def Fresh (M : Rowmap) : Prop := ∀ k x, M k = some x → ∃ lo hi a, x = (lo, hi, a, a, a, a) ∧ lo ≤ a ∧ a ≤ hi ∧ In64 lo ∧ In64 hi
theorem Fresh.decl {M : Rowmap} (h : Fresh M) (d : S60) (hd : DIn d) : Fresh (addDecl M d) := by
  unfold addDecl newOf
  by_cases c : d.f1 ≤ d.f2 ∧ d.f2 ≤ d.f3
  · rw [if_pos c]
    intro k x hx
    simp only [Rowmap.put] at hx
    split at hx
    · simp only [Option.some.injEq] at hx
      exact ⟨d.f1, d.f3, d.f2, hx.symm, c.1, c.2, hd.1, hd.2.2⟩
    · exact h k x hx
  · rw [if_neg c]; exact h
theorem Fresh.new (l : List S60) (h : ∀ d ∈ l, DIn d) : Fresh (newMap l) := by
  have : ∀ (M : Rowmap), Fresh M → Fresh (l.foldl addDecl M) := by
    induction l with
    | nil => exact fun M h => h
    | cons d t ih => exact fun M hM => ih (fun x hx => h x (List.mem_cons_of_mem _ hx)) _ (hM.decl d (h d List.mem_cons_self))
  exact this _ (fun k x hx => by cases hx)
theorem fresh_mof {M : Rowmap} (h : Fresh M) : Mof (baseOf M) [] = M ∧ Inv (baseOf M) [] := by
  refine ⟨?_, ⟨fun k lo hi a hk => ?_, fun o ho => by cases ho⟩⟩
  · funext k
    unfold Mof baseOf
    cases hM : M k with
    | none => rfl
    | some x =>
      obtain ⟨lo, hi, a, rfl, _⟩ := h k x hM
      simp [St, dl, negS, posS]
  · unfold baseOf at hk
    cases hM : M k with
    | none => rw [hM] at hk; cases hk
    | some x =>
      obtain ⟨lo', hi', a', rfl, h1, h2, h3, h4⟩ := h k x hM
      rw [hM] at hk
      simp only [Option.map_some, Option.some.injEq, Prod.mk.injEq] at hk
      obtain ⟨rfl, rfl, rfl⟩ := hk
      simp only [dl, List.filter_nil, List.map_nil, negS, posS]
      exact ⟨h3, h4, by omega, by omega⟩
end Go.Proofs.Ytnipjfciphgfjaa.V
/- The walk of the chapter's example. -/
namespace Go.Proofs.Ytnipjfciphgfjaa.V
open Go.RowKit Go.Proofs.Ytnipjfciphgfjaa.G Go.Proofs.YtnipjfciphgfjaaW.PrintWords Go.Proofs.YtnipjfciphgfjaaW.PrintLast Go.Proofs.YtnipjfciphgfjaaW.PrintMore
set_option linter.unusedVariables false
set_option linter.unusedSimpArgs false
set_option maxHeartbeats 2000000
set_option maxRecDepth 100000
theorem eqA49 (d : Nat) (w : World) (x0 y0 : Int) (x1 y1 : Int) (x2 y2 : Int) :
    (Op.equalIn (d + 2) 49 (.agg #[.int .i64 x0, .int .i64 x1, .int .i64 x2]) (.agg #[.int .i64 y0, .int .i64 y1, .int .i64 y2])).run Try.prog w = .ok (x0 == y0 && (x1 == y1 && (x2 == y2))) w := by
  refine eqA_of Try.underlying49 (by kernel_rfl) ?_
  refine eqf_cons (by rfl) (by go_simp; rfl) (by go_simp; rfl) (by go_simp) ?_
  refine eqf_cons (by rfl) (by go_simp; rfl) (by go_simp; rfl) (by go_simp) ?_
  exact eqf_last (by rfl) (by go_simp; rfl) (by go_simp; rfl) (by go_simp)
attribute [local go_sem high] eqA49
theorem one_row {α : Type} {d : Kd α} {w : World} {b : Nat} {cs : Array Value} {t : TypeId} {x : α} (h : w.heap[b]? = some (.cells cs t (0, 0))) (hK : d.K w x cs.toList) : d.C w (some ⟨b, 0, none⟩) 1 [x] := by
  refine ⟨rfl, by decide, fun _ => ⟨⟨b, 0, none⟩, rfl, fun j p hj => ?_⟩⟩
  cases j with
  | zero =>
    obtain rfl : x = p := by simpa using hj
    refine ⟨cs.toList, d.K_len hK, hK, fun i u hu => ?_⟩
    have : (⟨b, 0, none⟩ : Addr).add (0 * d.sz + i) = ⟨b, i, none⟩ := by
      simp [Addr.add, Nat.zero_mul]; exact fun h => h.symm
    rw [this]
    exact (blk_cell h i).trans (by simpa using hu)
  | succ j => simp at hj
def d0 : S60 := ⟨⟨1, 0, 0⟩, 0, 5, 9⟩
def M1 : Rowmap := (stepOf grantOf (newMap [d0]) (1, 0, 0) (-2)).1
theorem M1_is : M1 (1, 0, 0) = some (0, 9, 5, 3, 5, 3) := by decide +kernel
theorem M1_code : (stepOf grantOf (newMap [d0]) (1, 0, 0) (-2)).2 = 0 := by decide +kernel
theorem M1_free : farV 0 3 = 3 := by decide +kernel
theorem M1_room : farV 5 9 = 4 := by decide +kernel
theorem M1_seen : seen M1 0 0 = ⟨3, 3, 5⟩ := by unfold seen; rw [M1_is]; rfl
theorem M1_spans : spansOf M1 1 1 0 = [⟨3, 3, 5⟩] := by
  have e : spansOf M1 1 1 0 = seens M1 0 1 := rfl
  rw [e]
  show [seen M1 0 0] = _
  rw [M1_seen]
theorem M0_wf : WF (newMap [d0]) := WF.new _ (by
  intro d hd
  obtain rfl := List.mem_singleton.1 hd
  unfold DIn In64 d0; simp)
/-- A fund is made: three new blocks, and no elder one is turned. -/
theorem fund_New'.calls (w : World) (A : Option Addr) (c : Nat) (l : List S60) (hr : Kd.C k60 w A l.length l) (hc : l.length ≤ c) (hl : l.length ≤ 40) (hk : ∀ d ∈ l, DKey d) :
    Calls Try.prog 7 #[.slice A l.length c] w fun e w' => ∃ f t b, e = .returned (.pointer (some ⟨f, 0, none⟩)) ∧ Below w.heap.size w w' ∧ IsFund w' f t b l.length (newMap l) ∧ w.heap.size ≤ b :=
  (fund_New.calls w A c l hr hc hl hk).mono fun e w' ⟨h1, h2, h3⟩ => ⟨_, _, _, h1, h2, h3, Nat.le_refl _⟩
theorem new_d0 (w : World) (b : Nat) (h : w.heap[b]? = some (.cells #[.int .u8 1, .int .u8 0, .int .u8 0, .int .i64 0, .int .i64 5, .int .i64 9] 60 (0, 0))) :
    Calls Try.prog 7 #[.slice (some ⟨b, 0, none⟩) 1 1] w fun e w' => ∃ f t c, e = .returned (.pointer (some ⟨f, 0, none⟩)) ∧ Below w.heap.size w w' ∧ IsFund w' f t c 1 (newMap [d0]) ∧ w.heap.size ≤ c :=
  fund_New'.calls w _ 1 [d0] (one_row h (k60_mk w d0)) (Nat.le_refl _) (by decide) (by
    intro d hd
    obtain rfl := List.mem_singleton.1 hd
    exact ⟨u8_iff.2 (by decide), u8_iff.2 (by decide), u8_iff.2 (by decide)⟩)
theorem grant_d0 (w : World) (f t b : Nat) (h : IsFund w f t b 1 (newMap [d0])) :
    Calls Try.prog 8 #[.pointer (some ⟨f, 0, none⟩), .agg #[.int .u8 1, .int .u8 0, .int .u8 0, .int .i64 (-2)]] w fun e w' => e = .returned (.int .i64 0) ∧ w.grownBy w' (some b) ∧ IsFund w' f t b 2 M1 := by
  have z := fund_Grant.calls grantOf w f t b 1 (newMap [d0]) 1 0 0 (-2) h (by decide) (u8_iff.2 (by decide)) (u8_iff.2 (by decide)) (u8_iff.2 (by decide)) (fun x hx => makes_grant x _ (M0_wf _ x hx).1 (by decide))
  rw [M1_code] at z
  exact z
theorem free_d0 (w : World) (f t b : Nat) (h : IsFund w f t b 2 M1) :
    Calls Try.prog 9 #[.pointer (some ⟨f, 0, none⟩), .agg #[.int .u8 1, .int .u8 0, .int .u8 0]] w fun e w' => e = .returned (.int .i64 3) ∧ Below w.heap.size w w' :=
  view_Free.calls w f t b 2 M1 1 0 0 0 9 5 3 5 3 3 h (u8_iff.2 (by decide)) (u8_iff.2 (by decide)) (u8_iff.2 (by decide)) (by rw [M1_is]; rfl) (by rw [view_far_eq, M1_free])
theorem room_d0 (w : World) (f t b : Nat) (h : IsFund w f t b 2 M1) :
    Calls Try.prog 10 #[.pointer (some ⟨f, 0, none⟩), .agg #[.int .u8 1, .int .u8 0, .int .u8 0]] w fun e w' => e = .returned (.int .i64 4) ∧ Below w.heap.size w w' :=
  view_Room.calls w f t b 2 M1 1 0 0 0 9 5 3 5 3 4 h (u8_iff.2 (by decide)) (u8_iff.2 (by decide)) (u8_iff.2 (by decide)) (by rw [M1_is]; rfl) (by rw [view_far_eq, M1_room])
theorem spans_d0 (w : World) (f t b : Nat) (h : IsFund w f t b 2 M1) :
    Calls Try.prog 13 #[.agg (cfg 1 1), .pointer (some ⟨f, 0, none⟩), .int .u8 0] w fun e w' => ∃ ad c, e = .returned (.slice (some ad) 1 c) ∧ 1 ≤ c ∧ w'.cell? ad = some (.int .i64 3) ∧ w'.cell? ⟨ad.block, ad.off + 1, none⟩ = some (.int .i64 3) ∧ w'.cell? ⟨ad.block, ad.off + 2, none⟩ = some (.int .i64 5) ∧ Below w.heap.size w w' :=
  (view_Spans.calls w f t b 2 M1 1 1 0 h (u8_iff.2 (by decide)) (by decide) (by decide)).mono fun e w' ⟨v, h1, h2, h3⟩ => by
    rw [M1_spans] at h2
    obtain ⟨A, c, rfl, hc, hC⟩ := Kd.R_reads h2
    obtain ⟨ad, rfl, e0, e1, e2⟩ := at_T49 hC 0 (by decide) (by decide)
    have ea : ad.add (Int.toNat 0 * 3) = ad := by simp [Addr.add]
    rw [ea] at e0 e1 e2
    exact ⟨ad, c, h1, hc, e0, e1, e2, h3⟩
theorem works.calls (w : World) : Calls Try.prog 6 #[] w fun e w' => e = .returned (.bool true) ∧ Below w.heap.size w w' := by
  go_enter Try.func6, Try.ntmps6
  go_wp2_with (first
    | (go_at_call 7; ((with_reducible refine (new_d0 _ _ (blk_new1 _ _ _)).mono ?_); rintro e w1 ⟨f, t, b, rfl, hb1, hF1, hbb⟩; have HF1 := Aside0.mk hF1; have HB1 := Aside0.mk (below_step (below_alloc (below_alloc (Below.refl _ _) _) _) hb1); have HK1 := Aside0.mk (blk_below (blk_alloc (blk_new _ _) _) hb1); have HBB := Aside0.mk (Nat.lt_of_lt_of_le (show w.heap.size < ((w.alloc _).alloc _).heap.size by simp; omega) hbb); clear hF1 hb1 hbb; have k0 := (blk_cell HK1.out 0).trans rfl; have k1 := (blk_cell HK1.out 1).trans rfl; have k2 := (blk_cell HK1.out 2).trans rfl))
    | (go_at_call 8; ((with_reducible refine (grant_d0 _ _ _ _ HF1.out).mono ?_); rintro e w2 ⟨rfl, hg2, hF2⟩; have HF2 := Aside0.mk hF2; have HB2 := Aside0.mk (HB1.out.grown hg2 (below_size HB1.out) (fun k hk => by cases hk; exact Nat.le_of_lt HBB.out)); have HK2 := Aside0.mk (blk_grown HK1.out hg2 (fun hk => by injection hk with hk; exact absurd HBB.out (by rw [hk]; exact Nat.lt_irrefl _))); clear hg2 hF2 k0 k1 k2))
    | (go_at_call 13; ((with_reducible refine (spans_d0 _ _ _ _ HF2.out).mono ?_); rintro e w3 ⟨ad, cp, rfl, hcp, c0, c1, c2, hb3⟩; have HF3 := Aside0.mk (HF2.out.below hb3); have HB3 := Aside0.mk (below_step HB2.out hb3); have HK3 := Aside0.mk (blk_below HK2.out hb3); clear hb3; have k0 := (blk_cell HK3.out 0).trans rfl; have k1 := (blk_cell HK3.out 1).trans rfl; have k2 := (blk_cell HK3.out 2).trans rfl))
    | (go_at_call 9; ((with_reducible refine (free_d0 _ _ _ _ HF3.out).mono ?_); rintro e w4 ⟨rfl, hb4⟩; have HF4 := Aside0.mk (HF3.out.below hb4); have HB4 := Aside0.mk (below_step HB3.out hb4); have HK4 := Aside0.mk (blk_below HK3.out hb4); replace c0 := (hb4.cell (World.block_lt_of_cell? _ _ c0)).trans c0; replace c1 := (hb4.cell (World.block_lt_of_cell? _ _ c1)).trans c1; replace c2 := (hb4.cell (World.block_lt_of_cell? _ _ c2)).trans c2; clear hb4 k0 k1 k2; have k0 := (blk_cell HK4.out 0).trans rfl; have k1 := (blk_cell HK4.out 1).trans rfl; have k2 := (blk_cell HK4.out 2).trans rfl))
    | (go_at_call 10; ((with_reducible refine (room_d0 _ _ _ _ HF4.out).mono ?_); rintro e w5 ⟨rfl, hb5⟩; have HB5 := Aside0.mk (below_step HB4.out hb5); replace c0 := (hb5.cell (World.block_lt_of_cell? _ _ c0)).trans c0; replace c1 := (hb5.cell (World.block_lt_of_cell? _ _ c1)).trans c1; replace c2 := (hb5.cell (World.block_lt_of_cell? _ _ c2)).trans c2; clear hb5 k0 k1 k2)))
  go_ret
  exact ⟨rfl, HB5.out⟩
end Go.Proofs.Ytnipjfciphgfjaa.V
/- A configuration read and written as one step; two tables of numbers are one; what is told of no fund. -/
namespace Go.Proofs.Ytnipjfciphgfjaa.V
open Go.RowKit Go.Proofs.Ytnipjfciphgfjaa.G Go.Proofs.YtnipjfciphgfjaaW.PrintWords Go.Proofs.YtnipjfciphgfjaaW.PrintLast Go.Proofs.YtnipjfciphgfjaaW.PrintMore
set_option linter.unusedVariables false
set_option linter.unusedSimpArgs false
set_option maxHeartbeats 2000000
set_option maxRecDepth 100000
/-- A whole block is written anew. -/
theorem store_all {W : World} {g : Nat} {e : TypeId} {cur : Array Value} (t : TypeId) (cs : Array Value) (hh : W.heap[g]? = some (.cells cur e (0, 0))) (hsz : cs.size = cur.size) (ht : (Try.prog.info? t).map (·.size) = some cs.size) (h1 : ∀ q ∈ cs.toList, q.oneCell' = true) :
    ∃ W', (Instr.storeAt t (.pointer (some ⟨g, 0, none⟩)) (.agg cs)).run Try.prog W = .ok () W' ∧ W'.heap[g]? = some (.cells cs e (0, 0)) ∧ W.grownBy W' (some g) := by
  refine ⟨_, run_store_run t (.agg cs) cs.toList hh rfl (by simpa using ht) (by simp; omega) h1, ?_, ?_⟩
  · obtain ⟨cur', h2, h3, h4⟩ := setCells_row (e := e) cs.toList 0 W cur hh (by simp; omega)
    have e1 : cur' = cs := by
      apply Array.ext'
      rw [h4]
      have : (cur.toList.drop (0 + cs.toList.length)) = [] := List.drop_eq_nil_of_le (by simp; omega)
      rw [this]; simp
    rw [e1] at h2
    exact h2
  · have s := setCells_same g cs.toList 0 W
    exact ⟨s.1, s.2.1, s.2.2.1, Nat.le_of_eq s.2.2.2.symm, fun k hk hr => setCells_far _ _ _ (fun z => hr (by rw [z]))⟩
/-- The store of a configuration into its new block, as one step. -/
theorem store_cfg {ops : Array Oper} {rest : List Oper} {o : Oper} {a : Act} {Q : Exit → Act → World → Prop} {W : World} (hgd : o.guard = none) {p v : Operand} (ho : o.op = .store 44 p v) (hN : o.dst = none) {g : Nat} {s k : Int}
    (hp : a.eval p = .pointer (some ⟨g, 0, none⟩)) (hv : a.eval v = .agg (cfg s k)) (hh : W.heap[g]? = some (.cells (cfg 0 0) 44 (0, 0)))
    (h : ∀ w', w'.heap[g]? = some (.cells (cfg s k) 44 (0, 0)) → W.grownBy w' (some g) → wpList Try.prog ops Q rest a w') : wpList Try.prog ops Q (o :: rest) a W := by
  obtain ⟨W', h1, h2, h3⟩ := store_all 44 (cfg s k) hh rfl (by kernel_rfl) (by
    intro q hq
    simp [cfg] at hq
    rcases hq with rfl | rfl | rfl | rfl | rfl <;> rfl)
  refine wpList_plain hgd fun K hK => ?_
  have hrun : (execOp a.eval o).run Try.prog W = .ok .skip W' := by
    unfold execOp
    rw [ho]
    simp only [hp, hv]
    simp [h1, Result.andThen]
  unfold Oper.wp
  rw [hrun]
  show K (a.put o.dst undef) W'
  rw [hN]
  exact hK _ _ (h _ h2 h3)
/-- A configuration is read, as one step. -/
noncomputable def cfgSem (x : Value) : Sem Value := Instr.loadAt 44 x
theorem load44_is (x : Value) : Instr.loadAt 44 x = cfgSem x := rfl
attribute [irreducible] cfgSem
theorem cfg_read {W : World} {g : Nat} {s k : Int} (hh : W.heap[g]? = some (.cells (cfg s k) 44 (0, 0))) : (cfgSem (.pointer (some ⟨g, 0, none⟩))).run Try.prog W = .ok (.agg (cfg s k)) W := by
  rw [← load44_is]
  have := run_loadVar_row (P := Try.prog) W g 44 44 (cfg s k) (0, 0) _ hh Try.underlying44 rfl (by kernel_rfl)
  simp [Instr.loadAt, Instr.sureAddr, this]
theorem farV_in (a b : Int) : In64 (farV a b) := by
  unfold farV view_far.f calc_Dist.f calc_Fits.f
  have w : ∀ x : Int, In64 (wrap64 x) := fun x => by unfold In64 wrap64; omega
  by_cases h : b < a
  · rw [if_pos h]; simp; exact w _
  · rw [if_neg h]
    simp only [Option.bind_some]
    split
    · simp; decide
    · simp; exact w _
theorem freesTo_in (M : Rowmap) (skus wares : Int) (n p : Nat) : In64 (freesTo M skus wares n p) := by
  unfold freesTo freeOf freeAt
  split
  · split
    · exact farV_in _ _
    · decide
  · decide
theorem lit_in {a : Int} (h : In64 a) : (Lit.int .i64 a).wf = true := by
  unfold In64 at h
  simp [Lit.wf, IntKind.min, IntKind.max, IntKind.signed, IntKind.bits]; omega
theorem cells51 : Try.prog.cellsOf 51 = 4 := by kernel_rfl
theorem cells52 : Try.prog.cellsOf 52 = 16 := by kernel_rfl
theorem cellsOf2 : Try.prog.cellsOf 2 = 1 := by kernel_rfl
theorem lits4 (D : Nat) (a b c d : Int) (ha : In64 a) (hb : In64 b) (hc : In64 c) (hd : In64 d) : Try.prog.keyLits (D + 2) 51 [.int .i64 a, .int .i64 b, .int .i64 c, .int .i64 d] = some [.int .i64 a, .int .i64 b, .int .i64 c, .int .i64 d] := by
  unfold Program.keyLits
  rw [Try.underlying51]
  simp only [cells51, cellsOf2, List.length_cons, List.length_nil, List.range_succ, List.range_zero, List.nil_append, List.cons_append, List.mapM_cons, List.mapM_nil]
  simp [Program.keyLits, Try.underlying2, lit_in ha, lit_in hb, lit_in hc, lit_in hd]
theorem grid_eq (F : Nat → Int) (hF : ∀ p, In64 (F p)) (w : World) : (Op.equalIn 10000 52 (.agg (grid F)) (.agg (grid F))).run Try.prog w = .ok true w := by
  have hl : Try.prog.keyLits 3 52 (Value.agg (grid F)).cells.toList = some [.int .i64 (F 0), .int .i64 (F 1), .int .i64 (F 2), .int .i64 (F 3), .int .i64 (F 4), .int .i64 (F 5), .int .i64 (F 6), .int .i64 (F 7), .int .i64 (F 8), .int .i64 (F 9), .int .i64 (F 10), .int .i64 (F 11), .int .i64 (F 12), .int .i64 (F 13), .int .i64 (F 14), .int .i64 (F 15)] := by
    unfold Program.keyLits
    rw [Try.underlying52]
    simp only [Value.cells, grid, cells52, cells51, List.length_cons, List.length_nil, List.range_succ, List.range_zero, List.nil_append, List.cons_append, List.mapM_cons, List.mapM_nil]
    simp [lits4 0 _ _ _ _ (hF 0) (hF 1) (hF 2) (hF 3), lits4 0 _ _ _ _ (hF 4) (hF 5) (hF 6) (hF 7), lits4 0 _ _ _ _ (hF 8) (hF 9) (hF 10) (hF 11), lits4 0 _ _ _ _ (hF 12) (hF 13) (hF 14) (hF 15)]
  have hf : (Value.agg (grid F)).formed Try.prog 52 = true := by
    unfold Value.formed
    simp only [Try.underlying52, cells52]
    rfl
  obtain ⟨r, hr, hiff⟩ := run_equalIn_deep (P := Try.prog) 9997 3 52 (by kernel_rfl) w 3 3 _ _ _ _ hf hf hl hl
  rw [hiff.2 rfl] at hr
  exact hr
theorem IsFund.keep {w W : World} {f t b n : Nat} {M : Rowmap} {S : Nat → Prop} (h : IsFund w f t b n M) (hk : Kept w W S) (hf : ¬ S f) (ht : ¬ S t) (hb : ¬ S b) : IsFund W f t b n M :=
  ⟨(hk.2 f (blk_lt h.fund) hf).trans h.fund, (hk.2 t (blk_lt h.table) ht).trans h.table, h.map.kept (hk.2 b h.map.lt hb)⟩
theorem IsFund.lts {w : World} {f t b n : Nat} {M : Rowmap} (h : IsFund w f t b n M) : f < w.heap.size ∧ t < w.heap.size ∧ b < w.heap.size := ⟨blk_lt h.fund, blk_lt h.table, h.map.lt⟩
theorem fund_all_nil (w : World) : Calls Try.prog 44 #[.pointer none] w fun e w' => e = .returned (.pointer none) ∧ w' = w := by
  go_enter Try.func44, Try.ntmps44
  go_wp2
  refine bodyPost_ret (v := .pointer none) (by simp [results, Try.results44, go_sem]) rfl ⟨rfl, rfl⟩
theorem table_Get_nil (w : World) (k0 k1 k2 : Int) : Calls Try.prog 45 #[.pointer none, .agg #[.int .u8 k0, .int .u8 k1, .int .u8 k2]] w fun e w' =>
      e = .returned (.tuple #[.agg #[.int .i64 0, .int .i64 0, .int .i64 0, .int .i64 0, .int .i64 0, .int .i64 0], .bool false]) ∧ Below w.heap.size w w' := by
  go_enter Try.func45, Try.ntmps45
  go_wp2
  refine bodyPost_ret (v := .tuple #[.agg #[.int .i64 0, .int .i64 0, .int .i64 0, .int .i64 0, .int .i64 0, .int .i64 0], .bool false]) (by simp [results, Try.results45, go_sem]) rfl ⟨rfl, ?_⟩
  (with_reducible repeat (first | exact Below.refl _ _ | apply below_alloc | apply below_drew1 | refine below_set ?_ (by simp)))
theorem fund_Get_nil (w : World) (k0 k1 k2 : Int) : Calls Try.prog 27 #[.pointer none, .agg #[.int .u8 k0, .int .u8 k1, .int .u8 k2]] w fun e w' =>
      e = .returned (.tuple #[.agg #[.int .i64 0, .int .i64 0, .int .i64 0, .int .i64 0, .int .i64 0, .int .i64 0], .bool false]) ∧ Below w.heap.size w w' := by
  go_enter Try.func27, Try.ntmps27
  go_wp2
  go_region_with (first | (go_at_call 44; ((with_reducible refine (fund_all_nil _).mono ?_); rintro e w' ⟨rfl, rfl⟩)) | (go_at_call 45; ((with_reducible refine (table_Get_nil _ _ _ _).mono ?_); rintro e w1 ⟨rfl, hb⟩; obtain ⟨hcc, hff⟩ := bcell hb)))
  all_goals go_wp2
  all_goals (try refine bodyPost_ret (v := .tuple #[.agg #[.int .i64 0, .int .i64 0, .int .i64 0, .int .i64 0, .int .i64 0, .int .i64 0], .bool false]) (by simp [results, Try.results27, go_sem, hcc]) rfl ⟨rfl, ?_⟩)
  all_goals (have h3 : Below w.heap.size w w1 := below_step (below_drew1 (below_alloc (below_alloc (Below.refl _ _) _) _)) hb)
  all_goals (with_reducible repeat (first | exact h3 | apply below_alloc | apply below_drew1 | refine below_set ?_ (by simp)))
theorem free_zero : view_far.f 0 0 = some 0 := by decide +kernel
theorem view_Free_nil (w : World) (k0 k1 k2 : Int) : Calls Try.prog 9 #[.pointer none, .agg #[.int .u8 k0, .int .u8 k1, .int .u8 k2]] w fun e w' => e = .returned (.int .i64 0) ∧ Below w.heap.size w w' := by
  go_enter Try.func9, Try.ntmps9
  go_wp2_with (first | (go_at_call 27; ((with_reducible refine (fund_Get_nil _ _ _ _).mono ?_); rintro e w1 ⟨rfl, hb⟩; have h3 : Below w.heap.size w w1 := below_step (below_alloc (Below.refl _ _) _) hb; obtain ⟨hcc, hff⟩ := bcell hb)) | (go_at_call 28; ((with_reducible refine (view_far.calls _ _ _ _ free_zero).mono ?_); rintro e w2 ⟨rfl, ⟨nd, rfl⟩⟩)))
  refine bodyPost_ret (v := .int .i64 0) (by simp [results, Try.results9, go_sem]) rfl ⟨rfl, ?_⟩
  exact pw_below_drewN (below_alloc h3 _) nd
end Go.Proofs.Ytnipjfciphgfjaa.V
