/- What functions of the program answer, for all inputs of which their Lean functions tell an answer; printed by a program of this session with the kit's printer, over contracts that this session proved by hand. -/
import Derived.Test.YtdpbfiifdphpcaaGx0
import Derived.Test.YtdpbfiifdphpcaaGx2
import Derived.Test.YtdpbfiifdphpcaaGx4
import Derived.Test.YtdpbfiifdphpcaaGx5
import Derived.Test.YtdpbfiifdphpcaaGx11
namespace Go.Proofs.Ytdpbfiifdphpcaa.G
open Go.RowKit Go.Proofs.YtdpbfiifdphpcaaW.PrintWords Go.Proofs.YtdpbfiifdphpcaaW.PrintLast Go.Proofs.YtdpbfiifdphpcaaW.PrintMore
attribute [local go_sem] max2_int min2_int max_two min_two max_three min_three max_four min_four   -- for this text's walks alone
set_option linter.unusedVariables false
set_option linter.unusedSimpArgs false

/-! ### field_Undo: function 16 -/
set_option maxHeartbeats 16000000 in
set_option maxRecDepth 100000 in
theorem move_undo_pos (a0_0 : Int) (a0_1 : Int) (a0_2 : Int) (a0_3 : Int) (a0_4 : Int) (a0_5 : Int) (a1 : Int) (v : Int) (vo : Bool) (s : Int) (so : Bool) (gd : Bool) (w : World) (hw : field_wrong.f a0_0 a0_1 a0_2 a0_3 a0_4 a0_5 a1 = some 0) (hd : decide (a1 < 0) = false) (hv : calc_Sub.f a0_5 a1 = some (v, vo)) (hs : calc_Sub.f a0_4 a1 = some (s, so)) (hg : field_Good.f a0_0 a0_1 a0_2 a0_3 s v = some gd) (r : Array Value) (c : Int) (hr : (r, c) = if vo = true ∧ so = true ∧ gd = true then (#[.int .i64 a0_0, .int .i64 a0_1, .int .i64 a0_2, .int .i64 a0_3, .int .i64 s, .int .i64 v], 0) else (#[.int .i64 a0_0, .int .i64 a0_1, .int .i64 a0_2, .int .i64 a0_3, .int .i64 a0_4, .int .i64 a0_5], 12)) :
    Calls Try.prog 28 #[.agg #[.int .i64 a0_0, .int .i64 a0_1, .int .i64 a0_2, .int .i64 a0_3, .int .i64 a0_4, .int .i64 a0_5], .int .i64 a1, .func (.func 31) #[] #[], .func (.func 29) #[] #[], .func (.func 29) #[] #[], .func (.func 31) #[] #[]] w fun e w' => e = .returned (.tuple #[.agg r, .int .i64 c]) ∧ Below w.heap.size w w' := by
  have HW := Aside0.mk hw
  have HV := Aside0.mk hv
  have HS := Aside0.mk hs
  have HG := Aside0.mk hg
  have HR := Aside0.mk hr
  clear hw hg hr hv hs
  go_enter Try.func28, Try.ntmps28
  go_wp2_with (go_at_call 26; ((with_reducible refine (field_wrong.calls _ _ _ _ _ _ _ _ _ HW.out).mono ?_); rintro e w1 ⟨rfl, hb⟩; obtain ⟨hc, hf⟩ := bcell hb; have hz : w.heap.size + 1 < w1.heap.size := (by have := hb.size; simp at this; omega)))
  have k0 : w1.cell? ⟨w.heap.size, 0, none⟩ = some (.int .i64 a0_0) := by simp [hc, go_sem]
  have k1 : w1.cell? ⟨w.heap.size, 1, none⟩ = some (.int .i64 a0_1) := by simp [hc, go_sem]
  have k2 : w1.cell? ⟨w.heap.size, 2, none⟩ = some (.int .i64 a0_2) := by simp [hc, go_sem]
  have k3 : w1.cell? ⟨w.heap.size, 3, none⟩ = some (.int .i64 a0_3) := by simp [hc, go_sem]
  have k4 : w1.cell? ⟨w.heap.size, 4, none⟩ = some (.int .i64 a0_4) := by simp [hc, go_sem]
  have k5 : w1.cell? ⟨w.heap.size, 5, none⟩ = some (.int .i64 a0_5) := by simp [hc, go_sem]
  have m0 : w1.cell? ⟨w.heap.size + 1, 0, none⟩ = some (.int .i64 0) := by simp [hc, go_sem]
  have n0 : w1.frozen? ⟨w.heap.size + 1, 0, none⟩ = false := by simp [hf, go_sem]
  have m1 : w1.cell? ⟨w.heap.size + 1, 1, none⟩ = some (.int .i64 0) := by simp [hc, go_sem]
  have n1 : w1.frozen? ⟨w.heap.size + 1, 1, none⟩ = false := by simp [hf, go_sem]
  have m2 : w1.cell? ⟨w.heap.size + 1, 2, none⟩ = some (.int .i64 0) := by simp [hc, go_sem]
  have n2 : w1.frozen? ⟨w.heap.size + 1, 2, none⟩ = false := by simp [hf, go_sem]
  have m3 : w1.cell? ⟨w.heap.size + 1, 3, none⟩ = some (.int .i64 0) := by simp [hc, go_sem]
  have n3 : w1.frozen? ⟨w.heap.size + 1, 3, none⟩ = false := by simp [hf, go_sem]
  have m4 : w1.cell? ⟨w.heap.size + 1, 4, none⟩ = some (.int .i64 0) := by simp [hc, go_sem]
  have n4 : w1.frozen? ⟨w.heap.size + 1, 4, none⟩ = false := by simp [hf, go_sem]
  have m5 : w1.cell? ⟨w.heap.size + 1, 5, none⟩ = some (.int .i64 0) := by simp [hc, go_sem]
  have n5 : w1.frozen? ⟨w.heap.size + 1, 5, none⟩ = false := by simp [hf, go_sem]
  have K0 := Aside0.mk k0
  have M0 := Aside0.mk m0
  have N0 := Aside0.mk n0
  have K1 := Aside0.mk k1
  have M1 := Aside0.mk m1
  have N1 := Aside0.mk n1
  have K2 := Aside0.mk k2
  have M2 := Aside0.mk m2
  have N2 := Aside0.mk n2
  have K3 := Aside0.mk k3
  have M3 := Aside0.mk m3
  have N3 := Aside0.mk n3
  have K4 := Aside0.mk k4
  have M4 := Aside0.mk m4
  have N4 := Aside0.mk n4
  have K5 := Aside0.mk k5
  have M5 := Aside0.mk m5
  have N5 := Aside0.mk n5
  clear k0 k1 k3 k4 m0 m1 m2 m3 m4 m5 n0 n1 n2 n3 n4 n5
  have hbw : Below w.heap.size w w1 := ((Below.refl _ _).alloc (Nat.le_refl _) _ |>.alloc (by simp) _).trans (hb.mono (by simp; omega))
  have HBW := Aside0.mk hbw
  clear hb hbw hc hf
  go_cut [15, 16] (fun p1 p2 wc => ∃ b1 b2 : Nat, p1 = .pointer (some ⟨b1, 0, none⟩) ∧ p2 = .pointer (some ⟨b2, 0, none⟩) ∧ TwoParts w1 b1 b2 v vo a0_2 true wc)
  case first =>
    go_region_held3 (fun w' => Below w1.heap.size w1 w' ∧ w'.cell? ⟨w.heap.size, 5, none⟩ = some (.int .i64 a0_5) ∧ w'.cell? ⟨w.heap.size, 2, none⟩ = some (.int .i64 a0_2)) (with_reducible ((refine keepTwo k5 k2 ?_); (with_reducible (repeat (first | exact Below.refl _ _ | refine Below.drew ?_ | refine belowDN ?_ | refine allocB ?_ | refine setB ?_ ?_ | omega))))) (first | (go_at_call 31; ((with_reducible refine (part_less_t _ _ _ _ _ HV.out).mono ?_); rintro e w' ⟨rfl, nd, c1, c2, rfl⟩)) | (go_at_call 29; ((with_reducible refine (part_still_t _ _ _).mono ?_); rintro e w' ⟨rfl, nd, c1, c2, rfl⟩)))
    all_goals
      go_wp2
      go_meet
      case rel => exact ⟨_, _, rfl, rfl, (by (with_reducible (repeat (first | exact Below.refl _ _ | refine Below.drew ?_ | refine belowDN ?_ | refine allocB ?_ | refine setB ?_ ?_ | omega)))), (by omega), (by omega), (by (first | (simp [go_sem]; done) | ((with_reducible refine World.cell?_setCell_same' _ _ _ ?_); (simp [go_sem]; done)) | (simp [go_sem]; (with_reducible refine World.cell?_setCell_same' _ _ _ ?_); (simp [go_sem]; done)))), (by (first | (simp [go_sem]; done) | ((with_reducible refine World.cell?_setCell_same' _ _ _ ?_); (simp [go_sem]; done)) | (simp [go_sem]; (with_reducible refine World.cell?_setCell_same' _ _ _ ?_); (simp [go_sem]; done)))), (by (first | (simp [go_sem]; done) | ((with_reducible refine World.cell?_setCell_same' _ _ _ ?_); (simp [go_sem]; done)) | (simp [go_sem]; (with_reducible refine World.cell?_setCell_same' _ _ _ ?_); (simp [go_sem]; done)))), (by (first | (simp [go_sem]; done) | ((with_reducible refine World.cell?_setCell_same' _ _ _ ?_); (simp [go_sem]; done)) | (simp [go_sem]; (with_reducible refine World.cell?_setCell_same' _ _ _ ?_); (simp [go_sem]; done))))⟩
  case rest =>
    rename World => w2
    obtain ⟨b1, b2, rfl, rfl, hB1, g1, g2, d0, d1, d2, d3⟩ := hcut
    have p3 := keepCell hB1 K3.out (show w.heap.size < w1.heap.size by omega)
    have p4 := keepCell hB1 K4.out (show w.heap.size < w1.heap.size by omega)
    have hz1 := hB1.size
    have H1 := Aside0.mk hB1
    have D0 := Aside0.mk d0
    have D1 := Aside0.mk d1
    have D2 := Aside0.mk d2
    have D3 := Aside0.mk d3
    clear hB1 k2 k5 d0 d1 d2 d3
    go_upto_region 7 with (fail)
    go_cut [17, 18] (fun p1 p2 wc => ∃ b1 b2 : Nat, p1 = .pointer (some ⟨b1, 0, none⟩) ∧ p2 = .pointer (some ⟨b2, 0, none⟩) ∧ TwoParts w2 b1 b2 a0_3 true s so wc)
    case first =>
      go_region_held3 (fun w' => Below w2.heap.size w2 w' ∧ w'.cell? ⟨w.heap.size, 3, none⟩ = some (.int .i64 a0_3) ∧ w'.cell? ⟨w.heap.size, 4, none⟩ = some (.int .i64 a0_4)) (with_reducible ((refine keepTwo p3 p4 ?_); (with_reducible (repeat (first | exact Below.refl _ _ | refine Below.drew ?_ | refine belowDN ?_ | refine allocB ?_ | refine setB ?_ ?_ | omega))))) (first | (go_at_call 29; ((with_reducible refine (part_still_t _ _ _).mono ?_); rintro e w' ⟨rfl, nd, c1, c2, rfl⟩)) | (go_at_call 31; ((with_reducible refine (part_less_t _ _ _ _ _ HS.out).mono ?_); rintro e w' ⟨rfl, nd, c1, c2, rfl⟩)))
      all_goals
        go_wp2
        go_meet
        case rel => exact ⟨_, _, rfl, rfl, (by (with_reducible (repeat (first | exact Below.refl _ _ | refine Below.drew ?_ | refine belowDN ?_ | refine allocB ?_ | refine setB ?_ ?_ | omega)))), (by omega), (by omega), (by (first | (simp [go_sem]; done) | ((with_reducible refine World.cell?_setCell_same' _ _ _ ?_); (simp [go_sem]; done)) | (simp [go_sem]; (with_reducible refine World.cell?_setCell_same' _ _ _ ?_); (simp [go_sem]; done)))), (by (first | (simp [go_sem]; done) | ((with_reducible refine World.cell?_setCell_same' _ _ _ ?_); (simp [go_sem]; done)) | (simp [go_sem]; (with_reducible refine World.cell?_setCell_same' _ _ _ ?_); (simp [go_sem]; done)))), (by (first | (simp [go_sem]; done) | ((with_reducible refine World.cell?_setCell_same' _ _ _ ?_); (simp [go_sem]; done)) | (simp [go_sem]; (with_reducible refine World.cell?_setCell_same' _ _ _ ?_); (simp [go_sem]; done)))), (by (first | (simp [go_sem]; done) | ((with_reducible refine World.cell?_setCell_same' _ _ _ ?_); (simp [go_sem]; done)) | (simp [go_sem]; (with_reducible refine World.cell?_setCell_same' _ _ _ ?_); (simp [go_sem]; done))))⟩
    case rest =>
      obtain ⟨b3, b4, rfl, rfl, hB3, g3, g4, d4, d5, d6, d7⟩ := hcut
      have hz3 := hB3.size
      have hB4 := H1.out.trans (hB3.mono hz1)
      have q0 := keepCell hB4 K0.out (show w.heap.size < w1.heap.size by omega)
      have r0 := keepCell hB4 M0.out (show w.heap.size + 1 < w1.heap.size by omega)
      have s0 := keepFrozen hB4 N0.out (show w.heap.size + 1 < w1.heap.size by omega)
      have q1 := keepCell hB4 K1.out (show w.heap.size < w1.heap.size by omega)
      have r1 := keepCell hB4 M1.out (show w.heap.size + 1 < w1.heap.size by omega)
      have s1 := keepFrozen hB4 N1.out (show w.heap.size + 1 < w1.heap.size by omega)
      have q2 := keepCell hB4 K2.out (show w.heap.size < w1.heap.size by omega)
      have r2 := keepCell hB4 M2.out (show w.heap.size + 1 < w1.heap.size by omega)
      have s2 := keepFrozen hB4 N2.out (show w.heap.size + 1 < w1.heap.size by omega)
      have q3 := keepCell hB4 K3.out (show w.heap.size < w1.heap.size by omega)
      have r3 := keepCell hB4 M3.out (show w.heap.size + 1 < w1.heap.size by omega)
      have s3 := keepFrozen hB4 N3.out (show w.heap.size + 1 < w1.heap.size by omega)
      have q4 := keepCell hB4 K4.out (show w.heap.size < w1.heap.size by omega)
      have r4 := keepCell hB4 M4.out (show w.heap.size + 1 < w1.heap.size by omega)
      have s4 := keepFrozen hB4 N4.out (show w.heap.size + 1 < w1.heap.size by omega)
      have q5 := keepCell hB4 K5.out (show w.heap.size < w1.heap.size by omega)
      have r5 := keepCell hB4 M5.out (show w.heap.size + 1 < w1.heap.size by omega)
      have s5 := keepFrozen hB4 N5.out (show w.heap.size + 1 < w1.heap.size by omega)
      have d0 := keepCell hB3 D0.out (World.block_lt_of_cell? _ _ D0.out)
      have d1 := keepCell hB3 D1.out (World.block_lt_of_cell? _ _ D1.out)
      have d2 := keepCell hB3 D2.out (World.block_lt_of_cell? _ _ D2.out)
      have d3 := keepCell hB3 D3.out (World.block_lt_of_cell? _ _ D3.out)
      have hz5 := World.block_lt_of_cell? _ _ d4
      have hz6 := World.block_lt_of_cell? _ _ d6
      have hz7 := World.block_lt_of_cell? _ _ d0
      have hz8 := World.block_lt_of_cell? _ _ d2
      have HB5 := Aside0.mk (HBW.out.trans (hB4.mono (show w.heap.size ≤ w1.heap.size by omega)))
      clear HBW hB3 hB4 H1 K0 M0 N0 K1 M1 N1 K2 M2 N2 K3 M3 N3 K4 M4 N4 K5 M5 N5
      have hz9 : w.heap.size + 1 < wc.heap.size := by omega
      have hz10 : w.heap.size < wc.heap.size := by omega
      have hr := HR.out
      clear hz1 hz3 g1 g2 g3 g4 HR HW
      cases vo
      · obtain ⟨rfl, rfl⟩ := Prod.mk.inj (hr.trans (if_neg (by simp)))
        go_wp2_with (fail)
        refine bodyPost_ret (v := .tuple #[.agg #[.int .i64 a0_0, .int .i64 a0_1, .int .i64 a0_2, .int .i64 a0_3, .int .i64 a0_4, .int .i64 a0_5], .int .i64 12]) (by simp [results, Try.results28, go_sem, r0, r1, r2, r3, r4, r5, hz9]) rfl ⟨rfl, ?_⟩
        (with_reducible repeat (first | refine bset1 ?_ | refine below_drewN' ?_ _ | refine allocB ?_))
        with_reducible exact HB5.out
      · skip
        cases so
        · obtain ⟨rfl, rfl⟩ := Prod.mk.inj (hr.trans (if_neg (by simp)))
          go_wp2_with (fail)
          refine bodyPost_ret (v := .tuple #[.agg #[.int .i64 a0_0, .int .i64 a0_1, .int .i64 a0_2, .int .i64 a0_3, .int .i64 a0_4, .int .i64 a0_5], .int .i64 12]) (by simp [results, Try.results28, go_sem, r0, r1, r2, r3, r4, r5, hz9]) rfl ⟨rfl, ?_⟩
          (with_reducible repeat (first | refine bset1 ?_ | refine below_drewN' ?_ _ | refine allocB ?_))
          with_reducible exact HB5.out
        · skip
          cases gd
          · obtain ⟨rfl, rfl⟩ := Prod.mk.inj (hr.trans (if_neg (by simp)))
            go_wp2_with (go_at_call 11; ((with_reducible refine (field_Good.calls _ _ _ _ _ _ _ _ HG.out).mono ?_); rintro e w5 ⟨rfl, hb⟩; have hb5 : Below wc.heap.size wc w5 := ((Below.refl _ _).alloc (Nat.le_refl _) _).trans (hb.mono (by simp)); have u0 := keepCell hb5 q0 hz10; have x0 := keepCell hb5 r0 hz9; have y0 := keepFrozen hb5 s0 hz9; have u1 := keepCell hb5 q1 hz10; have x1 := keepCell hb5 r1 hz9; have y1 := keepFrozen hb5 s1 hz9; have u2 := keepCell hb5 q2 hz10; have x2 := keepCell hb5 r2 hz9; have y2 := keepFrozen hb5 s2 hz9; have u3 := keepCell hb5 q3 hz10; have x3 := keepCell hb5 r3 hz9; have y3 := keepFrozen hb5 s3 hz9; have u4 := keepCell hb5 q4 hz10; have x4 := keepCell hb5 r4 hz9; have y4 := keepFrozen hb5 s4 hz9; have u5 := keepCell hb5 q5 hz10; have x5 := keepCell hb5 r5 hz9; have y5 := keepFrozen hb5 s5 hz9; have z0 : w5.cell? ⟨wc.heap.size, 0, none⟩ = some (.int .i64 a0_0) := (hb.cell (p := ⟨wc.heap.size, 0, none⟩) (by simp)).trans (World.cell?_alloc_at _ _ _ _ rfl); have z1 : w5.cell? ⟨wc.heap.size, 1, none⟩ = some (.int .i64 a0_1) := (hb.cell (p := ⟨wc.heap.size, 1, none⟩) (by simp)).trans (World.cell?_alloc_at _ _ _ _ rfl); have z2 : w5.cell? ⟨wc.heap.size, 2, none⟩ = some (.int .i64 a0_2) := (hb.cell (p := ⟨wc.heap.size, 2, none⟩) (by simp)).trans (World.cell?_alloc_at _ _ _ _ rfl); have z3 : w5.cell? ⟨wc.heap.size, 3, none⟩ = some (.int .i64 a0_3) := (hb.cell (p := ⟨wc.heap.size, 3, none⟩) (by simp)).trans (World.cell?_alloc_at _ _ _ _ rfl); have z4 : w5.cell? ⟨wc.heap.size, 4, none⟩ = some (.int .i64 s) := (hb.cell (p := ⟨wc.heap.size, 4, none⟩) (by simp)).trans (World.cell?_alloc_at _ _ _ _ rfl); have z5 : w5.cell? ⟨wc.heap.size, 5, none⟩ = some (.int .i64 v) := (hb.cell (p := ⟨wc.heap.size, 5, none⟩) (by simp)).trans (World.cell?_alloc_at _ _ _ _ rfl); have HB6 := Aside0.mk (HB5.out.trans (hb5.mono (Nat.le_of_lt hz10))); clear hb hb5))
            refine bodyPost_ret (v := .tuple #[.agg #[.int .i64 a0_0, .int .i64 a0_1, .int .i64 a0_2, .int .i64 a0_3, .int .i64 a0_4, .int .i64 a0_5], .int .i64 12]) (by simp [results, Try.results28, go_sem, x0, x1, x2, x3, x4, x5]) rfl ⟨rfl, ?_⟩
            (with_reducible repeat (first | refine bset1 ?_ | refine below_drewN' ?_ _ | refine allocB ?_))
            with_reducible exact HB6.out
          · obtain ⟨rfl, rfl⟩ := Prod.mk.inj (hr.trans (if_pos (by simp)))
            go_wp2_with (go_at_call 11; ((with_reducible refine (field_Good.calls _ _ _ _ _ _ _ _ HG.out).mono ?_); rintro e w5 ⟨rfl, hb⟩; have hb5 : Below wc.heap.size wc w5 := ((Below.refl _ _).alloc (Nat.le_refl _) _).trans (hb.mono (by simp)); have u0 := keepCell hb5 q0 hz10; have x0 := keepCell hb5 r0 hz9; have y0 := keepFrozen hb5 s0 hz9; have u1 := keepCell hb5 q1 hz10; have x1 := keepCell hb5 r1 hz9; have y1 := keepFrozen hb5 s1 hz9; have u2 := keepCell hb5 q2 hz10; have x2 := keepCell hb5 r2 hz9; have y2 := keepFrozen hb5 s2 hz9; have u3 := keepCell hb5 q3 hz10; have x3 := keepCell hb5 r3 hz9; have y3 := keepFrozen hb5 s3 hz9; have u4 := keepCell hb5 q4 hz10; have x4 := keepCell hb5 r4 hz9; have y4 := keepFrozen hb5 s4 hz9; have u5 := keepCell hb5 q5 hz10; have x5 := keepCell hb5 r5 hz9; have y5 := keepFrozen hb5 s5 hz9; have z0 : w5.cell? ⟨wc.heap.size, 0, none⟩ = some (.int .i64 a0_0) := (hb.cell (p := ⟨wc.heap.size, 0, none⟩) (by simp)).trans (World.cell?_alloc_at _ _ _ _ rfl); have z1 : w5.cell? ⟨wc.heap.size, 1, none⟩ = some (.int .i64 a0_1) := (hb.cell (p := ⟨wc.heap.size, 1, none⟩) (by simp)).trans (World.cell?_alloc_at _ _ _ _ rfl); have z2 : w5.cell? ⟨wc.heap.size, 2, none⟩ = some (.int .i64 a0_2) := (hb.cell (p := ⟨wc.heap.size, 2, none⟩) (by simp)).trans (World.cell?_alloc_at _ _ _ _ rfl); have z3 : w5.cell? ⟨wc.heap.size, 3, none⟩ = some (.int .i64 a0_3) := (hb.cell (p := ⟨wc.heap.size, 3, none⟩) (by simp)).trans (World.cell?_alloc_at _ _ _ _ rfl); have z4 : w5.cell? ⟨wc.heap.size, 4, none⟩ = some (.int .i64 s) := (hb.cell (p := ⟨wc.heap.size, 4, none⟩) (by simp)).trans (World.cell?_alloc_at _ _ _ _ rfl); have z5 : w5.cell? ⟨wc.heap.size, 5, none⟩ = some (.int .i64 v) := (hb.cell (p := ⟨wc.heap.size, 5, none⟩) (by simp)).trans (World.cell?_alloc_at _ _ _ _ rfl); have HB6 := Aside0.mk (HB5.out.trans (hb5.mono (Nat.le_of_lt hz10))); clear hb hb5))
            refine bodyPost_ret (v := .tuple #[.agg #[.int .i64 a0_0, .int .i64 a0_1, .int .i64 a0_2, .int .i64 a0_3, .int .i64 s, .int .i64 v], .int .i64 0]) (by simp [results, Try.results28, go_sem, x0, x1, x2, x3, x4, x5]) rfl ⟨rfl, ?_⟩
            (with_reducible repeat (first | refine bset1 ?_ | refine below_drewN' ?_ _ | refine allocB ?_))
            with_reducible exact HB6.out
set_option maxHeartbeats 16000000 in
set_option maxRecDepth 100000 in
theorem move_undo_neg (a0_0 : Int) (a0_1 : Int) (a0_2 : Int) (a0_3 : Int) (a0_4 : Int) (a0_5 : Int) (a1 : Int) (v : Int) (vo : Bool) (i : Int) (io : Bool) (gd : Bool) (w : World) (hw : field_wrong.f a0_0 a0_1 a0_2 a0_3 a0_4 a0_5 a1 = some 0) (hd : decide (a1 < 0) = true) (hv : calc_Sub.f a0_5 a1 = some (v, vo)) (hi : calc_Sub.f a0_3 a1 = some (i, io)) (hg : field_Good.f a0_0 a0_1 a0_2 i a0_4 v = some gd) (r : Array Value) (c : Int) (hr : (r, c) = if vo = true ∧ io = true ∧ gd = true then (#[.int .i64 a0_0, .int .i64 a0_1, .int .i64 a0_2, .int .i64 i, .int .i64 a0_4, .int .i64 v], 0) else (#[.int .i64 a0_0, .int .i64 a0_1, .int .i64 a0_2, .int .i64 a0_3, .int .i64 a0_4, .int .i64 a0_5], 12)) :
    Calls Try.prog 28 #[.agg #[.int .i64 a0_0, .int .i64 a0_1, .int .i64 a0_2, .int .i64 a0_3, .int .i64 a0_4, .int .i64 a0_5], .int .i64 a1, .func (.func 31) #[] #[], .func (.func 29) #[] #[], .func (.func 29) #[] #[], .func (.func 31) #[] #[]] w fun e w' => e = .returned (.tuple #[.agg r, .int .i64 c]) ∧ Below w.heap.size w w' := by
  have HW := Aside0.mk hw
  have HV := Aside0.mk hv
  have HI := Aside0.mk hi
  have HG := Aside0.mk hg
  have HR := Aside0.mk hr
  clear hw hg hr hv hi
  go_enter Try.func28, Try.ntmps28
  go_wp2_with (go_at_call 26; ((with_reducible refine (field_wrong.calls _ _ _ _ _ _ _ _ _ HW.out).mono ?_); rintro e w1 ⟨rfl, hb⟩; obtain ⟨hc, hf⟩ := bcell hb; have hz : w.heap.size + 1 < w1.heap.size := (by have := hb.size; simp at this; omega)))
  have k0 : w1.cell? ⟨w.heap.size, 0, none⟩ = some (.int .i64 a0_0) := by simp [hc, go_sem]
  have k1 : w1.cell? ⟨w.heap.size, 1, none⟩ = some (.int .i64 a0_1) := by simp [hc, go_sem]
  have k2 : w1.cell? ⟨w.heap.size, 2, none⟩ = some (.int .i64 a0_2) := by simp [hc, go_sem]
  have k3 : w1.cell? ⟨w.heap.size, 3, none⟩ = some (.int .i64 a0_3) := by simp [hc, go_sem]
  have k4 : w1.cell? ⟨w.heap.size, 4, none⟩ = some (.int .i64 a0_4) := by simp [hc, go_sem]
  have k5 : w1.cell? ⟨w.heap.size, 5, none⟩ = some (.int .i64 a0_5) := by simp [hc, go_sem]
  have m0 : w1.cell? ⟨w.heap.size + 1, 0, none⟩ = some (.int .i64 0) := by simp [hc, go_sem]
  have n0 : w1.frozen? ⟨w.heap.size + 1, 0, none⟩ = false := by simp [hf, go_sem]
  have m1 : w1.cell? ⟨w.heap.size + 1, 1, none⟩ = some (.int .i64 0) := by simp [hc, go_sem]
  have n1 : w1.frozen? ⟨w.heap.size + 1, 1, none⟩ = false := by simp [hf, go_sem]
  have m2 : w1.cell? ⟨w.heap.size + 1, 2, none⟩ = some (.int .i64 0) := by simp [hc, go_sem]
  have n2 : w1.frozen? ⟨w.heap.size + 1, 2, none⟩ = false := by simp [hf, go_sem]
  have m3 : w1.cell? ⟨w.heap.size + 1, 3, none⟩ = some (.int .i64 0) := by simp [hc, go_sem]
  have n3 : w1.frozen? ⟨w.heap.size + 1, 3, none⟩ = false := by simp [hf, go_sem]
  have m4 : w1.cell? ⟨w.heap.size + 1, 4, none⟩ = some (.int .i64 0) := by simp [hc, go_sem]
  have n4 : w1.frozen? ⟨w.heap.size + 1, 4, none⟩ = false := by simp [hf, go_sem]
  have m5 : w1.cell? ⟨w.heap.size + 1, 5, none⟩ = some (.int .i64 0) := by simp [hc, go_sem]
  have n5 : w1.frozen? ⟨w.heap.size + 1, 5, none⟩ = false := by simp [hf, go_sem]
  have K0 := Aside0.mk k0
  have M0 := Aside0.mk m0
  have N0 := Aside0.mk n0
  have K1 := Aside0.mk k1
  have M1 := Aside0.mk m1
  have N1 := Aside0.mk n1
  have K2 := Aside0.mk k2
  have M2 := Aside0.mk m2
  have N2 := Aside0.mk n2
  have K3 := Aside0.mk k3
  have M3 := Aside0.mk m3
  have N3 := Aside0.mk n3
  have K4 := Aside0.mk k4
  have M4 := Aside0.mk m4
  have N4 := Aside0.mk n4
  have K5 := Aside0.mk k5
  have M5 := Aside0.mk m5
  have N5 := Aside0.mk n5
  clear k0 k1 k3 k4 m0 m1 m2 m3 m4 m5 n0 n1 n2 n3 n4 n5
  have hbw : Below w.heap.size w w1 := ((Below.refl _ _).alloc (Nat.le_refl _) _ |>.alloc (by simp) _).trans (hb.mono (by simp; omega))
  have HBW := Aside0.mk hbw
  clear hb hbw hc hf
  go_cut [15, 16] (fun p1 p2 wc => ∃ b1 b2 : Nat, p1 = .pointer (some ⟨b1, 0, none⟩) ∧ p2 = .pointer (some ⟨b2, 0, none⟩) ∧ TwoParts w1 b1 b2 v vo a0_2 true wc)
  case first =>
    go_region_held3 (fun w' => Below w1.heap.size w1 w' ∧ w'.cell? ⟨w.heap.size, 5, none⟩ = some (.int .i64 a0_5) ∧ w'.cell? ⟨w.heap.size, 2, none⟩ = some (.int .i64 a0_2)) (with_reducible ((refine keepTwo k5 k2 ?_); (with_reducible (repeat (first | exact Below.refl _ _ | refine Below.drew ?_ | refine belowDN ?_ | refine allocB ?_ | refine setB ?_ ?_ | omega))))) (first | (go_at_call 31; ((with_reducible refine (part_less_t _ _ _ _ _ HV.out).mono ?_); rintro e w' ⟨rfl, nd, c1, c2, rfl⟩)) | (go_at_call 29; ((with_reducible refine (part_still_t _ _ _).mono ?_); rintro e w' ⟨rfl, nd, c1, c2, rfl⟩)))
    all_goals
      go_wp2
      go_meet
      case rel => exact ⟨_, _, rfl, rfl, (by (with_reducible (repeat (first | exact Below.refl _ _ | refine Below.drew ?_ | refine belowDN ?_ | refine allocB ?_ | refine setB ?_ ?_ | omega)))), (by omega), (by omega), (by (first | (simp [go_sem]; done) | ((with_reducible refine World.cell?_setCell_same' _ _ _ ?_); (simp [go_sem]; done)) | (simp [go_sem]; (with_reducible refine World.cell?_setCell_same' _ _ _ ?_); (simp [go_sem]; done)))), (by (first | (simp [go_sem]; done) | ((with_reducible refine World.cell?_setCell_same' _ _ _ ?_); (simp [go_sem]; done)) | (simp [go_sem]; (with_reducible refine World.cell?_setCell_same' _ _ _ ?_); (simp [go_sem]; done)))), (by (first | (simp [go_sem]; done) | ((with_reducible refine World.cell?_setCell_same' _ _ _ ?_); (simp [go_sem]; done)) | (simp [go_sem]; (with_reducible refine World.cell?_setCell_same' _ _ _ ?_); (simp [go_sem]; done)))), (by (first | (simp [go_sem]; done) | ((with_reducible refine World.cell?_setCell_same' _ _ _ ?_); (simp [go_sem]; done)) | (simp [go_sem]; (with_reducible refine World.cell?_setCell_same' _ _ _ ?_); (simp [go_sem]; done))))⟩
  case rest =>
    rename World => w2
    obtain ⟨b1, b2, rfl, rfl, hB1, g1, g2, d0, d1, d2, d3⟩ := hcut
    have p3 := keepCell hB1 K3.out (show w.heap.size < w1.heap.size by omega)
    have p4 := keepCell hB1 K4.out (show w.heap.size < w1.heap.size by omega)
    have hz1 := hB1.size
    have H1 := Aside0.mk hB1
    have D0 := Aside0.mk d0
    have D1 := Aside0.mk d1
    have D2 := Aside0.mk d2
    have D3 := Aside0.mk d3
    clear hB1 k2 k5 d0 d1 d2 d3
    go_upto_region 7 with (fail)
    go_cut [17, 18] (fun p1 p2 wc => ∃ b1 b2 : Nat, p1 = .pointer (some ⟨b1, 0, none⟩) ∧ p2 = .pointer (some ⟨b2, 0, none⟩) ∧ TwoParts w2 b1 b2 i io a0_4 true wc)
    case first =>
      go_region_held3 (fun w' => Below w2.heap.size w2 w' ∧ w'.cell? ⟨w.heap.size, 3, none⟩ = some (.int .i64 a0_3) ∧ w'.cell? ⟨w.heap.size, 4, none⟩ = some (.int .i64 a0_4)) (with_reducible ((refine keepTwo p3 p4 ?_); (with_reducible (repeat (first | exact Below.refl _ _ | refine Below.drew ?_ | refine belowDN ?_ | refine allocB ?_ | refine setB ?_ ?_ | omega))))) (first | (go_at_call 31; ((with_reducible refine (part_less_t _ _ _ _ _ HI.out).mono ?_); rintro e w' ⟨rfl, nd, c1, c2, rfl⟩)) | (go_at_call 29; ((with_reducible refine (part_still_t _ _ _).mono ?_); rintro e w' ⟨rfl, nd, c1, c2, rfl⟩)))
      all_goals
        go_wp2
        go_meet
        case rel => exact ⟨_, _, rfl, rfl, (by (with_reducible (repeat (first | exact Below.refl _ _ | refine Below.drew ?_ | refine belowDN ?_ | refine allocB ?_ | refine setB ?_ ?_ | omega)))), (by omega), (by omega), (by (first | (simp [go_sem]; done) | ((with_reducible refine World.cell?_setCell_same' _ _ _ ?_); (simp [go_sem]; done)) | (simp [go_sem]; (with_reducible refine World.cell?_setCell_same' _ _ _ ?_); (simp [go_sem]; done)))), (by (first | (simp [go_sem]; done) | ((with_reducible refine World.cell?_setCell_same' _ _ _ ?_); (simp [go_sem]; done)) | (simp [go_sem]; (with_reducible refine World.cell?_setCell_same' _ _ _ ?_); (simp [go_sem]; done)))), (by (first | (simp [go_sem]; done) | ((with_reducible refine World.cell?_setCell_same' _ _ _ ?_); (simp [go_sem]; done)) | (simp [go_sem]; (with_reducible refine World.cell?_setCell_same' _ _ _ ?_); (simp [go_sem]; done)))), (by (first | (simp [go_sem]; done) | ((with_reducible refine World.cell?_setCell_same' _ _ _ ?_); (simp [go_sem]; done)) | (simp [go_sem]; (with_reducible refine World.cell?_setCell_same' _ _ _ ?_); (simp [go_sem]; done))))⟩
    case rest =>
      obtain ⟨b3, b4, rfl, rfl, hB3, g3, g4, d4, d5, d6, d7⟩ := hcut
      have hz3 := hB3.size
      have hB4 := H1.out.trans (hB3.mono hz1)
      have q0 := keepCell hB4 K0.out (show w.heap.size < w1.heap.size by omega)
      have r0 := keepCell hB4 M0.out (show w.heap.size + 1 < w1.heap.size by omega)
      have s0 := keepFrozen hB4 N0.out (show w.heap.size + 1 < w1.heap.size by omega)
      have q1 := keepCell hB4 K1.out (show w.heap.size < w1.heap.size by omega)
      have r1 := keepCell hB4 M1.out (show w.heap.size + 1 < w1.heap.size by omega)
      have s1 := keepFrozen hB4 N1.out (show w.heap.size + 1 < w1.heap.size by omega)
      have q2 := keepCell hB4 K2.out (show w.heap.size < w1.heap.size by omega)
      have r2 := keepCell hB4 M2.out (show w.heap.size + 1 < w1.heap.size by omega)
      have s2 := keepFrozen hB4 N2.out (show w.heap.size + 1 < w1.heap.size by omega)
      have q3 := keepCell hB4 K3.out (show w.heap.size < w1.heap.size by omega)
      have r3 := keepCell hB4 M3.out (show w.heap.size + 1 < w1.heap.size by omega)
      have s3 := keepFrozen hB4 N3.out (show w.heap.size + 1 < w1.heap.size by omega)
      have q4 := keepCell hB4 K4.out (show w.heap.size < w1.heap.size by omega)
      have r4 := keepCell hB4 M4.out (show w.heap.size + 1 < w1.heap.size by omega)
      have s4 := keepFrozen hB4 N4.out (show w.heap.size + 1 < w1.heap.size by omega)
      have q5 := keepCell hB4 K5.out (show w.heap.size < w1.heap.size by omega)
      have r5 := keepCell hB4 M5.out (show w.heap.size + 1 < w1.heap.size by omega)
      have s5 := keepFrozen hB4 N5.out (show w.heap.size + 1 < w1.heap.size by omega)
      have d0 := keepCell hB3 D0.out (World.block_lt_of_cell? _ _ D0.out)
      have d1 := keepCell hB3 D1.out (World.block_lt_of_cell? _ _ D1.out)
      have d2 := keepCell hB3 D2.out (World.block_lt_of_cell? _ _ D2.out)
      have d3 := keepCell hB3 D3.out (World.block_lt_of_cell? _ _ D3.out)
      have hz5 := World.block_lt_of_cell? _ _ d4
      have hz6 := World.block_lt_of_cell? _ _ d6
      have hz7 := World.block_lt_of_cell? _ _ d0
      have hz8 := World.block_lt_of_cell? _ _ d2
      have HB5 := Aside0.mk (HBW.out.trans (hB4.mono (show w.heap.size ≤ w1.heap.size by omega)))
      clear HBW hB3 hB4 H1 K0 M0 N0 K1 M1 N1 K2 M2 N2 K3 M3 N3 K4 M4 N4 K5 M5 N5
      have hz9 : w.heap.size + 1 < wc.heap.size := by omega
      have hz10 : w.heap.size < wc.heap.size := by omega
      have hr := HR.out
      clear hz1 hz3 g1 g2 g3 g4 HR HW
      cases vo
      · obtain ⟨rfl, rfl⟩ := Prod.mk.inj (hr.trans (if_neg (by simp)))
        go_wp2_with (fail)
        refine bodyPost_ret (v := .tuple #[.agg #[.int .i64 a0_0, .int .i64 a0_1, .int .i64 a0_2, .int .i64 a0_3, .int .i64 a0_4, .int .i64 a0_5], .int .i64 12]) (by simp [results, Try.results28, go_sem, r0, r1, r2, r3, r4, r5, hz9]) rfl ⟨rfl, ?_⟩
        (with_reducible repeat (first | refine bset1 ?_ | refine below_drewN' ?_ _ | refine allocB ?_))
        with_reducible exact HB5.out
      · skip
        cases io
        · obtain ⟨rfl, rfl⟩ := Prod.mk.inj (hr.trans (if_neg (by simp)))
          go_wp2_with (fail)
          refine bodyPost_ret (v := .tuple #[.agg #[.int .i64 a0_0, .int .i64 a0_1, .int .i64 a0_2, .int .i64 a0_3, .int .i64 a0_4, .int .i64 a0_5], .int .i64 12]) (by simp [results, Try.results28, go_sem, r0, r1, r2, r3, r4, r5, hz9]) rfl ⟨rfl, ?_⟩
          (with_reducible repeat (first | refine bset1 ?_ | refine below_drewN' ?_ _ | refine allocB ?_))
          with_reducible exact HB5.out
        · skip
          cases gd
          · obtain ⟨rfl, rfl⟩ := Prod.mk.inj (hr.trans (if_neg (by simp)))
            go_wp2_with (go_at_call 11; ((with_reducible refine (field_Good.calls _ _ _ _ _ _ _ _ HG.out).mono ?_); rintro e w5 ⟨rfl, hb⟩; have hb5 : Below wc.heap.size wc w5 := ((Below.refl _ _).alloc (Nat.le_refl _) _).trans (hb.mono (by simp)); have u0 := keepCell hb5 q0 hz10; have x0 := keepCell hb5 r0 hz9; have y0 := keepFrozen hb5 s0 hz9; have u1 := keepCell hb5 q1 hz10; have x1 := keepCell hb5 r1 hz9; have y1 := keepFrozen hb5 s1 hz9; have u2 := keepCell hb5 q2 hz10; have x2 := keepCell hb5 r2 hz9; have y2 := keepFrozen hb5 s2 hz9; have u3 := keepCell hb5 q3 hz10; have x3 := keepCell hb5 r3 hz9; have y3 := keepFrozen hb5 s3 hz9; have u4 := keepCell hb5 q4 hz10; have x4 := keepCell hb5 r4 hz9; have y4 := keepFrozen hb5 s4 hz9; have u5 := keepCell hb5 q5 hz10; have x5 := keepCell hb5 r5 hz9; have y5 := keepFrozen hb5 s5 hz9; have z0 : w5.cell? ⟨wc.heap.size, 0, none⟩ = some (.int .i64 a0_0) := (hb.cell (p := ⟨wc.heap.size, 0, none⟩) (by simp)).trans (World.cell?_alloc_at _ _ _ _ rfl); have z1 : w5.cell? ⟨wc.heap.size, 1, none⟩ = some (.int .i64 a0_1) := (hb.cell (p := ⟨wc.heap.size, 1, none⟩) (by simp)).trans (World.cell?_alloc_at _ _ _ _ rfl); have z2 : w5.cell? ⟨wc.heap.size, 2, none⟩ = some (.int .i64 a0_2) := (hb.cell (p := ⟨wc.heap.size, 2, none⟩) (by simp)).trans (World.cell?_alloc_at _ _ _ _ rfl); have z3 : w5.cell? ⟨wc.heap.size, 3, none⟩ = some (.int .i64 i) := (hb.cell (p := ⟨wc.heap.size, 3, none⟩) (by simp)).trans (World.cell?_alloc_at _ _ _ _ rfl); have z4 : w5.cell? ⟨wc.heap.size, 4, none⟩ = some (.int .i64 a0_4) := (hb.cell (p := ⟨wc.heap.size, 4, none⟩) (by simp)).trans (World.cell?_alloc_at _ _ _ _ rfl); have z5 : w5.cell? ⟨wc.heap.size, 5, none⟩ = some (.int .i64 v) := (hb.cell (p := ⟨wc.heap.size, 5, none⟩) (by simp)).trans (World.cell?_alloc_at _ _ _ _ rfl); have HB6 := Aside0.mk (HB5.out.trans (hb5.mono (Nat.le_of_lt hz10))); clear hb hb5))
            refine bodyPost_ret (v := .tuple #[.agg #[.int .i64 a0_0, .int .i64 a0_1, .int .i64 a0_2, .int .i64 a0_3, .int .i64 a0_4, .int .i64 a0_5], .int .i64 12]) (by simp [results, Try.results28, go_sem, x0, x1, x2, x3, x4, x5]) rfl ⟨rfl, ?_⟩
            (with_reducible repeat (first | refine bset1 ?_ | refine below_drewN' ?_ _ | refine allocB ?_))
            with_reducible exact HB6.out
          · obtain ⟨rfl, rfl⟩ := Prod.mk.inj (hr.trans (if_pos (by simp)))
            go_wp2_with (go_at_call 11; ((with_reducible refine (field_Good.calls _ _ _ _ _ _ _ _ HG.out).mono ?_); rintro e w5 ⟨rfl, hb⟩; have hb5 : Below wc.heap.size wc w5 := ((Below.refl _ _).alloc (Nat.le_refl _) _).trans (hb.mono (by simp)); have u0 := keepCell hb5 q0 hz10; have x0 := keepCell hb5 r0 hz9; have y0 := keepFrozen hb5 s0 hz9; have u1 := keepCell hb5 q1 hz10; have x1 := keepCell hb5 r1 hz9; have y1 := keepFrozen hb5 s1 hz9; have u2 := keepCell hb5 q2 hz10; have x2 := keepCell hb5 r2 hz9; have y2 := keepFrozen hb5 s2 hz9; have u3 := keepCell hb5 q3 hz10; have x3 := keepCell hb5 r3 hz9; have y3 := keepFrozen hb5 s3 hz9; have u4 := keepCell hb5 q4 hz10; have x4 := keepCell hb5 r4 hz9; have y4 := keepFrozen hb5 s4 hz9; have u5 := keepCell hb5 q5 hz10; have x5 := keepCell hb5 r5 hz9; have y5 := keepFrozen hb5 s5 hz9; have z0 : w5.cell? ⟨wc.heap.size, 0, none⟩ = some (.int .i64 a0_0) := (hb.cell (p := ⟨wc.heap.size, 0, none⟩) (by simp)).trans (World.cell?_alloc_at _ _ _ _ rfl); have z1 : w5.cell? ⟨wc.heap.size, 1, none⟩ = some (.int .i64 a0_1) := (hb.cell (p := ⟨wc.heap.size, 1, none⟩) (by simp)).trans (World.cell?_alloc_at _ _ _ _ rfl); have z2 : w5.cell? ⟨wc.heap.size, 2, none⟩ = some (.int .i64 a0_2) := (hb.cell (p := ⟨wc.heap.size, 2, none⟩) (by simp)).trans (World.cell?_alloc_at _ _ _ _ rfl); have z3 : w5.cell? ⟨wc.heap.size, 3, none⟩ = some (.int .i64 i) := (hb.cell (p := ⟨wc.heap.size, 3, none⟩) (by simp)).trans (World.cell?_alloc_at _ _ _ _ rfl); have z4 : w5.cell? ⟨wc.heap.size, 4, none⟩ = some (.int .i64 a0_4) := (hb.cell (p := ⟨wc.heap.size, 4, none⟩) (by simp)).trans (World.cell?_alloc_at _ _ _ _ rfl); have z5 : w5.cell? ⟨wc.heap.size, 5, none⟩ = some (.int .i64 v) := (hb.cell (p := ⟨wc.heap.size, 5, none⟩) (by simp)).trans (World.cell?_alloc_at _ _ _ _ rfl); have HB6 := Aside0.mk (HB5.out.trans (hb5.mono (Nat.le_of_lt hz10))); clear hb hb5))
            refine bodyPost_ret (v := .tuple #[.agg #[.int .i64 a0_0, .int .i64 a0_1, .int .i64 a0_2, .int .i64 i, .int .i64 a0_4, .int .i64 v], .int .i64 0]) (by simp [results, Try.results28, go_sem, x0, x1, x2, x3, x4, x5]) rfl ⟨rfl, ?_⟩
            (with_reducible repeat (first | refine bset1 ?_ | refine below_drewN' ?_ _ | refine allocB ?_))
            with_reducible exact HB6.out
set_option maxHeartbeats 2000000 in
set_option maxRecDepth 100000 in
theorem field_Undo.run (a0_0 : Int) (a0_1 : Int) (a0_2 : Int) (a0_3 : Int) (a0_4 : Int) (a0_5 : Int) (a1 : Int) (x0 x1 x2 x3 x4 x5 c : Int) (w : World) (hm : ∀ w : World, Calls Try.prog 28 #[.agg #[.int .i64 a0_0, .int .i64 a0_1, .int .i64 a0_2, .int .i64 a0_3, .int .i64 a0_4, .int .i64 a0_5], .int .i64 a1, .func (.func 31) #[] #[], .func (.func 29) #[] #[], .func (.func 29) #[] #[], .func (.func 31) #[] #[]] w fun e w' => e = .returned (.tuple #[.agg #[.int .i64 x0, .int .i64 x1, .int .i64 x2, .int .i64 x3, .int .i64 x4, .int .i64 x5], .int .i64 c]) ∧ Below w.heap.size w w') :
    Calls Try.prog 16 #[.agg #[.int .i64 a0_0, .int .i64 a0_1, .int .i64 a0_2, .int .i64 a0_3, .int .i64 a0_4, .int .i64 a0_5], .int .i64 a1] w fun e w' => e = .returned (.tuple #[.agg #[.int .i64 x0, .int .i64 x1, .int .i64 x2, .int .i64 x3, .int .i64 x4, .int .i64 x5], .int .i64 c]) ∧ Below w.heap.size w w' := by
  have HM := Aside0.mk hm
  clear hm
  go_enter Try.func16, Try.ntmps16
  go_wp2_with (go_at_call 28; ((with_reducible refine (HM.out _).mono ?_); rintro e w1 ⟨rfl, hb⟩; obtain ⟨hc, hf⟩ := bcell hb))
  refine bodyPost_ret (v := .tuple #[.agg #[.int .i64 x0, .int .i64 x1, .int .i64 x2, .int .i64 x3, .int .i64 x4, .int .i64 x5], .int .i64 c]) (by simp [results, Try.results16, go_sem, hc]) rfl ⟨rfl, ?_⟩
  (with_reducible repeat (first | refine bset0 ?_ | refine bset1 ?_))
  exact ((Below.refl _ _).alloc (Nat.le_refl _) _ |>.alloc (by simp) _).trans (hb.mono (by simp; omega))
def field_Undo.f (a0_0 : Int) (a0_1 : Int) (a0_2 : Int) (a0_3 : Int) (a0_4 : Int) (a0_5 : Int) (a1 : Int) : Option (Int × Int × Int × Int × Int × Int × Int) :=
  if In64 a0_0 ∧ In64 a0_1 ∧ In64 a0_2 ∧ In64 a0_3 ∧ In64 a0_4 ∧ In64 a0_5 ∧ In64 a1 then some (moveP a0_0 a0_1 a0_2 a0_3 a0_4 a0_5 a1 (a0_5 - a1) (a0_2) (if a1 < 0 then a0_3 - a1 else a0_3) (if a1 < 0 then a0_4 else a0_4 - a1)) else none
theorem field_Undo.calls (a0_0 : Int) (a0_1 : Int) (a0_2 : Int) (a0_3 : Int) (a0_4 : Int) (a0_5 : Int) (a1 : Int) (r1 : Int) (r2 : Int) (r3 : Int) (r4 : Int) (r5 : Int) (r6 : Int) (r7 : Int) (w : World) (h : field_Undo.f a0_0 a0_1 a0_2 a0_3 a0_4 a0_5 a1 = some (r1, r2, r3, r4, r5, r6, r7)) :
    Calls Try.prog 16 #[.agg #[.int .i64 a0_0, .int .i64 a0_1, .int .i64 a0_2, .int .i64 a0_3, .int .i64 a0_4, .int .i64 a0_5], .int .i64 a1] w fun e w' => e = .returned (.tuple #[.agg #[.int .i64 r1, .int .i64 r2, .int .i64 r3, .int .i64 r4, .int .i64 r5, .int .i64 r6], .int .i64 r7]) ∧ Below w.heap.size w w' := by
  unfold field_Undo.f at h
  split at h
  case isFalse => simp at h
  case isTrue hh =>
  obtain ⟨i0, i1, i2, i3, i4, i5, i6⟩ := hh
  simp only [Option.some.injEq] at h
  have hw := field_wrong_eq a0_0 a0_1 a0_2 a0_3 a0_4 a0_5 a1
  refine field_Undo.run _ _ _ _ _ _ _ _ _ _ _ _ _ _ w (fun w => ?_)
  unfold moveP at h
  by_cases g : GoodP a0_0 a0_1 a0_2 a0_3 a0_4 a0_5
  · rw [if_neg (fun z => z g)] at h hw
    by_cases g1 : a1 = 0 ∨ a1 = -9223372036854775808
    · rw [if_pos g1] at h hw
      simp only [Prod.mk.injEq] at h
      obtain ⟨rfl, rfl, rfl, rfl, rfl, rfl, rfl⟩ := h
      exact move_wrong _ _ _ _ _ _ _ 1 _ _ _ _ w hw (by decide)
    · rw [if_neg g1] at h hw
      by_cases c : a1 < 0
      · have hd : decide (a1 < 0) = true := decide_eq_true c
        refine move_undo_neg a0_0 a0_1 a0_2 a0_3 a0_4 a0_5 a1 _ _ _ _ _ w hw hd ((sub_fit a0_5 a1 i5 i6).trans (congrArg some (fit_pair _))) ((sub_fit a0_3 a1 i3 i6).trans (congrArg some (fit_pair _))) (field_Good_eq a0_0 a0_1 a0_2 (fit (a0_3 - a1)).1 a0_4 (fit (a0_5 - a1)).1) _ _ ?_
        simp only [c, if_true] at h
        by_cases y : In64 (a0_5 - a1) ∧ In64 (a0_2) ∧ In64 (a0_3 - a1) ∧ In64 (a0_4) ∧ GoodP a0_0 a0_1 (a0_2) (a0_3 - a1) (a0_4) (a0_5 - a1)
        · rw [if_pos y] at h
          simp only [Prod.mk.injEq] at h
          obtain ⟨rfl, rfl, rfl, rfl, rfl, rfl, rfl⟩ := h
          rw [if_pos ⟨(fit_snd _).trans (decide_eq_true y.1), (fit_snd _).trans (decide_eq_true y.2.2.1), decide_eq_true (by rw [fit_fst y.1, fit_fst y.2.2.1]; exact y.2.2.2.2)⟩, fit_fst y.1, fit_fst y.2.2.1]
        · rw [if_neg y] at h
          simp only [Prod.mk.injEq] at h
          obtain ⟨rfl, rfl, rfl, rfl, rfl, rfl, rfl⟩ := h
          rw [if_neg]
          rintro ⟨z0, z1, z2⟩
          rw [fit_snd] at z0
          replace z0 := of_decide_eq_true z0
          rw [fit_snd] at z1
          replace z1 := of_decide_eq_true z1
          replace z2 := of_decide_eq_true z2
          rw [fit_fst z0, fit_fst z1] at z2
          exact y ⟨z0, i2, z1, i4, z2⟩
      · have hd : decide (a1 < 0) = false := decide_eq_false c
        refine move_undo_pos a0_0 a0_1 a0_2 a0_3 a0_4 a0_5 a1 _ _ _ _ _ w hw hd ((sub_fit a0_5 a1 i5 i6).trans (congrArg some (fit_pair _))) ((sub_fit a0_4 a1 i4 i6).trans (congrArg some (fit_pair _))) (field_Good_eq a0_0 a0_1 a0_2 a0_3 (fit (a0_4 - a1)).1 (fit (a0_5 - a1)).1) _ _ ?_
        simp only [c, if_false] at h
        by_cases y : In64 (a0_5 - a1) ∧ In64 (a0_2) ∧ In64 (a0_3) ∧ In64 (a0_4 - a1) ∧ GoodP a0_0 a0_1 (a0_2) (a0_3) (a0_4 - a1) (a0_5 - a1)
        · rw [if_pos y] at h
          simp only [Prod.mk.injEq] at h
          obtain ⟨rfl, rfl, rfl, rfl, rfl, rfl, rfl⟩ := h
          rw [if_pos ⟨(fit_snd _).trans (decide_eq_true y.1), (fit_snd _).trans (decide_eq_true y.2.2.2.1), decide_eq_true (by rw [fit_fst y.1, fit_fst y.2.2.2.1]; exact y.2.2.2.2)⟩, fit_fst y.1, fit_fst y.2.2.2.1]
        · rw [if_neg y] at h
          simp only [Prod.mk.injEq] at h
          obtain ⟨rfl, rfl, rfl, rfl, rfl, rfl, rfl⟩ := h
          rw [if_neg]
          rintro ⟨z0, z1, z2⟩
          rw [fit_snd] at z0
          replace z0 := of_decide_eq_true z0
          rw [fit_snd] at z1
          replace z1 := of_decide_eq_true z1
          replace z2 := of_decide_eq_true z2
          rw [fit_fst z0, fit_fst z1] at z2
          exact y ⟨z0, i2, i3, z1, z2⟩
  · rw [if_pos g] at h hw
    simp only [Prod.mk.injEq] at h
    obtain ⟨rfl, rfl, rfl, rfl, rfl, rfl, rfl⟩ := h
    exact move_wrong _ _ _ _ _ _ _ 12 _ _ _ _ w hw (by decide)


end Go.Proofs.Ytdpbfiifdphpcaa.G
