/- Several texts of this seat put together, each as it stands: Gx22, Gx23, Gx24, RefPlain, RefSpans, RefFrees, FundWorks. -/
import Derived.Test.YtnipjfciphgfjaaSays12
/- What functions of the program answer, for all inputs of which their Lean functions tell an answer; printed by a program of this session with the kit's printer, over contracts that this session proved by hand. -/
namespace Go.Proofs.Ytnipjfciphgfjaa.G
open Go.RowKit Go.Proofs.YtnipjfciphgfjaaW.PrintWords Go.Proofs.YtnipjfciphgfjaaW.PrintLast Go.Proofs.YtnipjfciphgfjaaW.PrintMore
attribute [local go_sem] max2_int min2_int max_two min_two max_three min_three max_four min_four   -- for this text's walks alone
set_option linter.unusedVariables false
set_option linter.unusedSimpArgs false

/-! ### pledgeref32_most: function 36 -/
def pledgeref32_most.f (a0 : Int) : Option (Int) := if a0 > 4 then (some 4) else (some a0)
set_option maxHeartbeats 8000000 in
set_option maxRecDepth 100000 in
theorem pledgeref32_most.calls (a0 : Int) (r : Int) (w : World) (h : pledgeref32_most.f a0 = some r) :
    Calls Try.prog 36 #[.int .i64 a0] w fun e w' => e = .returned (.int .i64 r) ∧ Drawn0 w w' := by
  have H : (if a0 > 4 then (some 4) else (some a0)) = some r := h
  clear h
  by_cases c2 : a0 > 4
  · rw [if_pos c2] at H
    have c2b0 : decide (4 < a0) = true := decide_eq_true c2
    clear c2
    obtain rfl := Option.some.inj H
    go_enter Try.func36, Try.ntmps36
    go_wp2
    go_ret
    exact ⟨by first | rfl | (simp; done) | (simp [*]; done), by repeat (first | exact Drawn0.refl _ | apply Drawn0.step)⟩
  · rw [if_neg c2] at H
    have c2b0 : decide (4 < a0) = false := decide_eq_false c2
    clear c2
    obtain rfl := Option.some.inj H
    go_enter Try.func36, Try.ntmps36
    go_wp2
    go_ret
    exact ⟨by first | rfl | (simp; done) | (simp [*]; done), by repeat (first | exact Drawn0.refl _ | apply Drawn0.step)⟩

-- NOT PRINTED: function 14 (pledgeref32_Spans)

/-! ### pledgeref01_Size: function 60 -/
def pledgeref01_Size.f (a0 : Int) : Option (Int) := if a0 < 0 then (some (IntKind.u64.wrap ((IntKind.u64.wrap (wrap64 (-(wrap64 (a0 + 1))))) + 1))) else (some (IntKind.u64.wrap (a0)))
set_option maxHeartbeats 8000000 in
set_option maxRecDepth 100000 in
theorem pledgeref01_Size.calls (a0 : Int) (r : Int) (w : World) (h : pledgeref01_Size.f a0 = some r) :
    Calls Try.prog 60 #[.int .i64 a0] w fun e w' => e = .returned (.int .u64 r) ∧ Drawn0 w w' := by
  have H : (if a0 < 0 then (some (IntKind.u64.wrap ((IntKind.u64.wrap (wrap64 (-(wrap64 (a0 + 1))))) + 1))) else (some (IntKind.u64.wrap (a0)))) = some r := h
  clear h
  by_cases c2 : a0 < 0
  · rw [if_pos c2] at H
    have c2b0 : decide (a0 < 0) = true := decide_eq_true c2
    clear c2
    obtain rfl := Option.some.inj H
    go_enter Try.func60, Try.ntmps60
    go_wp2
    go_ret
    exact ⟨by first | rfl | (simp; done) | (simp [*]; done), by repeat (first | exact Drawn0.refl _ | apply Drawn0.step)⟩
  · rw [if_neg c2] at H
    have c2b0 : decide (a0 < 0) = false := decide_eq_false c2
    clear c2
    obtain rfl := Option.some.inj H
    go_enter Try.func60, Try.ntmps60
    go_wp2
    go_ret
    exact ⟨by first | rfl | (simp; done) | (simp [*]; done), by repeat (first | exact Drawn0.refl _ | apply Drawn0.step)⟩

/-! ### pledgeref01_Dist: function 53 -/
def pledgeref01_Dist.f (a0 : Int) (a1 : Int) : Option (Int) := if a1 < a0 then (some 0) else (if a0 ≥ 0 then (some (IntKind.u64.wrap (wrap64 (a1 - a0)))) else (if a1 < 0 then (some (IntKind.u64.wrap (wrap64 (a1 - a0)))) else ((pledgeref01_Size.f a0).bind fun t243 => (some (IntKind.u64.wrap ((IntKind.u64.wrap (a1)) + t243))))))
set_option maxHeartbeats 8000000 in
set_option maxRecDepth 100000 in
theorem pledgeref01_Dist.calls (a0 : Int) (a1 : Int) (r : Int) (w : World) (h : pledgeref01_Dist.f a0 a1 = some r) :
    Calls Try.prog 53 #[.int .i64 a0, .int .i64 a1] w fun e w' => e = .returned (.int .u64 r) ∧ Drawn0 w w' := by
  have H : (if a1 < a0 then (some 0) else (if a0 ≥ 0 then (some (IntKind.u64.wrap (wrap64 (a1 - a0)))) else (if a1 < 0 then (some (IntKind.u64.wrap (wrap64 (a1 - a0)))) else ((pledgeref01_Size.f a0).bind fun t243 => (some (IntKind.u64.wrap ((IntKind.u64.wrap (a1)) + t243))))))) = some r := h
  clear h
  by_cases c3 : a1 < a0
  · rw [if_pos c3] at H
    have c3b0 : decide (a1 < a0) = true := decide_eq_true c3
    clear c3
    obtain rfl := Option.some.inj H
    go_enter Try.func53, Try.ntmps53
    go_wp2
    go_ret
    exact ⟨by first | rfl | (simp; done) | (simp [*]; done), by repeat (first | exact Drawn0.refl _ | apply Drawn0.step)⟩
  · rw [if_neg c3] at H
    have c3b0 : decide (a1 < a0) = false := decide_eq_false c3
    clear c3
    by_cases c4 : a0 ≥ 0
    · rw [if_pos c4] at H
      have c4b0 : decide (0 ≤ a0) = true := decide_eq_true c4
      clear c4
      obtain rfl := Option.some.inj H
      go_enter Try.func53, Try.ntmps53
      go_wp2
      go_ret
      exact ⟨by first | rfl | (simp; done) | (simp [*]; done), by repeat (first | exact Drawn0.refl _ | apply Drawn0.step)⟩
    · rw [if_neg c4] at H
      have c4b0 : decide (0 ≤ a0) = false := decide_eq_false c4
      clear c4
      by_cases c5 : a1 < 0
      · rw [if_pos c5] at H
        have c5b0 : decide (a1 < 0) = true := decide_eq_true c5
        clear c5
        obtain rfl := Option.some.inj H
        go_enter Try.func53, Try.ntmps53
        go_wp2
        go_ret
        exact ⟨by first | rfl | (simp; done) | (simp [*]; done), by repeat (first | exact Drawn0.refl _ | apply Drawn0.step)⟩
      · rw [if_neg c5] at H
        have c5b0 : decide (a1 < 0) = false := decide_eq_false c5
        clear c5
        replace H := Option.bind_eq_some_iff.mp H
        obtain ⟨t243, A60, H⟩ := H
        replace H : (some (IntKind.u64.wrap ((IntKind.u64.wrap (a1)) + t243))) = some r := H
        have A6 := Aside0.mk A60
        clear A60
        obtain rfl := Option.some.inj H
        go_enter Try.func53, Try.ntmps53
        go_wp2_with (first | ((with_reducible refine gate_callee (f := 60) rfl ?_); refine goesL_ (some 21) rfl rfl Try.func60 (by kernel_rfl) rfl #[.int .i64 a0] rfl (by (try simp only [List.map_toArray, List.map_cons, List.map_nil]); first | done | rfl | (simp only [List.length_drop, List.length_take]; rfl)) ?_; (with_reducible refine (pledgeref01_Size.calls a0 t243 _ A6.out).mono ?_); rintro e w' ⟨rfl, ⟨nd, rfl⟩⟩; refine ⟨_, rfl, ?_⟩))
        go_ret
        exact ⟨by first | rfl | (simp; done) | (simp [*]; done), by repeat (first | exact Drawn0.refl _ | apply Drawn0.step)⟩

end Go.Proofs.Ytnipjfciphgfjaa.G
/- What functions of the program answer, for all inputs of which their Lean functions tell an answer; printed by a program of this session with the kit's printer, over contracts that this session proved by hand. -/
namespace Go.Proofs.Ytnipjfciphgfjaa.G
open Go.RowKit Go.Proofs.YtnipjfciphgfjaaW.PrintWords Go.Proofs.YtnipjfciphgfjaaW.PrintLast Go.Proofs.YtnipjfciphgfjaaW.PrintMore
attribute [local go_sem] max2_int min2_int max_two min_two max_three min_three max_four min_four   -- for this text's walks alone
set_option linter.unusedVariables false
set_option linter.unusedSimpArgs false

/-! ### pledgeref32_capped: function 37 -/
def pledgeref32_capped.f (a0 : Int) (a1 : Int) : Option (Int) := (pledgeref01_Dist.f a0 a1).bind fun t244 => (if t244 > 9223372036854775807 then (some 9223372036854775807) else (some (wrap64 (t244))))
set_option maxHeartbeats 8000000 in
set_option maxRecDepth 100000 in
theorem pledgeref32_capped.calls (a0 : Int) (a1 : Int) (r : Int) (w : World) (h : pledgeref32_capped.f a0 a1 = some r) :
    Calls Try.prog 37 #[.int .i64 a0, .int .i64 a1] w fun e w' => e = .returned (.int .i64 r) ∧ Drawn0 w w' := by
  have H : ((pledgeref01_Dist.f a0 a1).bind fun t244 => (if t244 > 9223372036854775807 then (some 9223372036854775807) else (some (wrap64 (t244))))) = some r := h
  clear h
  replace H := Option.bind_eq_some_iff.mp H
  obtain ⟨t244, A30, H⟩ := H
  replace H : (if t244 > 9223372036854775807 then (some 9223372036854775807) else (some (wrap64 (t244)))) = some r := H
  have A3 := Aside0.mk A30
  clear A30
  by_cases c4 : t244 > 9223372036854775807
  · rw [if_pos c4] at H
    have c4b0 : decide (9223372036854775807 < t244) = true := decide_eq_true c4
    clear c4
    obtain rfl := Option.some.inj H
    go_enter Try.func37, Try.ntmps37
    go_wp2_with (first | ((with_reducible refine gate_callee (f := 53) rfl ?_); refine goesL_ (some 8) rfl rfl Try.func53 (by kernel_rfl) rfl #[.int .i64 a0, .int .i64 a1] rfl (by (try simp only [List.map_toArray, List.map_cons, List.map_nil]); first | done | rfl | (simp only [List.length_drop, List.length_take]; rfl)) ?_; (with_reducible refine (pledgeref01_Dist.calls a0 a1 t244 _ A3.out).mono ?_); rintro e w' ⟨rfl, ⟨nd, rfl⟩⟩; refine ⟨_, rfl, ?_⟩))
    go_ret
    exact ⟨by first | rfl | (simp; done) | (simp [*]; done), by repeat (first | exact Drawn0.refl _ | apply Drawn0.step)⟩
  · rw [if_neg c4] at H
    have c4b0 : decide (9223372036854775807 < t244) = false := decide_eq_false c4
    clear c4
    obtain rfl := Option.some.inj H
    go_enter Try.func37, Try.ntmps37
    go_wp2_with (first | ((with_reducible refine gate_callee (f := 53) rfl ?_); refine goesL_ (some 8) rfl rfl Try.func53 (by kernel_rfl) rfl #[.int .i64 a0, .int .i64 a1] rfl (by (try simp only [List.map_toArray, List.map_cons, List.map_nil]); first | done | rfl | (simp only [List.length_drop, List.length_take]; rfl)) ?_; (with_reducible refine (pledgeref01_Dist.calls a0 a1 t244 _ A3.out).mono ?_); rintro e w' ⟨rfl, ⟨nd, rfl⟩⟩; refine ⟨_, rfl, ?_⟩))
    go_ret
    exact ⟨by first | rfl | (simp; done) | (simp [*]; done), by repeat (first | exact Drawn0.refl _ | apply Drawn0.step)⟩

/-! ### pledgeref32_Free: function 15 -/
def pledgeref32_Free.f (k : Nat) (l0 : List (S81)) (a1_0 : Int) (a1_1 : Int) (a1_2 : Int) : Option (Int) := (pledgeref18_Get.f k l0 a1_0 a1_1 a1_2).bind fun bt246 => (if bt246.2.2.2.2.2.2 = true then ((pledgeref32_capped.f bt246.1 bt246.2.2.2.1).bind fun t254 => (some t254)) else (some 0))
theorem pledgeref32_Free.mono : ∀ a0 a1 a2 a3 k, LeO (pledgeref32_Free.f k a0 a1 a2 a3) (pledgeref32_Free.f (k + 1) a0 a1 a2 a3) := by
  intro a0 a1 a2 a3 k
  unfold pledgeref32_Free.f
  repeat' first
      | (with_reducible exact pledgeref18_Get.mono _ _ _ _ _)
      | (with_reducible exact LeO.refl _)
      | (with_reducible exact LeO.none _)
      | (with_reducible refine LeO.ite ?_ ?_)
      | (with_reducible refine LeO.bind ?_ (fun _ => ?_))
      | exact pledgeref18_Get.mono _ _ _ _ _
      | exact LeO.none _
      | refine LeO.ite ?_ ?_
      | refine LeO.bind ?_ (fun _ => ?_)
set_option maxHeartbeats 8000000 in
set_option maxRecDepth 100000 in
theorem pledgeref32_Free.calls (k : Nat) (A0 : Option Addr) (c0 : Nat) (l0 : List (S81)) (a1_0 : Int) (a1_1 : Int) (a1_2 : Int) (r : Int) (w : World) (hr0 : Kd.C k81 w A0 l0.length l0) (hc0 : l0.length ≤ c0) (h : pledgeref32_Free.f k l0 a1_0 a1_1 a1_2 = some r) :
    Calls Try.prog 15 #[.slice A0 l0.length c0, .agg #[.int .u8 a1_0, .int .u8 a1_1, .int .u8 a1_2]] w fun e w' => e = .returned (.int .i64 r) ∧ Below w.heap.size w w' := by
  have hu25 := Try.underlying25
  have hu64 := Try.underlying64
  have HR0 := Aside0.mk hr0
  have HC0 := Aside0.mk hc0
  clear hr0 hc0
  have HB := Aside0.mk (Below.refl w.heap.size w)
  have H : ((pledgeref18_Get.f k l0 a1_0 a1_1 a1_2).bind fun bt246 => (if bt246.2.2.2.2.2.2 = true then ((pledgeref32_capped.f bt246.1 bt246.2.2.2.1).bind fun t254 => (some t254)) else (some 0))) = some r := h
  clear h
  replace H := Option.bind_eq_some_iff.mp H
  obtain ⟨⟨t246, t247, t248, t249, t250, t251, t252⟩, A30, H⟩ := H
  replace H : (if t252 = true then ((pledgeref32_capped.f t246 t249).bind fun t254 => (some t254)) else (some 0)) = some r := H
  have A3 := Aside0.mk A30
  clear A30
  by_cases c4 : t252 = true
  · subst c4
    have H1 : ((pledgeref32_capped.f t246 t249).bind fun t254 => (some t254)) = some r := by rw [if_pos rfl] at H; exact H
    clear H
    have H := H1
    clear H1
    replace H := Option.bind_eq_some_iff.mp H
    obtain ⟨t254, A50, H⟩ := H
    replace H : (some t254) = some r := H
    have A5 := Aside0.mk A50
    clear A50
    obtain rfl := Option.some.inj H
    go_enter Try.func15, Try.ntmps15
    go_wp2_with (first | ((with_reducible refine gate_dst (N := 3) rfl ?_); refine box_event ?hg (N := 3) ?hd (cs := #[.int .u8 a1_0, .int .u8 a1_1, .int .u8 a1_2]) (t := 25) ?hr ?_; (case hd => rfl); (case hg => rfl); (case hr => first | (go_simp; done) | (go_simp; rfl)); intro gb245 hg w6 hbox hb; have n0_ := Aside0.mk (below_step (by repeat (first | (with_reducible first | exact HB.out | apply below_alloc | apply pw_below_drewN | apply below_drew1) | exact HB.out)) hb); have n1_ := Aside0.mk (hbox); have n2_ := Aside0.mk ((by rw [hg]; exact (below_size (by repeat (first | (with_reducible first | exact HB.out | apply below_alloc | apply pw_below_drewN | apply below_drew1) | exact HB.out))) : w.heap.size ≤ gb245)); have n3_ := Aside0.mk ((by rw [hg]; exact (below_size (by repeat (first | (with_reducible first | exact HB.out | apply below_alloc | apply pw_below_drewN | apply below_drew1) | exact HB.out))) : w.heap.size ≤ gb245)); clear HB; have HB := n0_; have BK245 := n1_; have GW245 := n2_; have GE245 := n3_; clear n0_ n1_ n2_ n3_; clear hb hbox hg; have hcz7_0 : w6.cell? ⟨gb245, 0, none⟩ = some (.int .u8 a1_0) := (blk_cell BK245.out 0).trans rfl; have hcz7_1 : w6.cell? ⟨gb245, 1, none⟩ = some (.int .u8 a1_1) := (blk_cell BK245.out 1).trans rfl; have hcz7_2 : w6.cell? ⟨gb245, 2, none⟩ = some (.int .u8 a1_2) := (blk_cell BK245.out 2).trans rfl; have hfz7_0 := blk_frozen BK245.out 0; have hfz7_1 := blk_frozen BK245.out 1; have hfz7_2 := blk_frozen BK245.out 2) | ((with_reducible refine gate_callee (f := 31) rfl ?_); refine goesL_ (some 10) rfl rfl Try.func31 (by kernel_rfl) rfl #[.slice A0 l0.length c0, .agg #[.int .u8 a1_0, .int .u8 a1_1, .int .u8 a1_2]] rfl (by (try simp only [List.map_toArray, List.map_cons, List.map_nil]); first | done | rfl | (simp only [List.length_drop, List.length_take]; rfl)) ?_; (with_reducible refine (pledgeref18_Get.calls k _ _ l0 a1_0 a1_1 a1_2 t246 t247 t248 t249 t250 t251 true _ ?side1 ?side2 A3.out).mono ?_); (case side1 => repeat (first | exact (Kd.C_below HR0.out HB.out) | (with_reducible refine Kd.C_alloc ?_ _) | (with_reducible refine Kd.C_drewN ?_ _) | (with_reducible refine Kd.C_drew ?_))); (case side2 => exact HC0.out); rintro e w8 ⟨rfl, hb⟩; refine ⟨_, rfl, ?_⟩; have n0_ := Aside0.mk (blk_below (g := gb245) (o := .cells #[.int .u8 a1_0, .int .u8 a1_1, .int .u8 a1_2] 25 (0, 0)) (by (with_reducible repeat (first | refine blk_drewN ?_ _ | refine blk_drew ?_ | refine blk_alloc ?_ _)); exact BK245.out) hb); have n1_ := Aside0.mk (below_step (by repeat (first | (with_reducible first | exact HB.out | apply below_alloc | apply pw_below_drewN | apply below_drew1 | refine below_set ?_ GE245.out) | exact HB.out)) hb); clear BK245; clear HB; have BK245 := n0_; have HB := n1_; clear n0_ n1_; (try clear hb); (try clear hb2); (try clear hk); (try clear hi)) | ((with_reducible refine gate_dst (N := 5) rfl ?_); refine box_event ?hg (N := 5) ?hd (cs := #[.int .i64 0, .int .i64 0, .int .i64 0, .int .i64 0, .int .i64 0, .int .i64 0]) (t := 64) ?hr ?_; (case hd => rfl); (case hg => rfl); (case hr => first | (go_simp; done) | (go_simp; rfl)); intro gb253 hg w9 hbox hb; have n0_ := Aside0.mk (blk_below (g := gb245) (o := .cells #[.int .u8 a1_0, .int .u8 a1_1, .int .u8 a1_2] 25 (0, 0)) (by (with_reducible repeat (first | refine blk_drewN ?_ _ | refine blk_drew ?_ | refine blk_alloc ?_ _)); exact BK245.out) hb); have n1_ := Aside0.mk (below_step (by repeat (first | (with_reducible first | exact HB.out | apply below_alloc | apply pw_below_drewN | apply below_drew1 | refine below_set ?_ GE245.out) | exact HB.out)) hb); have n2_ := Aside0.mk (hbox); have n3_ := Aside0.mk ((by rw [hg]; exact (below_size (by repeat (first | (with_reducible first | exact HB.out | apply below_alloc | apply pw_below_drewN | apply below_drew1 | refine below_set ?_ GE245.out) | exact HB.out))) : w.heap.size ≤ gb253)); have n4_ := Aside0.mk ((by rw [hg]; exact (below_size (by repeat (first | (with_reducible first | exact HB.out | apply below_alloc | apply pw_below_drewN | apply below_drew1 | refine below_set ?_ GE245.out) | exact HB.out))) : w.heap.size ≤ gb253)); have n5_ := Aside0.mk ((by rw [hg]; exact Nat.ne_of_lt (blk_lt (g := gb245) (o := .cells #[.int .u8 a1_0, .int .u8 a1_1, .int .u8 a1_2] 25 (0, 0)) (by (with_reducible repeat (first | refine blk_drewN ?_ _ | refine blk_drew ?_ | refine blk_alloc ?_ _)); exact BK245.out)) : gb245 ≠ gb253)); have n6_ := Aside0.mk ((by rw [hg]; exact Nat.ne_of_gt (blk_lt (g := gb245) (o := .cells #[.int .u8 a1_0, .int .u8 a1_1, .int .u8 a1_2] 25 (0, 0)) (by (with_reducible repeat (first | refine blk_drewN ?_ _ | refine blk_drew ?_ | refine blk_alloc ?_ _)); exact BK245.out)) : gb253 ≠ gb245)); clear BK245; clear HB; have BK245 := n0_; have HB := n1_; have BK253 := n2_; have GW253 := n3_; have GE253 := n4_; have NB245_253 := n5_; have NB253_245 := n6_; clear n0_ n1_ n2_ n3_ n4_ n5_ n6_; clear hb hbox hg; have hnb10 := NB253_245.out; have hnc10 := NB245_253.out; have hcz11_0 : w9.cell? ⟨gb253, 0, none⟩ = some (.int .i64 0) := (blk_cell BK253.out 0).trans rfl; have hcz11_1 : w9.cell? ⟨gb253, 1, none⟩ = some (.int .i64 0) := (blk_cell BK253.out 1).trans rfl; have hcz11_2 : w9.cell? ⟨gb253, 2, none⟩ = some (.int .i64 0) := (blk_cell BK253.out 2).trans rfl; have hcz11_3 : w9.cell? ⟨gb253, 3, none⟩ = some (.int .i64 0) := (blk_cell BK253.out 3).trans rfl; have hcz11_4 : w9.cell? ⟨gb253, 4, none⟩ = some (.int .i64 0) := (blk_cell BK253.out 4).trans rfl; have hcz11_5 : w9.cell? ⟨gb253, 5, none⟩ = some (.int .i64 0) := (blk_cell BK253.out 5).trans rfl; have hfz11_0 := blk_frozen BK253.out 0; have hfz11_1 := blk_frozen BK253.out 1; have hfz11_2 := blk_frozen BK253.out 2; have hfz11_3 := blk_frozen BK253.out 3; have hfz11_4 := blk_frozen BK253.out 4; have hfz11_5 := blk_frozen BK253.out 5) | ((with_reducible refine gate_callee (f := 37) rfl ?_); refine goesL_ (some 19) rfl rfl Try.func37 (by kernel_rfl) rfl #[.int .i64 t246, .int .i64 t249] rfl (by (try simp only [List.map_toArray, List.map_cons, List.map_nil]); first | done | rfl | (simp only [List.length_drop, List.length_take]; rfl)) ?_; (with_reducible refine (pledgeref32_capped.calls t246 t249 t254 _ A5.out).mono ?_); rintro e w' ⟨rfl, ⟨nd, rfl⟩⟩; refine ⟨_, rfl, ?_⟩))
    go_ret
    exact ⟨by first | rfl | (simp [errW_none, errW_some] <;> rfl) | (simp [*, errW_none, errW_some] <;> rfl), by repeat (first | (with_reducible first | exact HB.out | apply below_alloc | apply pw_below_drewN | apply below_drew1 | refine below_set ?_ GE245.out | refine below_set ?_ GE253.out) | exact HB.out)⟩
  · replace c4 := Bool.eq_false_iff.mpr c4
    subst c4
    have H1 : (some 0) = some r := by rw [if_neg (show ¬ (false = true) by decide)] at H; exact H
    clear H
    have H := H1
    clear H1
    obtain rfl := Option.some.inj H
    go_enter Try.func15, Try.ntmps15
    go_wp2_with (first | ((with_reducible refine gate_dst (N := 3) rfl ?_); refine box_event ?hg (N := 3) ?hd (cs := #[.int .u8 a1_0, .int .u8 a1_1, .int .u8 a1_2]) (t := 25) ?hr ?_; (case hd => rfl); (case hg => rfl); (case hr => first | (go_simp; done) | (go_simp; rfl)); intro gb245 hg w12 hbox hb; have n0_ := Aside0.mk (below_step (by repeat (first | (with_reducible first | exact HB.out | apply below_alloc | apply pw_below_drewN | apply below_drew1) | exact HB.out)) hb); have n1_ := Aside0.mk (hbox); have n2_ := Aside0.mk ((by rw [hg]; exact (below_size (by repeat (first | (with_reducible first | exact HB.out | apply below_alloc | apply pw_below_drewN | apply below_drew1) | exact HB.out))) : w.heap.size ≤ gb245)); have n3_ := Aside0.mk ((by rw [hg]; exact (below_size (by repeat (first | (with_reducible first | exact HB.out | apply below_alloc | apply pw_below_drewN | apply below_drew1) | exact HB.out))) : w.heap.size ≤ gb245)); clear HB; have HB := n0_; have BK245 := n1_; have GW245 := n2_; have GE245 := n3_; clear n0_ n1_ n2_ n3_; clear hb hbox hg; have hcz13_0 : w12.cell? ⟨gb245, 0, none⟩ = some (.int .u8 a1_0) := (blk_cell BK245.out 0).trans rfl; have hcz13_1 : w12.cell? ⟨gb245, 1, none⟩ = some (.int .u8 a1_1) := (blk_cell BK245.out 1).trans rfl; have hcz13_2 : w12.cell? ⟨gb245, 2, none⟩ = some (.int .u8 a1_2) := (blk_cell BK245.out 2).trans rfl; have hfz13_0 := blk_frozen BK245.out 0; have hfz13_1 := blk_frozen BK245.out 1; have hfz13_2 := blk_frozen BK245.out 2) | ((with_reducible refine gate_callee (f := 31) rfl ?_); refine goesL_ (some 10) rfl rfl Try.func31 (by kernel_rfl) rfl #[.slice A0 l0.length c0, .agg #[.int .u8 a1_0, .int .u8 a1_1, .int .u8 a1_2]] rfl (by (try simp only [List.map_toArray, List.map_cons, List.map_nil]); first | done | rfl | (simp only [List.length_drop, List.length_take]; rfl)) ?_; (with_reducible refine (pledgeref18_Get.calls k _ _ l0 a1_0 a1_1 a1_2 t246 t247 t248 t249 t250 t251 false _ ?side1 ?side2 A3.out).mono ?_); (case side1 => repeat (first | exact (Kd.C_below HR0.out HB.out) | (with_reducible refine Kd.C_alloc ?_ _) | (with_reducible refine Kd.C_drewN ?_ _) | (with_reducible refine Kd.C_drew ?_))); (case side2 => exact HC0.out); rintro e w14 ⟨rfl, hb⟩; refine ⟨_, rfl, ?_⟩; have n0_ := Aside0.mk (blk_below (g := gb245) (o := .cells #[.int .u8 a1_0, .int .u8 a1_1, .int .u8 a1_2] 25 (0, 0)) (by (with_reducible repeat (first | refine blk_drewN ?_ _ | refine blk_drew ?_ | refine blk_alloc ?_ _)); exact BK245.out) hb); have n1_ := Aside0.mk (below_step (by repeat (first | (with_reducible first | exact HB.out | apply below_alloc | apply pw_below_drewN | apply below_drew1 | refine below_set ?_ GE245.out) | exact HB.out)) hb); clear BK245; clear HB; have BK245 := n0_; have HB := n1_; clear n0_ n1_; (try clear hb); (try clear hb2); (try clear hk); (try clear hi)) | ((with_reducible refine gate_dst (N := 5) rfl ?_); refine box_event ?hg (N := 5) ?hd (cs := #[.int .i64 0, .int .i64 0, .int .i64 0, .int .i64 0, .int .i64 0, .int .i64 0]) (t := 64) ?hr ?_; (case hd => rfl); (case hg => rfl); (case hr => first | (go_simp; done) | (go_simp; rfl)); intro gb253 hg w15 hbox hb; have n0_ := Aside0.mk (blk_below (g := gb245) (o := .cells #[.int .u8 a1_0, .int .u8 a1_1, .int .u8 a1_2] 25 (0, 0)) (by (with_reducible repeat (first | refine blk_drewN ?_ _ | refine blk_drew ?_ | refine blk_alloc ?_ _)); exact BK245.out) hb); have n1_ := Aside0.mk (below_step (by repeat (first | (with_reducible first | exact HB.out | apply below_alloc | apply pw_below_drewN | apply below_drew1 | refine below_set ?_ GE245.out) | exact HB.out)) hb); have n2_ := Aside0.mk (hbox); have n3_ := Aside0.mk ((by rw [hg]; exact (below_size (by repeat (first | (with_reducible first | exact HB.out | apply below_alloc | apply pw_below_drewN | apply below_drew1 | refine below_set ?_ GE245.out) | exact HB.out))) : w.heap.size ≤ gb253)); have n4_ := Aside0.mk ((by rw [hg]; exact (below_size (by repeat (first | (with_reducible first | exact HB.out | apply below_alloc | apply pw_below_drewN | apply below_drew1 | refine below_set ?_ GE245.out) | exact HB.out))) : w.heap.size ≤ gb253)); have n5_ := Aside0.mk ((by rw [hg]; exact Nat.ne_of_lt (blk_lt (g := gb245) (o := .cells #[.int .u8 a1_0, .int .u8 a1_1, .int .u8 a1_2] 25 (0, 0)) (by (with_reducible repeat (first | refine blk_drewN ?_ _ | refine blk_drew ?_ | refine blk_alloc ?_ _)); exact BK245.out)) : gb245 ≠ gb253)); have n6_ := Aside0.mk ((by rw [hg]; exact Nat.ne_of_gt (blk_lt (g := gb245) (o := .cells #[.int .u8 a1_0, .int .u8 a1_1, .int .u8 a1_2] 25 (0, 0)) (by (with_reducible repeat (first | refine blk_drewN ?_ _ | refine blk_drew ?_ | refine blk_alloc ?_ _)); exact BK245.out)) : gb253 ≠ gb245)); clear BK245; clear HB; have BK245 := n0_; have HB := n1_; have BK253 := n2_; have GW253 := n3_; have GE253 := n4_; have NB245_253 := n5_; have NB253_245 := n6_; clear n0_ n1_ n2_ n3_ n4_ n5_ n6_; clear hb hbox hg; have hnb16 := NB253_245.out; have hnc16 := NB245_253.out; have hcz17_0 : w15.cell? ⟨gb253, 0, none⟩ = some (.int .i64 0) := (blk_cell BK253.out 0).trans rfl; have hcz17_1 : w15.cell? ⟨gb253, 1, none⟩ = some (.int .i64 0) := (blk_cell BK253.out 1).trans rfl; have hcz17_2 : w15.cell? ⟨gb253, 2, none⟩ = some (.int .i64 0) := (blk_cell BK253.out 2).trans rfl; have hcz17_3 : w15.cell? ⟨gb253, 3, none⟩ = some (.int .i64 0) := (blk_cell BK253.out 3).trans rfl; have hcz17_4 : w15.cell? ⟨gb253, 4, none⟩ = some (.int .i64 0) := (blk_cell BK253.out 4).trans rfl; have hcz17_5 : w15.cell? ⟨gb253, 5, none⟩ = some (.int .i64 0) := (blk_cell BK253.out 5).trans rfl; have hfz17_0 := blk_frozen BK253.out 0; have hfz17_1 := blk_frozen BK253.out 1; have hfz17_2 := blk_frozen BK253.out 2; have hfz17_3 := blk_frozen BK253.out 3; have hfz17_4 := blk_frozen BK253.out 4; have hfz17_5 := blk_frozen BK253.out 5))
    go_ret
    exact ⟨by first | rfl | (simp [errW_none, errW_some] <;> rfl) | (simp [*, errW_none, errW_some] <;> rfl), by repeat (first | (with_reducible first | exact HB.out | apply below_alloc | apply pw_below_drewN | apply below_drew1 | refine below_set ?_ GE245.out | refine below_set ?_ GE253.out) | exact HB.out)⟩

end Go.Proofs.Ytnipjfciphgfjaa.G
/- What functions of the program answer, for all inputs of which their Lean functions tell an answer; printed by a program of this session with the kit's printer, over contracts that this session proved by hand. -/
namespace Go.Proofs.Ytnipjfciphgfjaa.G
open Go.RowKit Go.Proofs.YtnipjfciphgfjaaW.PrintWords Go.Proofs.YtnipjfciphgfjaaW.PrintLast Go.Proofs.YtnipjfciphgfjaaW.PrintMore
attribute [local go_sem] max2_int min2_int max_two min_two max_three min_three max_four min_four   -- for this text's walks alone
set_option linter.unusedVariables false
set_option linter.unusedSimpArgs false

/-! ### pledgeref32_Room: function 16 -/
def pledgeref32_Room.f (k : Nat) (l0 : List (S81)) (a1_0 : Int) (a1_1 : Int) (a1_2 : Int) : Option (Int) := (pledgeref18_Get.f k l0 a1_0 a1_1 a1_2).bind fun bt256 => (if bt256.2.2.2.2.2.2 = true then ((pledgeref32_capped.f bt256.2.2.2.2.1 bt256.2.1).bind fun t264 => (some t264)) else (some 0))
theorem pledgeref32_Room.mono : ∀ a0 a1 a2 a3 k, LeO (pledgeref32_Room.f k a0 a1 a2 a3) (pledgeref32_Room.f (k + 1) a0 a1 a2 a3) := by
  intro a0 a1 a2 a3 k
  unfold pledgeref32_Room.f
  repeat' first
      | (with_reducible exact pledgeref18_Get.mono _ _ _ _ _)
      | (with_reducible exact LeO.refl _)
      | (with_reducible exact LeO.none _)
      | (with_reducible refine LeO.ite ?_ ?_)
      | (with_reducible refine LeO.bind ?_ (fun _ => ?_))
      | exact pledgeref18_Get.mono _ _ _ _ _
      | exact LeO.none _
      | refine LeO.ite ?_ ?_
      | refine LeO.bind ?_ (fun _ => ?_)
set_option maxHeartbeats 8000000 in
set_option maxRecDepth 100000 in
theorem pledgeref32_Room.calls (k : Nat) (A0 : Option Addr) (c0 : Nat) (l0 : List (S81)) (a1_0 : Int) (a1_1 : Int) (a1_2 : Int) (r : Int) (w : World) (hr0 : Kd.C k81 w A0 l0.length l0) (hc0 : l0.length ≤ c0) (h : pledgeref32_Room.f k l0 a1_0 a1_1 a1_2 = some r) :
    Calls Try.prog 16 #[.slice A0 l0.length c0, .agg #[.int .u8 a1_0, .int .u8 a1_1, .int .u8 a1_2]] w fun e w' => e = .returned (.int .i64 r) ∧ Below w.heap.size w w' := by
  have hu25 := Try.underlying25
  have hu64 := Try.underlying64
  have HR0 := Aside0.mk hr0
  have HC0 := Aside0.mk hc0
  clear hr0 hc0
  have HB := Aside0.mk (Below.refl w.heap.size w)
  have H : ((pledgeref18_Get.f k l0 a1_0 a1_1 a1_2).bind fun bt256 => (if bt256.2.2.2.2.2.2 = true then ((pledgeref32_capped.f bt256.2.2.2.2.1 bt256.2.1).bind fun t264 => (some t264)) else (some 0))) = some r := h
  clear h
  replace H := Option.bind_eq_some_iff.mp H
  obtain ⟨⟨t256, t257, t258, t259, t260, t261, t262⟩, A30, H⟩ := H
  replace H : (if t262 = true then ((pledgeref32_capped.f t260 t257).bind fun t264 => (some t264)) else (some 0)) = some r := H
  have A3 := Aside0.mk A30
  clear A30
  by_cases c4 : t262 = true
  · subst c4
    have H1 : ((pledgeref32_capped.f t260 t257).bind fun t264 => (some t264)) = some r := by rw [if_pos rfl] at H; exact H
    clear H
    have H := H1
    clear H1
    replace H := Option.bind_eq_some_iff.mp H
    obtain ⟨t264, A50, H⟩ := H
    replace H : (some t264) = some r := H
    have A5 := Aside0.mk A50
    clear A50
    obtain rfl := Option.some.inj H
    go_enter Try.func16, Try.ntmps16
    go_wp2_with (first | ((with_reducible refine gate_dst (N := 3) rfl ?_); refine box_event ?hg (N := 3) ?hd (cs := #[.int .u8 a1_0, .int .u8 a1_1, .int .u8 a1_2]) (t := 25) ?hr ?_; (case hd => rfl); (case hg => rfl); (case hr => first | (go_simp; done) | (go_simp; rfl)); intro gb255 hg w6 hbox hb; have n0_ := Aside0.mk (below_step (by repeat (first | (with_reducible first | exact HB.out | apply below_alloc | apply pw_below_drewN | apply below_drew1) | exact HB.out)) hb); have n1_ := Aside0.mk (hbox); have n2_ := Aside0.mk ((by rw [hg]; exact (below_size (by repeat (first | (with_reducible first | exact HB.out | apply below_alloc | apply pw_below_drewN | apply below_drew1) | exact HB.out))) : w.heap.size ≤ gb255)); have n3_ := Aside0.mk ((by rw [hg]; exact (below_size (by repeat (first | (with_reducible first | exact HB.out | apply below_alloc | apply pw_below_drewN | apply below_drew1) | exact HB.out))) : w.heap.size ≤ gb255)); clear HB; have HB := n0_; have BK255 := n1_; have GW255 := n2_; have GE255 := n3_; clear n0_ n1_ n2_ n3_; clear hb hbox hg; have hcz7_0 : w6.cell? ⟨gb255, 0, none⟩ = some (.int .u8 a1_0) := (blk_cell BK255.out 0).trans rfl; have hcz7_1 : w6.cell? ⟨gb255, 1, none⟩ = some (.int .u8 a1_1) := (blk_cell BK255.out 1).trans rfl; have hcz7_2 : w6.cell? ⟨gb255, 2, none⟩ = some (.int .u8 a1_2) := (blk_cell BK255.out 2).trans rfl; have hfz7_0 := blk_frozen BK255.out 0; have hfz7_1 := blk_frozen BK255.out 1; have hfz7_2 := blk_frozen BK255.out 2) | ((with_reducible refine gate_callee (f := 31) rfl ?_); refine goesL_ (some 10) rfl rfl Try.func31 (by kernel_rfl) rfl #[.slice A0 l0.length c0, .agg #[.int .u8 a1_0, .int .u8 a1_1, .int .u8 a1_2]] rfl (by (try simp only [List.map_toArray, List.map_cons, List.map_nil]); first | done | rfl | (simp only [List.length_drop, List.length_take]; rfl)) ?_; (with_reducible refine (pledgeref18_Get.calls k _ _ l0 a1_0 a1_1 a1_2 t256 t257 t258 t259 t260 t261 true _ ?side1 ?side2 A3.out).mono ?_); (case side1 => repeat (first | exact (Kd.C_below HR0.out HB.out) | (with_reducible refine Kd.C_alloc ?_ _) | (with_reducible refine Kd.C_drewN ?_ _) | (with_reducible refine Kd.C_drew ?_))); (case side2 => exact HC0.out); rintro e w8 ⟨rfl, hb⟩; refine ⟨_, rfl, ?_⟩; have n0_ := Aside0.mk (blk_below (g := gb255) (o := .cells #[.int .u8 a1_0, .int .u8 a1_1, .int .u8 a1_2] 25 (0, 0)) (by (with_reducible repeat (first | refine blk_drewN ?_ _ | refine blk_drew ?_ | refine blk_alloc ?_ _)); exact BK255.out) hb); have n1_ := Aside0.mk (below_step (by repeat (first | (with_reducible first | exact HB.out | apply below_alloc | apply pw_below_drewN | apply below_drew1 | refine below_set ?_ GE255.out) | exact HB.out)) hb); clear BK255; clear HB; have BK255 := n0_; have HB := n1_; clear n0_ n1_; (try clear hb); (try clear hb2); (try clear hk); (try clear hi)) | ((with_reducible refine gate_dst (N := 5) rfl ?_); refine box_event ?hg (N := 5) ?hd (cs := #[.int .i64 0, .int .i64 0, .int .i64 0, .int .i64 0, .int .i64 0, .int .i64 0]) (t := 64) ?hr ?_; (case hd => rfl); (case hg => rfl); (case hr => first | (go_simp; done) | (go_simp; rfl)); intro gb263 hg w9 hbox hb; have n0_ := Aside0.mk (blk_below (g := gb255) (o := .cells #[.int .u8 a1_0, .int .u8 a1_1, .int .u8 a1_2] 25 (0, 0)) (by (with_reducible repeat (first | refine blk_drewN ?_ _ | refine blk_drew ?_ | refine blk_alloc ?_ _)); exact BK255.out) hb); have n1_ := Aside0.mk (below_step (by repeat (first | (with_reducible first | exact HB.out | apply below_alloc | apply pw_below_drewN | apply below_drew1 | refine below_set ?_ GE255.out) | exact HB.out)) hb); have n2_ := Aside0.mk (hbox); have n3_ := Aside0.mk ((by rw [hg]; exact (below_size (by repeat (first | (with_reducible first | exact HB.out | apply below_alloc | apply pw_below_drewN | apply below_drew1 | refine below_set ?_ GE255.out) | exact HB.out))) : w.heap.size ≤ gb263)); have n4_ := Aside0.mk ((by rw [hg]; exact (below_size (by repeat (first | (with_reducible first | exact HB.out | apply below_alloc | apply pw_below_drewN | apply below_drew1 | refine below_set ?_ GE255.out) | exact HB.out))) : w.heap.size ≤ gb263)); have n5_ := Aside0.mk ((by rw [hg]; exact Nat.ne_of_lt (blk_lt (g := gb255) (o := .cells #[.int .u8 a1_0, .int .u8 a1_1, .int .u8 a1_2] 25 (0, 0)) (by (with_reducible repeat (first | refine blk_drewN ?_ _ | refine blk_drew ?_ | refine blk_alloc ?_ _)); exact BK255.out)) : gb255 ≠ gb263)); have n6_ := Aside0.mk ((by rw [hg]; exact Nat.ne_of_gt (blk_lt (g := gb255) (o := .cells #[.int .u8 a1_0, .int .u8 a1_1, .int .u8 a1_2] 25 (0, 0)) (by (with_reducible repeat (first | refine blk_drewN ?_ _ | refine blk_drew ?_ | refine blk_alloc ?_ _)); exact BK255.out)) : gb263 ≠ gb255)); clear BK255; clear HB; have BK255 := n0_; have HB := n1_; have BK263 := n2_; have GW263 := n3_; have GE263 := n4_; have NB255_263 := n5_; have NB263_255 := n6_; clear n0_ n1_ n2_ n3_ n4_ n5_ n6_; clear hb hbox hg; have hnb10 := NB263_255.out; have hnc10 := NB255_263.out; have hcz11_0 : w9.cell? ⟨gb263, 0, none⟩ = some (.int .i64 0) := (blk_cell BK263.out 0).trans rfl; have hcz11_1 : w9.cell? ⟨gb263, 1, none⟩ = some (.int .i64 0) := (blk_cell BK263.out 1).trans rfl; have hcz11_2 : w9.cell? ⟨gb263, 2, none⟩ = some (.int .i64 0) := (blk_cell BK263.out 2).trans rfl; have hcz11_3 : w9.cell? ⟨gb263, 3, none⟩ = some (.int .i64 0) := (blk_cell BK263.out 3).trans rfl; have hcz11_4 : w9.cell? ⟨gb263, 4, none⟩ = some (.int .i64 0) := (blk_cell BK263.out 4).trans rfl; have hcz11_5 : w9.cell? ⟨gb263, 5, none⟩ = some (.int .i64 0) := (blk_cell BK263.out 5).trans rfl; have hfz11_0 := blk_frozen BK263.out 0; have hfz11_1 := blk_frozen BK263.out 1; have hfz11_2 := blk_frozen BK263.out 2; have hfz11_3 := blk_frozen BK263.out 3; have hfz11_4 := blk_frozen BK263.out 4; have hfz11_5 := blk_frozen BK263.out 5) | ((with_reducible refine gate_callee (f := 37) rfl ?_); refine goesL_ (some 19) rfl rfl Try.func37 (by kernel_rfl) rfl #[.int .i64 t260, .int .i64 t257] rfl (by (try simp only [List.map_toArray, List.map_cons, List.map_nil]); first | done | rfl | (simp only [List.length_drop, List.length_take]; rfl)) ?_; (with_reducible refine (pledgeref32_capped.calls t260 t257 t264 _ A5.out).mono ?_); rintro e w' ⟨rfl, ⟨nd, rfl⟩⟩; refine ⟨_, rfl, ?_⟩))
    go_ret
    exact ⟨by first | rfl | (simp [errW_none, errW_some] <;> rfl) | (simp [*, errW_none, errW_some] <;> rfl), by repeat (first | (with_reducible first | exact HB.out | apply below_alloc | apply pw_below_drewN | apply below_drew1 | refine below_set ?_ GE255.out | refine below_set ?_ GE263.out) | exact HB.out)⟩
  · replace c4 := Bool.eq_false_iff.mpr c4
    subst c4
    have H1 : (some 0) = some r := by rw [if_neg (show ¬ (false = true) by decide)] at H; exact H
    clear H
    have H := H1
    clear H1
    obtain rfl := Option.some.inj H
    go_enter Try.func16, Try.ntmps16
    go_wp2_with (first | ((with_reducible refine gate_dst (N := 3) rfl ?_); refine box_event ?hg (N := 3) ?hd (cs := #[.int .u8 a1_0, .int .u8 a1_1, .int .u8 a1_2]) (t := 25) ?hr ?_; (case hd => rfl); (case hg => rfl); (case hr => first | (go_simp; done) | (go_simp; rfl)); intro gb255 hg w12 hbox hb; have n0_ := Aside0.mk (below_step (by repeat (first | (with_reducible first | exact HB.out | apply below_alloc | apply pw_below_drewN | apply below_drew1) | exact HB.out)) hb); have n1_ := Aside0.mk (hbox); have n2_ := Aside0.mk ((by rw [hg]; exact (below_size (by repeat (first | (with_reducible first | exact HB.out | apply below_alloc | apply pw_below_drewN | apply below_drew1) | exact HB.out))) : w.heap.size ≤ gb255)); have n3_ := Aside0.mk ((by rw [hg]; exact (below_size (by repeat (first | (with_reducible first | exact HB.out | apply below_alloc | apply pw_below_drewN | apply below_drew1) | exact HB.out))) : w.heap.size ≤ gb255)); clear HB; have HB := n0_; have BK255 := n1_; have GW255 := n2_; have GE255 := n3_; clear n0_ n1_ n2_ n3_; clear hb hbox hg; have hcz13_0 : w12.cell? ⟨gb255, 0, none⟩ = some (.int .u8 a1_0) := (blk_cell BK255.out 0).trans rfl; have hcz13_1 : w12.cell? ⟨gb255, 1, none⟩ = some (.int .u8 a1_1) := (blk_cell BK255.out 1).trans rfl; have hcz13_2 : w12.cell? ⟨gb255, 2, none⟩ = some (.int .u8 a1_2) := (blk_cell BK255.out 2).trans rfl; have hfz13_0 := blk_frozen BK255.out 0; have hfz13_1 := blk_frozen BK255.out 1; have hfz13_2 := blk_frozen BK255.out 2) | ((with_reducible refine gate_callee (f := 31) rfl ?_); refine goesL_ (some 10) rfl rfl Try.func31 (by kernel_rfl) rfl #[.slice A0 l0.length c0, .agg #[.int .u8 a1_0, .int .u8 a1_1, .int .u8 a1_2]] rfl (by (try simp only [List.map_toArray, List.map_cons, List.map_nil]); first | done | rfl | (simp only [List.length_drop, List.length_take]; rfl)) ?_; (with_reducible refine (pledgeref18_Get.calls k _ _ l0 a1_0 a1_1 a1_2 t256 t257 t258 t259 t260 t261 false _ ?side1 ?side2 A3.out).mono ?_); (case side1 => repeat (first | exact (Kd.C_below HR0.out HB.out) | (with_reducible refine Kd.C_alloc ?_ _) | (with_reducible refine Kd.C_drewN ?_ _) | (with_reducible refine Kd.C_drew ?_))); (case side2 => exact HC0.out); rintro e w14 ⟨rfl, hb⟩; refine ⟨_, rfl, ?_⟩; have n0_ := Aside0.mk (blk_below (g := gb255) (o := .cells #[.int .u8 a1_0, .int .u8 a1_1, .int .u8 a1_2] 25 (0, 0)) (by (with_reducible repeat (first | refine blk_drewN ?_ _ | refine blk_drew ?_ | refine blk_alloc ?_ _)); exact BK255.out) hb); have n1_ := Aside0.mk (below_step (by repeat (first | (with_reducible first | exact HB.out | apply below_alloc | apply pw_below_drewN | apply below_drew1 | refine below_set ?_ GE255.out) | exact HB.out)) hb); clear BK255; clear HB; have BK255 := n0_; have HB := n1_; clear n0_ n1_; (try clear hb); (try clear hb2); (try clear hk); (try clear hi)) | ((with_reducible refine gate_dst (N := 5) rfl ?_); refine box_event ?hg (N := 5) ?hd (cs := #[.int .i64 0, .int .i64 0, .int .i64 0, .int .i64 0, .int .i64 0, .int .i64 0]) (t := 64) ?hr ?_; (case hd => rfl); (case hg => rfl); (case hr => first | (go_simp; done) | (go_simp; rfl)); intro gb263 hg w15 hbox hb; have n0_ := Aside0.mk (blk_below (g := gb255) (o := .cells #[.int .u8 a1_0, .int .u8 a1_1, .int .u8 a1_2] 25 (0, 0)) (by (with_reducible repeat (first | refine blk_drewN ?_ _ | refine blk_drew ?_ | refine blk_alloc ?_ _)); exact BK255.out) hb); have n1_ := Aside0.mk (below_step (by repeat (first | (with_reducible first | exact HB.out | apply below_alloc | apply pw_below_drewN | apply below_drew1 | refine below_set ?_ GE255.out) | exact HB.out)) hb); have n2_ := Aside0.mk (hbox); have n3_ := Aside0.mk ((by rw [hg]; exact (below_size (by repeat (first | (with_reducible first | exact HB.out | apply below_alloc | apply pw_below_drewN | apply below_drew1 | refine below_set ?_ GE255.out) | exact HB.out))) : w.heap.size ≤ gb263)); have n4_ := Aside0.mk ((by rw [hg]; exact (below_size (by repeat (first | (with_reducible first | exact HB.out | apply below_alloc | apply pw_below_drewN | apply below_drew1 | refine below_set ?_ GE255.out) | exact HB.out))) : w.heap.size ≤ gb263)); have n5_ := Aside0.mk ((by rw [hg]; exact Nat.ne_of_lt (blk_lt (g := gb255) (o := .cells #[.int .u8 a1_0, .int .u8 a1_1, .int .u8 a1_2] 25 (0, 0)) (by (with_reducible repeat (first | refine blk_drewN ?_ _ | refine blk_drew ?_ | refine blk_alloc ?_ _)); exact BK255.out)) : gb255 ≠ gb263)); have n6_ := Aside0.mk ((by rw [hg]; exact Nat.ne_of_gt (blk_lt (g := gb255) (o := .cells #[.int .u8 a1_0, .int .u8 a1_1, .int .u8 a1_2] 25 (0, 0)) (by (with_reducible repeat (first | refine blk_drewN ?_ _ | refine blk_drew ?_ | refine blk_alloc ?_ _)); exact BK255.out)) : gb263 ≠ gb255)); clear BK255; clear HB; have BK255 := n0_; have HB := n1_; have BK263 := n2_; have GW263 := n3_; have GE263 := n4_; have NB255_263 := n5_; have NB263_255 := n6_; clear n0_ n1_ n2_ n3_ n4_ n5_ n6_; clear hb hbox hg; have hnb16 := NB263_255.out; have hnc16 := NB255_263.out; have hcz17_0 : w15.cell? ⟨gb263, 0, none⟩ = some (.int .i64 0) := (blk_cell BK263.out 0).trans rfl; have hcz17_1 : w15.cell? ⟨gb263, 1, none⟩ = some (.int .i64 0) := (blk_cell BK263.out 1).trans rfl; have hcz17_2 : w15.cell? ⟨gb263, 2, none⟩ = some (.int .i64 0) := (blk_cell BK263.out 2).trans rfl; have hcz17_3 : w15.cell? ⟨gb263, 3, none⟩ = some (.int .i64 0) := (blk_cell BK263.out 3).trans rfl; have hcz17_4 : w15.cell? ⟨gb263, 4, none⟩ = some (.int .i64 0) := (blk_cell BK263.out 4).trans rfl; have hcz17_5 : w15.cell? ⟨gb263, 5, none⟩ = some (.int .i64 0) := (blk_cell BK263.out 5).trans rfl; have hfz17_0 := blk_frozen BK263.out 0; have hfz17_1 := blk_frozen BK263.out 1; have hfz17_2 := blk_frozen BK263.out 2; have hfz17_3 := blk_frozen BK263.out 3; have hfz17_4 := blk_frozen BK263.out 4; have hfz17_5 := blk_frozen BK263.out 5))
    go_ret
    exact ⟨by first | rfl | (simp [errW_none, errW_some] <;> rfl) | (simp [*, errW_none, errW_some] <;> rfl), by repeat (first | (with_reducible first | exact HB.out | apply below_alloc | apply pw_below_drewN | apply below_drew1 | refine below_set ?_ GE255.out | refine below_set ?_ GE263.out) | exact HB.out)⟩

-- NOT PRINTED: function 17 (view_Frees)

-- NOT PRINTED: function 18 (pledgeref32_Frees)

-- NOT PRINTED: function 4 (pledgelaw32_ViewSays)

-- NOT PRINTED: function 54 (field_move)

end Go.Proofs.Ytnipjfciphgfjaa.G
/- What the document's answers of the fund and the view are: plain Lean. -/
namespace Go.Proofs.Ytnipjfciphgfjaa.V
open Go.RowKit Go.Proofs.Ytnipjfciphgfjaa.G Go.Proofs.YtnipjfciphgfjaaW.PrintWords Go.Proofs.YtnipjfciphgfjaaW.PrintLast Go.Proofs.YtnipjfciphgfjaaW.PrintMore
set_option linter.unusedVariables false
set_option linter.unusedSimpArgs false
theorem fit2_snd (x : Int) : (fit x).2 = decide (In64 x) := by
  unfold fit In64; split
  · rename_i h; exact (decide_eq_true h).symm
  · rename_i h; exact (decide_eq_false h).symm
theorem fit2_fst {x : Int} (h : In64 x) : (fit x).1 = x := by rw [fit_in h]
theorem sum_bounds (l : List Int) (h : ∀ x ∈ l, -9223372036854775808 ≤ x ∧ x ≤ 9223372036854775807) : -9223372036854775808 * (l.length : Int) ≤ l.sum ∧ l.sum ≤ 9223372036854775807 * (l.length : Int) := by
  induction l with
  | nil => simp
  | cons a t ih =>
    have h1 := h a (List.mem_cons_self)
    have h2 := ih (fun x hx => h x (List.mem_cons_of_mem _ hx))
    simp only [List.sum_cons, List.length_cons]
    omega
theorem take_sum (l : List Int) (k : Nat) (hk : k < l.length) : (l.take (k + 1)).sum = (l.take k).sum + rd l k := by
  rw [List.take_succ_eq_append_getElem hk, List.sum_append]
  simp [rd, hk]
theorem rd_mem (l : List Int) (k : Nat) (hk : k < l.length) : rd l k ∈ l := by
  simp [rd, hk]
theorem halves_eq (a : Int) (h : -9223372036854775808 ≤ a ∧ a ≤ 9223372036854775807) (k : Nat) : pledgeref01_halves.f (k + 2) a = some (a / 4294967296, a % 4294967296) := by
  have pos : ∀ (b : Int) (k : Nat), 0 ≤ b → b ≤ 9223372036854775807 → pledgeref01_halves.f (k + 1) b = some (b / 4294967296, b % 4294967296) := by
    intro b k h0 h1
    simp only [pledgeref01_halves.f]
    rw [if_neg (by omega), Int.tdiv_eq_ediv_of_nonneg h0, Int.tmod_eq_emod_of_nonneg h0]
    unfold wrap64; congr 2; omega
  by_cases hn : a < 0
  · simp only [pledgeref01_halves.f]
    rw [if_pos hn]
    have e : wrap64 (-(wrap64 (a + 1))) = -(a + 1) := by unfold wrap64; omega
    rw [e]
    have := pos (-(a + 1)) k (by omega) (by omega)
    simp only [pledgeref01_halves.f] at this
    rw [this]
    simp only [Option.bind_some]
    unfold wrap64
    congr 2 <;> omega
  · exact pos a (k + 1) (by omega) h.2

theorem ref_sum_from (l : List Int) (h : ∀ x ∈ l, -9223372036854775808 ≤ x ∧ x ≤ 9223372036854775807) (hn : l.length ≤ 1000) (d : Nat) :
    ∀ (k : Nat) (i : Nat) (hi lo : Int), i + d = l.length → d + 2 < k → 0 ≤ lo → lo < 4294967296 → hi * 4294967296 + lo = (l.take i).sum →
      pledgeref01_Sum.l0 k l i hi lo = some (fit l.sum) := by
  induction d with
  | zero =>
    intro k i hi lo hd hk h0 h1 hs
    obtain ⟨k, rfl⟩ : ∃ m, k = m + 1 := ⟨k - 1, by omega⟩
    simp only [pledgeref01_Sum.l0]
    rw [if_neg (by omega)]
    rw [List.take_of_length_le (by omega)] at hs
    unfold fit
    rw [← hs]
    by_cases c1 : hi < -2147483648
    · rw [if_pos c1, if_neg (by omega)]
    · rw [if_neg c1]
      by_cases c2 : hi > 2147483647
      · rw [if_pos c2, if_neg (by omega)]
      · rw [if_neg c2, if_pos (by omega)]
        unfold wrap64; congr 2; omega
  | succ d ih =>
    intro k i hi lo hd hk h0 h1 hs
    obtain ⟨k, rfl⟩ : ∃ m, k = m + 3 := ⟨k - 3, by omega⟩
    have hlt : i < l.length := by omega
    have q1 : ((i : Int) < (l.length : Int)) = True := eq_true (by omega)
    have q2 : (0 ≤ (i : Int)) = True := eq_true (by omega)
    have e1 : wrap64 ((i : Int) + 1) = ((i + 1 : Nat) : Int) := by unfold wrap64; omega
    have ih' := fun hi lo => ih (k + 2) (i + 1) hi lo (by omega) (by omega)
    have hl : (l.take i).length ≤ 1000 := by rw [List.length_take]; omega
    have hb := h _ (rd_mem l i hlt)
    have ht := take_sum l i hlt
    have hsb := sum_bounds (l.take i) (fun x hx => h x (List.mem_of_mem_take hx))
    rw [ht] at ih'
    clear ht ih hn h hd hk hlt
    simp only [pledgeref01_Sum.l0, q1, q2, if_true]
    rw [halves_eq _ hb k, e1]
    simp only [Option.bind_some]
    clear q1 q2 e1
    generalize hT : (l.take i).length = n at *
    clear hT
    generalize hS : (l.take i).sum = S at *
    clear hS
    generalize hA : rd l i = a at *
    clear hA
    have e2 : wrap64 (lo + a % 4294967296) = lo + a % 4294967296 := by unfold wrap64; omega
    have e3 : wrap64 (hi + a / 4294967296) = hi + a / 4294967296 := by unfold wrap64; omega
    rw [e2, e3]
    by_cases c : lo + a % 4294967296 ≥ 4294967296
    · rw [if_pos c]
      have e4 : wrap64 (hi + a / 4294967296 + 1) = hi + a / 4294967296 + 1 := by unfold wrap64; omega
      have e5 : wrap64 (lo + a % 4294967296 - 4294967296) = lo + a % 4294967296 - 4294967296 := by unfold wrap64; omega
      rw [e4, e5]
      exact ih' _ _ (by omega) (by omega) (by omega)
    · rw [if_neg c]
      exact ih' _ _ (by omega) (by omega) (by omega)

theorem ref_sum (l : List Int) (h : ∀ x ∈ l, -9223372036854775808 ≤ x ∧ x ≤ 9223372036854775807) (hn : l.length ≤ 1000) (k : Nat) (hk : l.length + 2 < k) : pledgeref01_Sum.f k l = some (fit l.sum) :=
  ref_sum_from l h hn l.length k 0 0 0 (by omega) hk (by omega) (by omega) (by simp)

theorem ref_add (a b : Int) (ha : In64 a) (hb : In64 b) (k : Nat) (hk : 10 < k) : pledgeref01_Add.f k a b = some (fit (a + b)) := by
  unfold pledgeref01_Add.f
  rw [ref_sum [a, b] (by intro x hx; simp at hx; rcases hx with rfl | rfl <;> assumption) (by simp) k (by simp; omega)]
  simp
theorem ref_good (a b c d e f : Int) : pledgeref17_Good.f a b c d e f = some (decide (GoodP a b c d e f)) := by
  unfold pledgeref17_Good.f
  by_cases h1 : a ≤ d
  · rw [if_pos h1]
    by_cases h2 : d ≤ c
    · rw [if_pos h2]
      by_cases h3 : d ≤ f
      · rw [if_pos h3]
        by_cases h4 : c ≤ e
        · rw [if_pos h4]
          by_cases h5 : f ≤ e
          · rw [if_pos h5]; congr 1
            by_cases h6 : e ≤ b
            · rw [decide_eq_true h6]; exact (decide_eq_true (⟨h1, h2, h3, h4, h5, h6⟩ : GoodP a b c d e f)).symm
            · rw [decide_eq_false h6]; exact (decide_eq_false (fun z : GoodP a b c d e f => h6 z.2.2.2.2.2)).symm
          · rw [if_neg h5]; congr 1; exact (decide_eq_false (fun z : GoodP a b c d e f => h5 z.2.2.2.2.1)).symm
        · rw [if_neg h4]; congr 1; exact (decide_eq_false (fun z : GoodP a b c d e f => h4 z.2.2.2.1)).symm
      · rw [if_neg h3]; congr 1; exact (decide_eq_false (fun z : GoodP a b c d e f => h3 z.2.2.1)).symm
    · rw [if_neg h2]; congr 1; exact (decide_eq_false (fun z : GoodP a b c d e f => h2 z.2.1)).symm
  · rw [if_neg h1]; congr 1; exact (decide_eq_false (fun z : GoodP a b c d e f => h1 z.1)).symm
theorem ref_first (a b c d e f x : Int) (hx : In64 x) : pledgeref17_first.f a b c d e f x = some (if ¬ GoodP a b c d e f then 12 else if x = 0 ∨ x = -9223372036854775808 then 1 else 0) := by
  unfold pledgeref17_first.f
  unfold In64 at hx
  rw [ref_good, Option.bind_some]
  by_cases h : GoodP a b c d e f
  · rw [decide_eq_true h, if_pos rfl, if_neg (show ¬¬ GoodP a b c d e f from fun z => z h)]
    by_cases h1 : x = 0
    · rw [if_pos h1, if_pos (Or.inl h1)]
    · rw [if_neg h1]
      by_cases h2 : x < -9223372036854775807
      · rw [if_pos h2, if_pos (Or.inr (by omega))]
      · rw [if_neg h2, if_neg (by omega)]
  · rw [decide_eq_false h, if_neg Bool.false_ne_true, if_pos h]
theorem ref_grant (lo hi base inf sup val d : Int) (h : In7 lo hi base inf sup val d) (k : Nat) (hk : 20 < k) :
    pledgeref17_Grant.f k lo hi base inf sup val d = some (grantP lo hi base inf sup val d) := by
  obtain ⟨i0, i1, i2, i3, i4, i5, i6⟩ := h
  unfold pledgeref17_Grant.f grantP
  rw [ref_first _ _ _ _ _ _ _ i6, Option.bind_some]
  by_cases g : GoodP lo hi base inf sup val
  · have gg : ¬¬ GoodP lo hi base inf sup val := fun z => z g
    rw [if_neg gg, if_neg gg]
    by_cases c : d = 0 ∨ d = -9223372036854775808
    · rw [if_pos c, if_pos c, if_neg (by decide)]
    · rw [if_neg c, if_neg c, if_pos rfl]
      obtain ⟨k, rfl⟩ : ∃ q, k = q + 2 := ⟨k - 2, by omega⟩
      have ev : ∀ x, (x = inf ∨ x = sup) → In64 x → pledgeref17_Grant.j0 (k + 2) d x lo hi base inf sup val lo hi base inf sup val =
          some (if ¬ In64 (x + d) then (lo, hi, base, inf, sup, val, 2) else if x + d < lo ∨ x + d > hi then (lo, hi, base, inf, sup, val, 3) else if d > 0 then (lo, hi, base, inf, x + d, wrap64 (val + d), 0) else (lo, hi, base, x + d, sup, wrap64 (val + d), 0)) := by
        intro x _ hx
        simp only [pledgeref17_Grant.j0, pledgeref17_Grant.j1]
        rw [ref_add x d hx i6 (k + 1) (by omega)]
        simp only [Option.bind_some, fit2_snd]
        by_cases h1 : In64 (x + d)
        · have n1 : ¬¬ In64 (x + d) := fun z => z h1
          rw [if_neg n1]
          simp only [h1, decide_true, if_true, fit2_fst]
          by_cases h2 : x + d < lo
          · simp only [h2, if_true, true_or]
          · by_cases h3 : x + d > hi
            · simp only [h2, h3, if_true, if_false, decide_true, or_true]
            · by_cases h4 : d > 0
              · simp only [h2, h3, h4, if_true, if_false, decide_false, Bool.false_eq_true, or_self]
              · simp only [h2, h3, h4, if_false, decide_false, Bool.false_eq_true, or_self]
        · rw [if_pos h1]
          simp only [h1, decide_false, Bool.false_eq_true, if_false]
      unfold GoodP at g
      by_cases cd : d < 0
      · rw [if_pos cd, if_pos cd, ev inf (.inl rfl) i3]
        unfold In64 at *
        congr 1
        by_cases c1 : inf + d < -9223372036854775808
        · rw [if_pos (by omega), if_pos c1]
        · rw [if_neg (by omega), if_neg c1]
          by_cases c2 : inf + d < lo
          · rw [if_pos (by omega), if_pos c2]
          · rw [if_neg (by omega), if_neg c2, if_neg (by omega)]
            have e : wrap64 (val + d) = val + d := by unfold wrap64; omega
            rw [e]
      · rw [if_neg cd, if_neg cd, ev sup (.inr rfl) i4]
        unfold In64 at *
        congr 1
        by_cases c1 : sup + d > 9223372036854775807
        · rw [if_pos (by omega), if_pos c1]
        · rw [if_neg (by omega), if_neg c1]
          by_cases c2 : sup + d > hi
          · rw [if_pos (by omega), if_pos c2]
          · rw [if_neg (by omega), if_neg c2, if_pos (by omega)]
            have e : wrap64 (val + d) = val + d := by unfold wrap64; omega
            rw [e]
  · rw [if_pos g, if_pos g, if_neg (by decide)]
/-- A row's key, its field; what stands at a key. -/
def rkey (r : S81) : Int × Int × Int := (r.f0.f0, r.f0.f1, r.f0.f2)
def rval (r : S81) : F6 := (r.f1.f0, r.f1.f1, r.f1.f2, r.f1.f3, r.f1.f4, r.f1.f5)
def getS : List S81 → Int × Int × Int → Option F6
  | [], _ => none
  | r :: t, j => if rkey r = j then some (rval r) else getS t j
/-- The rows are what a table holds. -/
def RowsIs (l : List S81) (M : Rowmap) : Prop := ∀ j, getS l j = M j
theorem getS_append (a b : List S81) (j : Int × Int × Int) : getS (a ++ b) j = (getS a j).or (getS b j) := by
  induction a with
  | nil => simp [getS]
  | cons r t ih =>
    simp only [List.cons_append, getS, ih]
    split <;> simp
theorem rd81_eq (l : List S81) (i : Nat) (h : i < l.length) : rd_T81 l (i : Int) = l[i] := by simp [rd_T81, h]
def tupOf (o : Option F6) : Int × Int × Int × Int × Int × Int × Bool := ((o.getD F6.zero).1, (o.getD F6.zero).2.1, (o.getD F6.zero).2.2.1, (o.getD F6.zero).2.2.2.1, (o.getD F6.zero).2.2.2.2.1, (o.getD F6.zero).2.2.2.2.2, o.isSome)
theorem get_from (l : List S81) (hl : l.length ≤ 1000) (k0 k1 k2 : Int) (n : Nat) : ∀ (k i : Nat), i + n = l.length → n < k → pledgeref18_Get.l0 k l i k0 k1 k2 = some (tupOf (getS (l.drop i) (k0, k1, k2))) := by
  induction n with
  | zero =>
    intro k i h1 h2
    obtain ⟨k, rfl⟩ : ∃ q, k = q + 1 := ⟨k - 1, by omega⟩
    have q : ((i : Int) < (l.length : Int)) = False := eq_false (by omega)
    rw [List.drop_of_length_le (by omega)]
    simp only [pledgeref18_Get.l0, q, if_false]
    rfl
  | succ n ih =>
    intro k i h1 h2
    obtain ⟨k, rfl⟩ : ∃ q, k = q + 1 := ⟨k - 1, by omega⟩
    have hil : i < l.length := by omega
    have q : ((i : Int) < (l.length : Int)) = True := eq_true (by omega)
    have q0 : (0 ≤ (i : Int)) = True := eq_true (by omega)
    have ew : wrap64 ((i : Int) + 1) = ((i + 1 : Nat) : Int) := by unfold wrap64; omega
    have ih' := ih k (i + 1) (by omega) (by omega)
    rw [List.drop_eq_getElem_cons hil]
    simp only [pledgeref18_Get.l0, q, q0, if_true, rd81_eq l i hil, ew]
    by_cases c : rkey l[i] = (k0, k1, k2)
    · have c' := c
      unfold rkey at c'
      simp only [Prod.mk.injEq] at c'
      obtain ⟨e0, e1, e2⟩ := c'
      simp only [getS, if_pos c, e0, e1, e2, beq_self_eq_true, Bool.and_self, if_true]
      rfl
    · have : (l[i].f0.f0 == k0 && (l[i].f0.f1 == k1 && l[i].f0.f2 == k2)) = false := by
        apply Bool.eq_false_iff.2
        intro z
        simp only [Bool.and_eq_true, beq_iff_eq] at z
        exact c (by unfold rkey; rw [z.1, z.2.1, z.2.2])
      simp only [getS, if_neg c, this, Bool.false_eq_true, if_false]
      exact ih'
theorem get_is {l : List S81} {M : Rowmap} (h : RowsIs l M) (hl : l.length ≤ 1000) (k0 k1 k2 : Int) (k : Nat) (hk : l.length < k) : pledgeref18_Get.f k l k0 k1 k2 = some (tupOf (M (k0, k1, k2))) := by
  have := get_from l hl k0 k1 k2 l.length k 0 (by omega) hk
  rw [List.drop_zero, h] at this
  exact this
/-- An element stays unless its key is the new one's. -/
def keepS (r x : S81) : List S81 := if rkey x = rkey r then [] else [x]
def putS (r : S81) : Bool → List S81 → List S81
  | true, [] => []
  | false, [] => [r]
  | true, x :: t => keepS r x ++ putS r true t
  | false, x :: t => if lessS x r then keepS r x ++ putS r false t else r :: (keepS r x ++ putS r true t)
where lessS (x r : S81) : Bool := if x.f0.f0 = r.f0.f0 then (if x.f0.f1 = r.f0.f1 then decide (x.f0.f2 < r.f0.f2) else decide (x.f0.f1 < r.f0.f1)) else decide (x.f0.f0 < r.f0.f0)
theorem less_is (x r : S81) : pledgeref04_Less.f x.f0.f0 x.f0.f1 x.f0.f2 r.f0.f0 r.f0.f1 r.f0.f2 = some (putS.lessS x r) := by
  unfold pledgeref04_Less.f putS.lessS
  split
  · split <;> rfl
  · rfl
theorem getS_keep (r x : S81) (j : Int × Int × Int) (hj : rkey r ≠ j) (b : List S81) : getS (keepS r x ++ b) j = if rkey x = j then some (rval x) else getS b j := by
  unfold keepS
  by_cases c : rkey x = rkey r
  · rw [if_pos c, List.nil_append, if_neg (by rw [c]; exact hj)]
  · rw [if_neg c]; rfl
theorem getS_keep_same (r x : S81) (b : List S81) : getS (keepS r x ++ b) (rkey r) = getS b (rkey r) := by
  unfold keepS
  by_cases c : rkey x = rkey r
  · rw [if_pos c]; rfl
  · rw [if_neg c]
    show (if rkey x = rkey r then some (rval x) else getS b (rkey r)) = _
    rw [if_neg c]
theorem put_get_true (r : S81) (j : Int × Int × Int) : ∀ (l : List S81), getS (putS r true l) j = if j = rkey r then none else getS l j
  | [] => by simp [putS, getS]
  | x :: t => by
    have ih := put_get_true r j t
    simp only [putS]
    by_cases c : j = rkey r
    · subst c
      rw [getS_keep_same, ih, if_pos rfl, if_pos rfl]
    · rw [getS_keep r x j (fun z => c z.symm), ih, if_neg c, if_neg c]; rfl
theorem put_get (r : S81) (j : Int × Int × Int) : ∀ (l : List S81), getS (putS r false l) j = if j = rkey r then some (rval r) else getS l j
  | [] => by
    simp only [putS, getS]
    by_cases c : j = rkey r
    · rw [if_pos c, if_pos c.symm]
    · rw [if_neg c, if_neg (fun z => c z.symm)]
  | x :: t => by
    have ih := put_get_true r j t
    have ih2 := put_get r j t
    simp only [putS]
    by_cases c : j = rkey r
    · subst c
      split
      · rw [getS_keep_same, ih2, if_pos rfl, if_pos rfl]
      · simp [getS]
    · split
      · rw [getS_keep r x j (fun z => c z.symm), ih2, if_neg c]; rfl
      · have e : getS (r :: (keepS r x ++ putS r true t)) j = getS (keepS r x ++ putS r true t) j := if_neg (fun z => c z.symm)
        rw [e, getS_keep r x j (fun z => c z.symm), ih, if_neg c]; rfl
theorem keep_len (r x : S81) : (keepS r x).length ≤ 1 := by unfold keepS; split <;> simp
theorem put_len (r : S81) : ∀ (l : List S81) (d : Bool), (putS r d l).length ≤ l.length + 1
  | [], true => by simp [putS]
  | [], false => by simp [putS]
  | x :: t, true => by
    have ih := put_len r t true
    have := keep_len r x
    simp only [putS, List.length_append, List.length_cons]; 
    have e : (putS r true t).length ≤ t.length := put_len' r t
    omega
  | x :: t, false => by
    have ih := put_len r t false
    have := keep_len r x
    have e : (putS r true t).length ≤ t.length := put_len' r t
    simp only [putS]
    split <;> simp only [List.length_append, List.length_cons] <;> omega
where put_len' (r : S81) : ∀ (l : List S81), (putS r true l).length ≤ l.length
  | [] => by simp [putS]
  | x :: t => by
    have ih := put_len' r t
    have := keep_len r x
    simp only [putS, List.length_append, List.length_cons]; omega
theorem keep_cond (r x : S81) : ((!(x.f0.f0 == r.f0.f0)) || ((!(x.f0.f1 == r.f0.f1)) || (!(x.f0.f2 == r.f0.f2)))) = !(decide (rkey x = rkey r)) := by
  unfold rkey
  by_cases e0 : x.f0.f0 = r.f0.f0 <;> by_cases e1 : x.f0.f1 = r.f0.f1 <;> by_cases e2 : x.f0.f2 = r.f0.f2 <;> simp [e0, e1, e2]
theorem put_from (l : List S81) (r : S81) (hl : l.length ≤ 1000) (n : Nat) : ∀ (k i : Nat) (acc : List S81) (d : Bool), i + n = l.length → acc.length ≤ 2 * i + 1 → 2 * n + 2 < k →
    pledgeref18_put.l0 k l acc d i r.f0.f0 r.f0.f1 r.f0.f2 r.f1.f0 r.f1.f1 r.f1.f2 r.f1.f3 r.f1.f4 r.f1.f5 = some (acc ++ putS r d (l.drop i)) := by
  induction n with
  | zero =>
    intro k i acc d h1 ha h2
    obtain ⟨k, rfl⟩ : ∃ q, k = q + 1 := ⟨k - 1, by omega⟩
    have q : ((i : Int) < (l.length : Int)) = False := eq_false (by omega)
    have qa : (acc.length < 2513169434916) = True := eq_true (by omega)
    rw [List.drop_of_length_le (by omega)]
    cases d with
    | true => simp only [pledgeref18_put.l0, q, if_false, if_true, putS, List.append_nil]
    | false => simp only [pledgeref18_put.l0, q, qa, if_false, if_true, putS, Bool.false_eq_true]
  | succ n ih =>
    intro k i acc d h1 ha h2
    obtain ⟨k, rfl⟩ : ∃ q, k = q + 2 := ⟨k - 2, by omega⟩
    have hil : i < l.length := by omega
    have q : ((i : Int) < (l.length : Int)) = True := eq_true (by omega)
    have q0 : (0 ≤ (i : Int)) = True := eq_true (by omega)
    have qa : (acc.length < 2513169434916) = True := eq_true (by omega)
    have qb : ((acc ++ [r]).length < 2513169434916) = True := eq_true (by rw [List.length_append, List.length_singleton]; omega)
    have ew : wrap64 ((i : Int) + 1) = ((i + 1 : Nat) : Int) := by unfold wrap64; omega
    have ih' := fun acc d hh => ih k (i + 1) acc d (by omega) hh (by omega)
    rw [List.drop_eq_getElem_cons hil]
    have hk := keep_len r l[i]
    have hcond := keep_cond r l[i]
    have stay : ∀ (a : List S81) (d : Bool), a.length ≤ 2 * i + 2 → (a.length < 2513169434916) = True →
        (if (!(decide (rkey l[i] = rkey r))) = true then
          (if a.length < 2513169434916 then pledgeref18_put.l0 k l (a ++ [l[i]]) d ((i + 1 : Nat) : Int) r.f0.f0 r.f0.f1 r.f0.f2 r.f1.f0 r.f1.f1 r.f1.f2 r.f1.f3 r.f1.f4 r.f1.f5 else none)
        else pledgeref18_put.l0 k l a d ((i + 1 : Nat) : Int) r.f0.f0 r.f0.f1 r.f0.f2 r.f1.f0 r.f1.f1 r.f1.f2 r.f1.f3 r.f1.f4 r.f1.f5) = some (a ++ keepS r l[i] ++ putS r d (l.drop (i + 1))) := fun a d hh hq => by
      unfold keepS
      by_cases c : rkey l[i] = rkey r
      · rw [decide_eq_true c, if_pos c, List.append_nil]
        simp only [Bool.not_true, Bool.false_eq_true, if_false]
        exact ih' a d (by omega)
      · rw [decide_eq_false c, if_neg c]
        simp only [Bool.not_false, if_true, hq]
        exact ih' _ d (by rw [List.length_append, List.length_singleton]; omega)
    have rr : rd_T81 l (i : Int) = l[i] := rd81_eq l i hil
    clear ih ih'
    cases d with
    | true =>
      have z := stay acc true (by omega) qa
      simp only [pledgeref18_put.l0, pledgeref18_put.j1, q, q0, rr, if_true, Bool.false_eq_true, if_false, hcond, ew, putS]
      rw [← List.append_assoc]
      exact z
    | false =>
      simp only [pledgeref18_put.l0, q, q0, rr, if_true, Bool.false_eq_true, if_false, less_is, Option.bind_some, putS]
      cases hls : putS.lessS l[i] r with
      | true =>
        have z := stay acc false (by omega) qa
        simp only [pledgeref18_put.j1, q, q0, rr, if_true, Bool.false_eq_true, if_false, Bool.not_true, hcond, ew]
        rw [← List.append_assoc]
        exact z
      | false =>
        have z := stay (acc ++ [r]) true (by rw [List.length_append, List.length_singleton]; omega) qb
        simp only [pledgeref18_put.j1, q, q0, qa, rr, if_true, Bool.false_eq_true, if_false, Bool.not_false, hcond, ew, Option.bind_some]
        have e : acc ++ r :: (keepS r l[i] ++ putS r true (List.drop (i + 1) l)) = acc ++ [r] ++ keepS r l[i] ++ putS r true (List.drop (i + 1) l) := by simp
        rw [e]
        exact z
theorem put_is {l : List S81} {M : Rowmap} (h : RowsIs l M) (hl : l.length ≤ 1000) (k0 k1 k2 : Int) (x : F6) (k : Nat) (hk : 2 * l.length + 2 < k) :
    ∃ r, pledgeref18_put.f k l k0 k1 k2 x.1 x.2.1 x.2.2.1 x.2.2.2.1 x.2.2.2.2.1 x.2.2.2.2.2 = some r ∧ RowsIs r (M.put (k0, k1, k2) x) ∧ r.length ≤ l.length + 1 := by
  have e := put_from l ⟨⟨k0, k1, k2⟩, ⟨x.1, x.2.1, x.2.2.1, x.2.2.2.1, x.2.2.2.2.1, x.2.2.2.2.2⟩⟩ hl l.length k 0 [] false (by omega) (by simp) hk
  refine ⟨_, e, fun j => ?_, ?_⟩
  · rw [List.nil_append, List.drop_zero, put_get]
    unfold Rowmap.put
    rw [h]
    rfl
  · rw [List.nil_append, List.drop_zero]; exact put_len _ _ _
theorem new_from (l : List S60) (hl : l.length ≤ 40) (n : Nat) : ∀ (k i : Nat) (acc : List S81) (M : Rowmap), i + n = l.length → RowsIs acc M → acc.length ≤ i → n + 200 < k →
    ∃ r, pledgeref18_New.l0 k l acc i = some r ∧ RowsIs r ((l.drop i).foldl addDecl M) ∧ r.length ≤ l.length := by
  induction n with
  | zero =>
    intro k i acc M h1 ha hal h2
    obtain ⟨k, rfl⟩ : ∃ q, k = q + 1 := ⟨k - 1, by omega⟩
    have q : ((i : Int) < (l.length : Int)) = False := eq_false (by omega)
    rw [List.drop_of_length_le (by omega)]
    simp only [pledgeref18_New.l0, q, if_false]
    exact ⟨acc, rfl, ha, by omega⟩
  | succ n ih =>
    intro k i acc M h1 ha hal h2
    obtain ⟨k, rfl⟩ : ∃ q, k = q + 1 := ⟨k - 1, by omega⟩
    have hil : i < l.length := by omega
    have q : ((i : Int) < (l.length : Int)) = True := eq_true (by omega)
    have q0 : (0 ≤ (i : Int)) = True := eq_true (by omega)
    have ew : wrap64 ((i : Int) + 1) = ((i + 1 : Nat) : Int) := by unfold wrap64; omega
    have rr : rd_T60 l (i : Int) = l[i] := by simp [rd_T60, hil]
    rw [List.drop_eq_getElem_cons hil, List.foldl_cons]
    simp only [pledgeref18_New.l0, q, q0, rr, if_true, ew]
    generalize l[i] = d
    obtain ⟨⟨k0, k1, k2⟩, a, b, c⟩ := d
    simp only [addDecl, newOf]
    unfold pledgeref17_New.f
    by_cases g : a ≤ b ∧ b ≤ c
    · rw [if_neg (by omega), if_neg (by omega), if_pos g]
      simp only [Option.bind_some, if_true]
      obtain ⟨r, hr, hR, hL⟩ := put_is ha (by omega) k0 k1 k2 (a, c, b, b, b, b) k (by omega)
      rw [hr, Option.bind_some]
      exact ih k (i + 1) r _ (by omega) hR (by omega) (by omega)
    · rw [if_neg g]
      have e : (if a > b then some (0, 0, 0, 0, 0, 0, 3) else if b > c then some (0, 0, 0, 0, 0, 0, 3) else some (a, c, b, b, b, b, 0)) = some ((0, 0, 0, 0, 0, 0, 3) : Int × Int × Int × Int × Int × Int × Int) := by
        by_cases c1 : a > b
        · rw [if_pos c1]
        · rw [if_neg c1, if_pos (by omega)]
      rw [e]
      simp only [Option.bind_some]
      rw [if_neg (by decide)]
      exact ih k (i + 1) acc M (by omega) ha (by omega) (by omega)
theorem ref_new (l : List S60) (hl : l.length ≤ 40) (k : Nat) (hk : 250 < k) : ∃ r, pledgeref18_New.f k l = some r ∧ RowsIs r (newMap l) ∧ r.length ≤ l.length := by
  have := new_from l hl l.length k 0 [] (fun _ => none) (by omega) (fun _ => rfl) (by simp) (by omega)
  rw [List.drop_zero] at this
  exact this
theorem ref_do_grant {l : List S81} {M : Rowmap} (h : RowsIs l M) (hl : l.length ≤ 100) (hW : WF M) (k0 k1 k2 d : Int) (hd : In64 d) (k : Nat) (hk : 300 < k) :
    ∃ r, pledgeref18_Do.f k l 0 k0 k1 k2 d = some (r, (stepOf grantOf M (k0, k1, k2) d).2) ∧ RowsIs r (stepOf grantOf M (k0, k1, k2) d).1 ∧ r.length ≤ l.length + 1 := by
  unfold pledgeref18_Do.f stepOf
  rw [get_is h (by omega) k0 k1 k2 k (by omega), Option.bind_some]
  unfold tupOf
  cases hM : M (k0, k1, k2) with
  | none => exact ⟨l, rfl, h, by omega⟩
  | some x =>
    have hw := hW _ _ hM
    obtain ⟨x0, x1, x2, x3, x4, x5⟩ := x
    simp only [Option.getD_some, Option.isSome_some, if_true]
    rw [ref_grant x0 x1 x2 x3 x4 x5 d ⟨hw.1.1, hw.1.2.1, hw.1.2.2.1, hw.1.2.2.2.1, hw.1.2.2.2.2.1, hw.1.2.2.2.2.2, hd⟩ k (by omega), Option.bind_some, if_neg (by decide)]
    have e2 : (grantP x0 x1 x2 x3 x4 x5 d).2.2.2.2.2.2 = (grantOf (x0, x1, x2, x3, x4, x5) d).2 := rfl
    rw [e2]
    by_cases c : (grantOf (x0, x1, x2, x3, x4, x5) d).2 = 0
    · rw [if_pos c, if_pos c]
      obtain ⟨r, hr, hR, hL⟩ := put_is h (by omega) k0 k1 k2 (grantOf (x0, x1, x2, x3, x4, x5) d).1 k (by omega)
      exact ⟨r, by
        have : pledgeref18_put.f k l k0 k1 k2 (grantP x0 x1 x2 x3 x4 x5 d).1 (grantP x0 x1 x2 x3 x4 x5 d).2.1 (grantP x0 x1 x2 x3 x4 x5 d).2.2.1 (grantP x0 x1 x2 x3 x4 x5 d).2.2.2.1 (grantP x0 x1 x2 x3 x4 x5 d).2.2.2.2.1 (grantP x0 x1 x2 x3 x4 x5 d).2.2.2.2.2.1 = some r := hr
        rw [this]; rfl, hR, hL⟩
    · rw [if_neg c, if_neg c]
      exact ⟨l, rfl, h, by omega⟩
theorem ref_dist (a b : Int) (ha : In64 a) (hb : In64 b) : pledgeref01_Dist.f a b = some (if b < a then 0 else b - a) := by
  unfold In64 at ha hb
  unfold pledgeref01_Dist.f
  by_cases h : b < a
  · rw [if_pos h, if_pos h]
  · rw [if_neg h, if_neg h]
    by_cases c2 : a ≥ 0
    · rw [if_pos c2]; congr 1; simp only [IntKind.wrap_u64]; unfold wrap64; omega
    · rw [if_neg c2]
      by_cases c3 : b < 0
      · rw [if_pos c3]; congr 1; simp only [IntKind.wrap_u64]; unfold wrap64; omega
      · rw [if_neg c3]
        unfold pledgeref01_Size.f
        rw [if_pos (by omega)]
        simp only [Option.bind_some]; congr 1; simp only [IntKind.wrap_u64]; unfold wrap64; omega
theorem ref_capped (a b : Int) (ha : In64 a) (hb : In64 b) : pledgeref32_capped.f a b = some (farV a b) := by
  unfold pledgeref32_capped.f
  rw [ref_dist a b ha hb, farV_eq ha hb, Option.bind_some]
  unfold In64 at ha hb
  by_cases h : b < a
  · rw [if_pos h, if_pos h, if_neg (by decide)]; congr 1; decide +kernel
  · rw [if_neg h, if_neg h]
    by_cases h2 : 9223372036854775808 ≤ b - a
    · rw [if_pos h2, if_pos (by omega)]
    · rw [if_neg h2, if_neg (by omega)]; congr 1; unfold wrap64; omega
theorem far_zero : farV 0 0 = 0 := by decide +kernel
theorem ref_free {l : List S81} {M : Rowmap} (h : RowsIs l M) (hl : l.length ≤ 100) (hW : WF M) (k0 k1 k2 : Int) (k : Nat) (hk : 200 < k) : pledgeref32_Free.f k l k0 k1 k2 = some (freeAt M (k0, k1, k2)) := by
  unfold pledgeref32_Free.f freeAt
  rw [get_is h (by omega) k0 k1 k2 k (by omega), Option.bind_some]
  unfold tupOf
  cases hM : M (k0, k1, k2) with
  | none =>
    simp only [Option.getD_none, F6.zero, Option.isSome_none, Bool.false_eq_true, if_false, far_zero]
  | some x =>
    have hw := hW _ _ hM
    obtain ⟨x0, x1, x2, x3, x4, x5⟩ := x
    simp only [Option.getD_some, Option.isSome_some, if_true]
    rw [ref_capped _ _ hw.1.1 hw.1.2.2.2.1]; rfl
theorem ref_room {l : List S81} {M : Rowmap} (h : RowsIs l M) (hl : l.length ≤ 100) (hW : WF M) (k0 k1 k2 : Int) (k : Nat) (hk : 200 < k) : pledgeref32_Room.f k l k0 k1 k2 = some (roomAt M (k0, k1, k2)) := by
  unfold pledgeref32_Room.f roomAt
  rw [get_is h (by omega) k0 k1 k2 k (by omega), Option.bind_some]
  unfold tupOf
  cases hM : M (k0, k1, k2) with
  | none =>
    simp only [Option.getD_none, F6.zero, Option.isSome_none, Bool.false_eq_true, if_false, far_zero]
  | some x =>
    have hw := hW _ _ hM
    obtain ⟨x0, x1, x2, x3, x4, x5⟩ := x
    simp only [Option.getD_some, Option.isSome_some, if_true]
    rw [ref_capped _ _ hw.1.2.2.2.2.1 hw.1.2.1]; rfl
end Go.Proofs.Ytnipjfciphgfjaa.V
/- The walk of what the document sees of an article. -/
namespace Go.Proofs.Ytnipjfciphgfjaa.V
open Go.RowKit Go.Proofs.Ytnipjfciphgfjaa.G Go.Proofs.YtnipjfciphgfjaaW.PrintWords Go.Proofs.YtnipjfciphgfjaaW.PrintLast Go.Proofs.YtnipjfciphgfjaaW.PrintMore
set_option linter.unusedVariables false
set_option linter.unusedSimpArgs false
set_option maxHeartbeats 2000000
set_option maxRecDepth 100000
/-- The document's rows say what a table holds. -/
def RowsSay (K : Nat) (l : List S81) (M : Rowmap) : Prop := ∀ k0 k1 k2, U8 k0 → U8 k1 → U8 k2 → pledgeref18_Get.f K l k0 k1 k2 =
  some (((M (k0, k1, k2)).getD F6.zero).1, ((M (k0, k1, k2)).getD F6.zero).2.1, ((M (k0, k1, k2)).getD F6.zero).2.2.1, ((M (k0, k1, k2)).getD F6.zero).2.2.2.1, ((M (k0, k1, k2)).getD F6.zero).2.2.2.2.1, ((M (k0, k1, k2)).getD F6.zero).2.2.2.2.2, (M (k0, k1, k2)).isSome)
theorem most_eq (a c : Int) (h : (if (4 : Int) < a then 4 else a) = c) : pledgeref32_most.f a = some c := by
  unfold pledgeref32_most.f
  by_cases h4 : (4 : Int) < a
  · rw [if_pos h4] at h; rw [if_pos h4, h]
  · rw [if_neg h4] at h; rw [if_neg h4, h]
theorem ref_Spans.calls (w : World) (K : Nat) (A : Option Addr) (n cp : Nat) (l : List S81) (M : Rowmap) (skus wares s : Int) (hl : Kd.C k81 w A l.length l) (hcp : l.length ≤ cp) (hM : RowsSay K l M) (us : U8 s) (hskus : In64 skus) (hwares : In64 wares) :
    Calls Try.prog 14 #[.agg (cfg skus wares), .slice A l.length cp, .int .u8 s] w fun e w' => ∃ v, e = .returned v ∧ Kd.R k49 49 w' w.heap.size (fun _ => True) v (spansOf M skus wares s) ∧ Below w.heap.size w w' := by
  have HL := Aside0.mk hl
  have HCP := Aside0.mk hcp
  have HM := Aside0.mk hM
  have HB := Aside0.mk (Below.refl w.heap.size w)
  have U := Aside0.mk us
  have us' := u8_in us
  obtain ⟨a, ha⟩ : ∃ a, (if (4 : Int) < skus then 4 else skus) = a := ⟨_, rfl⟩
  obtain ⟨c, hc⟩ : ∃ c, (if (4 : Int) < wares then 4 else wares) = c := ⟨_, rfl⟩
  have hws : wrap64 s = s := by unfold wrap64; omega
  unfold spansOf most4 mn
  rw [ha, hc]
  have hc4 : c ≤ 4 := by rw [← hc]; split <;> omega
  have HA := Aside0.mk (most_eq skus a ha)
  have HCM := Aside0.mk (most_eq wares c hc)
  clear hl hcp hM us ha hc
  by_cases hsa : a ≤ s
  · rw [if_pos hsa]
    have d1 : decide (a ≤ s) = true := decide_eq_true hsa
    go_enter Try.func14, Try.ntmps14
    go_wp2_with (go_at_call 36; ((with_reducible refine (pledgeref32_most.calls _ _ _ HA.out).mono ?_); rintro e w1 ⟨rfl, nd, rfl⟩))
    go_ret
    exact ⟨_, rfl, Kd.R_nil _ _ _ _ _, pw_below_drewN (below_alloc (Below.refl _ _) _) _⟩
  · rw [if_neg hsa]
    have d1 : decide (a ≤ s) = false := decide_eq_false hsa
    go_enter Try.func14, Try.ntmps14
    go_wp2_with (go_at_call 36; ((with_reducible refine (pledgeref32_most.calls _ _ _ HA.out).mono ?_); rintro e w1 ⟨rfl, nd, rfl⟩))
    go_loopg [7, 8] c.toNat (fun kq v7 v8 w' => ∃ i : Nat, v8 = .int .i64 (i : Int) ∧ Aside0 (kq + i = c.toNat) ∧ Aside0 (Kd.R k49 49 w' w.heap.size (fun _ => True) v7 (seens M s i)) ∧ Aside0 (w'.heap[w.heap.size]? = some (.cells (cfg skus wares) 44 (0, 0))) ∧ Aside0 (Below w.heap.size w w'))
    case atStart => exact ⟨0, rfl, ⟨rfl⟩, ⟨Kd.R_nil _ _ _ _ _⟩, ⟨blk_drewN (blk_new _ _) _⟩, ⟨pw_below_drewN (below_alloc (Below.refl _ _) _) _⟩⟩
    case round =>
      obtain ⟨i, rfl, HI, HO, HK, HB1⟩ := hrel
      have kc : wr.cell? ⟨w.heap.size, 1, none⟩ = some (.int .i64 wares) := blk_cell HK.out 1
      have kf := blk_frozen HK.out 1
      cases gk with
      | zero =>
        have hi := HI.out
        have c2 : decide ((i : Int) < c) = false := decide_eq_false (by omega)
        go_wp2_with (go_at_call 36; ((with_reducible refine (pledgeref32_most.calls _ _ _ HCM.out).mono ?_); rintro e w1 ⟨rfl, nd, rfl⟩))
        go_ret
        rw [show c.toNat = i by omega]
        exact ⟨_, rfl, Kd.R_drewN HO.out _, pw_below_drewN HB1.out _⟩
      | succ k1 =>
        have hi := HI.out
        have c2 : decide ((i : Int) < c) = true := decide_eq_true (by omega)
        have hi8 : (i : Int) % 256 = (i : Int) := by omega
        have ui : U8 (i : Int) := u8_iff.2 (by omega)
        have hsn := seens_succ M s i
        obtain ⟨x0, x1, x2, x3, x4, x5, hx⟩ : ∃ x0 x1 x2 x3 x4 x5, (M (1, s, (i : Int))).getD F6.zero = (x0, x1, x2, x3, x4, x5) := ⟨_, _, _, _, _, _, rfl⟩
        rw [seen_open M s i x0 x1 x2 x3 x4 x5 hx] at hsn
        have HSN := Aside0.mk hsn
        have hg := HM.out 1 s i (u8_iff.2 (by decide)) U.out ui
        rw [hx] at hg
        generalize (M (1, s, (i : Int))).isSome = sm at *
        have HG := Aside0.mk hg
        clear hg ui hsn hx
        go_wp2_with (first
          | (go_at_call 36; ((with_reducible refine (pledgeref32_most.calls _ _ _ HCM.out).mono ?_); rintro e w1 ⟨rfl, nd, rfl⟩))
          | (go_at_call 31; ((with_reducible refine (pledgeref18_Get.calls K A cp l _ _ _ _ _ _ _ _ _ _ _ (Kd.C_drewN (Kd.C_below HL.out HB1.out) _) HCP.out HG.out).mono ?_); rintro e w2 ⟨rfl, hb⟩; replace hb := below_step (pw_below_drewN (Below.refl _ _) _) hb))
          | ((with_reducible refine gate_builtin (b := .append) (xs := #[.tmp 34, .tmp 42]) rfl ?_); at_builtin; refine Kd.R_append k49 (w0 := w) w.heap.size rfl (.tmp 34) (.tmp 42) 45 49 (.agg #[.int .i64 0, .int .i64 0, .int .i64 0]) 24 rfl Try.underlying45 info49 rfl (by decide) (by decide) u7 (seens M s i) ⟨x3, x5, x4⟩ [.int .i64 x3, .int .i64 x5, .int .i64 x4] (fun _ => True) (fun _ => False) rfl ?aX (k49_mkM _ _ _ ⟨x3, x5, x4⟩) (fun _ hk => hk.elim) (fun _ _ => trivial) (Kd.R_alloc (Kd.R_below HO.out hb) _) (below_alloc (below_step HB1.out hb) _) (below_size (below_alloc (below_step HB1.out hb) _)) ?aL ?_; (case aX => (show Value.slice (some ⟨w2.heap.size + 1, 0, none⟩) 1 1 = _; simp)); (case aL => (simp [seens]; omega)); intro v1 w3 ho hb3 hg3 _))
        go_roundg k1
        case measure => omega
        case rel => exact ⟨i + 1, by simp, ⟨by omega⟩, ⟨by rw [HSN.out]; exact ho⟩, ⟨blk_grown (blk_alloc (blk_below HK.out hb) _) hg3 (Kd.R_ne HO.out HK.out (by decide))⟩, ⟨hb3⟩⟩
end Go.Proofs.Ytnipjfciphgfjaa.V
/- The walk of what the document says may be taken of all articles in all warehouses. -/
namespace Go.Proofs.Ytnipjfciphgfjaa.V
open Go.RowKit Go.Proofs.Ytnipjfciphgfjaa.G Go.Proofs.YtnipjfciphgfjaaW.PrintWords Go.Proofs.YtnipjfciphgfjaaW.PrintLast Go.Proofs.YtnipjfciphgfjaaW.PrintMore
set_option linter.unusedVariables false
set_option linter.unusedSimpArgs false
set_option maxHeartbeats 2000000
set_option maxRecDepth 100000
theorem freesTo_skips (M : Rowmap) (skus wares : Int) (n m : Nat) (hnm : n ≤ m) (h0 : ∀ p, n ≤ p → p < m → freeOf M skus wares p = 0) : grid (freesTo M skus wares n) = grid (freesTo M skus wares m) := by
  refine grid_congr fun p _ => ?_
  unfold freesTo
  by_cases h2 : p < n
  · rw [if_pos h2, if_pos (by omega)]
  · by_cases h3 : p < m
    · rw [if_neg h2, if_pos h3, h0 p (by omega) h3]
    · rw [if_neg h2, if_neg h3]
theorem mn4_lt {a c : Int} (h : (if (4 : Int) < a then 4 else a) = c) (i : Nat) (hi : i < 4) : ((i : Int) < c ↔ (i : Int) < a) := by
  split at h <;> omega
theorem ref_Frees.calls (w : World) (K : Nat) (A : Option Addr) (cp : Nat) (l : List S81) (M : Rowmap) (skus wares : Int) (hl : Kd.C k81 w A l.length l) (hcp : l.length ≤ cp)
    (hM : ∀ s k : Nat, s < 4 → k < 4 → pledgeref32_Free.f K l 1 (s : Int) (k : Int) = some (freeAt M (1, (s : Int), (k : Int)))) :
    Calls Try.prog 18 #[.agg (cfg skus wares), .slice A l.length cp] w fun e w' => e = .returned (.agg (grid (freesTo M skus wares 16))) ∧ Below w.heap.size w w' := by
  have HL := Aside0.mk hl
  have HCP := Aside0.mk hcp
  have HM := Aside0.mk hM
  obtain ⟨a, ha⟩ : ∃ a, (if (4 : Int) < skus then 4 else skus) = a := ⟨_, rfl⟩
  obtain ⟨c, hc⟩ : ∃ c, (if (4 : Int) < wares then 4 else wares) = c := ⟨_, rfl⟩
  have hc4 : c ≤ 4 := by rw [← hc]; split <;> omega
  have ha4 : a ≤ 4 := by rw [← ha]; split <;> omega
  have HA := Aside0.mk (most_eq skus a ha)
  have HCM := Aside0.mk (most_eq wares c hc)
  have HAL := Aside0.mk (mn4_lt ha)
  have HCL := Aside0.mk (mn4_lt hc)
  clear hl hcp hM ha hc
  obtain ⟨F, hFr⟩ : ∃ F, freesTo M skus wares 16 = F := ⟨_, rfl⟩
  rw [hFr]
  have HFR := Aside0.mk hFr
  clear hFr
  go_enter Try.func18, Try.ntmps18
  go_wp2_with (fail)
  go_loopg [6] a.toNat (fun kq v6 w' => ∃ s : Nat, v6 = .int .i64 (s : Int) ∧ Aside0 (kq + s = a.toNat) ∧ Aside0 (w'.heap[w.heap.size + 1 + 1]? = some (.cells (grid (freesTo M skus wares (s * 4))) 52 (0, 0))) ∧ Aside0 (w'.heap[w.heap.size + 1]? = some (.cells (grid fun _ => 0) 52 (0, 0))) ∧ Aside0 (w'.heap[w.heap.size]? = some (.cells (cfg skus wares) 44 (0, 0))) ∧ Aside0 (Below w.heap.size w w'))
  case atStart => exact ⟨0, rfl, ⟨rfl⟩, ⟨by rw [Nat.zero_mul, freesTo_zero]; exact blk_new2 _ _ _ _⟩, ⟨blk_alloc (blk_new1 _ _ _) _⟩, ⟨blk_alloc (blk_alloc (blk_new _ _) _) _⟩, ⟨below_alloc (below_alloc (below_alloc (Below.refl _ _) _) _) _⟩⟩
  case round =>
    obtain ⟨s, rfl, HI, HG, HZ, HC, HB⟩ := hrel
    cases gk with
    | zero =>
      have hi := HI.out
      have c2 : decide ((s : Int) < a) = false := decide_eq_false (by omega)
      have hskip : grid (freesTo M skus wares (s * 4)) = grid (freesTo M skus wares 16) := freesTo_skips M skus wares _ _ (by omega) (fun p h1 h2 => by
        unfold freeOf
        rw [if_neg]
        rintro ⟨z, _⟩
        have := (HAL.out (p / 4) (by omega)).2 z
        omega)
      rw [hskip, HFR.out] at HG
      clear hskip hi
      have kc0 : wr.cell? ⟨w.heap.size, 0, none⟩ = some (.int .i64 skus) := blk_cell HC.out 0
      have q0 : wr.cell? ⟨w.heap.size + 1 + 1, 0, none⟩ = some (.int .i64 (F 0)) := blk_cell HG.out 0
      have q1 : wr.cell? ⟨w.heap.size + 1 + 1, 1, none⟩ = some (.int .i64 (F 1)) := blk_cell HG.out 1
      have q2 : wr.cell? ⟨w.heap.size + 1 + 1, 2, none⟩ = some (.int .i64 (F 2)) := blk_cell HG.out 2
      have q3 : wr.cell? ⟨w.heap.size + 1 + 1, 3, none⟩ = some (.int .i64 (F 3)) := blk_cell HG.out 3
      have q4 : wr.cell? ⟨w.heap.size + 1 + 1, 4, none⟩ = some (.int .i64 (F 4)) := blk_cell HG.out 4
      have q5 : wr.cell? ⟨w.heap.size + 1 + 1, 5, none⟩ = some (.int .i64 (F 5)) := blk_cell HG.out 5
      have q6 : wr.cell? ⟨w.heap.size + 1 + 1, 6, none⟩ = some (.int .i64 (F 6)) := blk_cell HG.out 6
      have q7 : wr.cell? ⟨w.heap.size + 1 + 1, 7, none⟩ = some (.int .i64 (F 7)) := blk_cell HG.out 7
      have q8 : wr.cell? ⟨w.heap.size + 1 + 1, 8, none⟩ = some (.int .i64 (F 8)) := blk_cell HG.out 8
      have q9 : wr.cell? ⟨w.heap.size + 1 + 1, 9, none⟩ = some (.int .i64 (F 9)) := blk_cell HG.out 9
      have q10 : wr.cell? ⟨w.heap.size + 1 + 1, 10, none⟩ = some (.int .i64 (F 10)) := blk_cell HG.out 10
      have q11 : wr.cell? ⟨w.heap.size + 1 + 1, 11, none⟩ = some (.int .i64 (F 11)) := blk_cell HG.out 11
      have q12 : wr.cell? ⟨w.heap.size + 1 + 1, 12, none⟩ = some (.int .i64 (F 12)) := blk_cell HG.out 12
      have q13 : wr.cell? ⟨w.heap.size + 1 + 1, 13, none⟩ = some (.int .i64 (F 13)) := blk_cell HG.out 13
      have q14 : wr.cell? ⟨w.heap.size + 1 + 1, 14, none⟩ = some (.int .i64 (F 14)) := blk_cell HG.out 14
      have q15 : wr.cell? ⟨w.heap.size + 1 + 1, 15, none⟩ = some (.int .i64 (F 15)) := blk_cell HG.out 15
      have z0 : wr.cell? ⟨w.heap.size + 1, 0, none⟩ = some (.int .i64 0) := blk_cell HZ.out 0
      have fz0 : wr.frozen? ⟨w.heap.size + 1, 0, none⟩ = false := blk_frozen HZ.out 0
      have z1 : wr.cell? ⟨w.heap.size + 1, 1, none⟩ = some (.int .i64 0) := blk_cell HZ.out 1
      have fz1 : wr.frozen? ⟨w.heap.size + 1, 1, none⟩ = false := blk_frozen HZ.out 1
      have z2 : wr.cell? ⟨w.heap.size + 1, 2, none⟩ = some (.int .i64 0) := blk_cell HZ.out 2
      have fz2 : wr.frozen? ⟨w.heap.size + 1, 2, none⟩ = false := blk_frozen HZ.out 2
      have z3 : wr.cell? ⟨w.heap.size + 1, 3, none⟩ = some (.int .i64 0) := blk_cell HZ.out 3
      have fz3 : wr.frozen? ⟨w.heap.size + 1, 3, none⟩ = false := blk_frozen HZ.out 3
      have z4 : wr.cell? ⟨w.heap.size + 1, 4, none⟩ = some (.int .i64 0) := blk_cell HZ.out 4
      have fz4 : wr.frozen? ⟨w.heap.size + 1, 4, none⟩ = false := blk_frozen HZ.out 4
      have z5 : wr.cell? ⟨w.heap.size + 1, 5, none⟩ = some (.int .i64 0) := blk_cell HZ.out 5
      have fz5 : wr.frozen? ⟨w.heap.size + 1, 5, none⟩ = false := blk_frozen HZ.out 5
      have z6 : wr.cell? ⟨w.heap.size + 1, 6, none⟩ = some (.int .i64 0) := blk_cell HZ.out 6
      have fz6 : wr.frozen? ⟨w.heap.size + 1, 6, none⟩ = false := blk_frozen HZ.out 6
      have z7 : wr.cell? ⟨w.heap.size + 1, 7, none⟩ = some (.int .i64 0) := blk_cell HZ.out 7
      have fz7 : wr.frozen? ⟨w.heap.size + 1, 7, none⟩ = false := blk_frozen HZ.out 7
      have z8 : wr.cell? ⟨w.heap.size + 1, 8, none⟩ = some (.int .i64 0) := blk_cell HZ.out 8
      have fz8 : wr.frozen? ⟨w.heap.size + 1, 8, none⟩ = false := blk_frozen HZ.out 8
      have z9 : wr.cell? ⟨w.heap.size + 1, 9, none⟩ = some (.int .i64 0) := blk_cell HZ.out 9
      have fz9 : wr.frozen? ⟨w.heap.size + 1, 9, none⟩ = false := blk_frozen HZ.out 9
      have z10 : wr.cell? ⟨w.heap.size + 1, 10, none⟩ = some (.int .i64 0) := blk_cell HZ.out 10
      have fz10 : wr.frozen? ⟨w.heap.size + 1, 10, none⟩ = false := blk_frozen HZ.out 10
      have z11 : wr.cell? ⟨w.heap.size + 1, 11, none⟩ = some (.int .i64 0) := blk_cell HZ.out 11
      have fz11 : wr.frozen? ⟨w.heap.size + 1, 11, none⟩ = false := blk_frozen HZ.out 11
      have z12 : wr.cell? ⟨w.heap.size + 1, 12, none⟩ = some (.int .i64 0) := blk_cell HZ.out 12
      have fz12 : wr.frozen? ⟨w.heap.size + 1, 12, none⟩ = false := blk_frozen HZ.out 12
      have z13 : wr.cell? ⟨w.heap.size + 1, 13, none⟩ = some (.int .i64 0) := blk_cell HZ.out 13
      have fz13 : wr.frozen? ⟨w.heap.size + 1, 13, none⟩ = false := blk_frozen HZ.out 13
      have z14 : wr.cell? ⟨w.heap.size + 1, 14, none⟩ = some (.int .i64 0) := blk_cell HZ.out 14
      have fz14 : wr.frozen? ⟨w.heap.size + 1, 14, none⟩ = false := blk_frozen HZ.out 14
      have z15 : wr.cell? ⟨w.heap.size + 1, 15, none⟩ = some (.int .i64 0) := blk_cell HZ.out 15
      have fz15 : wr.frozen? ⟨w.heap.size + 1, 15, none⟩ = false := blk_frozen HZ.out 15
      go_wp2_with (go_at_call 36; ((with_reducible refine (pledgeref32_most.calls _ _ _ HA.out).mono ?_); rintro e w1 ⟨rfl, nd, rfl⟩))
      have hz := grid_store (F := F) (blk_drewN HZ.out nd)
      refine bodyPost_ret (results_cell_row rfl _ _ (w.heap.size + 1) 52 (grid F) (0, 0) _ rfl hz Try.underlying52 rfl (by kernel_rfl)) rfl ⟨rfl, ?_⟩
      exact (below_set (below_set (below_set (below_set (below_set (below_set (below_set (below_set (below_set (below_set (below_set (below_set (below_set (below_set (below_set (below_set (pw_below_drewN HB.out nd) (Nat.le_succ _)) (Nat.le_succ _)) (Nat.le_succ _)) (Nat.le_succ _)) (Nat.le_succ _)) (Nat.le_succ _)) (Nat.le_succ _)) (Nat.le_succ _)) (Nat.le_succ _)) (Nat.le_succ _)) (Nat.le_succ _)) (Nat.le_succ _)) (Nat.le_succ _)) (Nat.le_succ _)) (Nat.le_succ _)) (Nat.le_succ _))
    | succ k1 =>
      have hi := HI.out
      have c2 : decide ((s : Int) < a) = true := decide_eq_true (by omega)
      have hs4 : s < 4 := by omega
      have hsk : (s : Int) < skus := (HAL.out s hs4).1 (by omega)
      have kc0 : wr.cell? ⟨w.heap.size, 0, none⟩ = some (.int .i64 skus) := blk_cell HC.out 0
      go_wp2_with (go_at_call 36; ((with_reducible refine (pledgeref32_most.calls _ _ _ HA.out).mono ?_); rintro e w1 ⟨rfl, nd, rfl⟩))
      go_loopg [7] c.toNat (fun kq v7 w' => ∃ k : Nat, v7 = .int .i64 (k : Int) ∧ Aside0 (kq + k = c.toNat) ∧ Aside0 (w'.heap[w.heap.size + 1 + 1]? = some (.cells (grid (freesTo M skus wares (s * 4 + k))) 52 (0, 0))) ∧ Aside0 (w'.heap[w.heap.size + 1]? = some (.cells (grid fun _ => 0) 52 (0, 0))) ∧ Aside0 (w'.heap[w.heap.size]? = some (.cells (cfg skus wares) 44 (0, 0))) ∧ Aside0 (Below w.heap.size w w'))
      case atStart => exact ⟨0, rfl, ⟨by omega⟩, ⟨blk_drewN HG.out nd⟩, ⟨blk_drewN HZ.out nd⟩, ⟨blk_drewN HC.out nd⟩, ⟨pw_below_drewN HB.out nd⟩⟩
      case round =>
        clear HG HZ HC HB kc0
        obtain ⟨k, rfl, HJ, HG, HZ, HC, HB⟩ := hrel
        cases gk with
        | zero =>
          have hj := HJ.out
          have c3 : decide ((k : Int) < c) = false := decide_eq_false (by omega)
          have kc1 : wr.cell? ⟨w.heap.size, 1, none⟩ = some (.int .i64 wares) := blk_cell HC.out 1
          have hskip : grid (freesTo M skus wares (s * 4 + k)) = grid (freesTo M skus wares ((s + 1) * 4)) := freesTo_skips M skus wares _ _ (by omega) (fun p h1 h2 => by
            unfold freeOf
            rw [if_neg]
            rintro ⟨_, z⟩
            have := (HCL.out (p % 4) (by omega)).2 z
            omega)
          rw [hskip] at HG
          clear hskip
          go_wp2_with (go_at_call 36; ((with_reducible refine (pledgeref32_most.calls _ _ _ HCM.out).mono ?_); rintro e w1 ⟨rfl, nd, rfl⟩))
          go_roundg k1
          case measure => omega
          case rel => exact ⟨s + 1, by simp, ⟨by omega⟩, ⟨blk_drewN HG.out _⟩, ⟨blk_drewN HZ.out _⟩, ⟨blk_drewN HC.out _⟩, ⟨pw_below_drewN HB.out _⟩⟩
        | succ k2 =>
          have hj := HJ.out
          have c3 : decide ((k : Int) < c) = true := decide_eq_true (by omega)
          have hk4 : k < 4 := by omega
          have hkw : (k : Int) < wares := (HCL.out k hk4).1 (by omega)
          have kc1 : wr.cell? ⟨w.heap.size, 1, none⟩ = some (.int .i64 wares) := blk_cell HC.out 1
          have hf0 : (s * 4 + k) / 4 = s := by omega
          have hf1 : (s * 4 + k) % 4 = k := by omega
          have hv : freeOf M skus wares (s * 4 + k) = freeAt M (1, (s : Int), (k : Int)) := by unfold freeOf; rw [hf0, hf1, if_pos ⟨hsk, hkw⟩]
          have HS := Aside0.mk (freesTo_set M skus wares (s * 4 + k) (by omega))
          rw [hv] at HS
          have HM1 := Aside0.mk (HM.out s k hs4 hk4)
          have HJK : Aside0 (s * 4 + k < 16) := ⟨by omega⟩
          have i4 : (s : Int) < 4 := by omega
          have j4 : (k : Int) < 4 := by omega
          have i8 : (s : Int) % 256 = (s : Int) := by omega
          have j8 : (k : Int) % 256 = (k : Int) := by omega
          have i9 : IntKind.u8.wrap (s : Int) = (s : Int) := by rw [IntKind.wrap_u8]; omega
          have j9 : IntKind.u8.wrap (k : Int) = (k : Int) := by rw [IntKind.wrap_u8]; omega
          clear hv hf0 hf1 hi hj
          go_wp2_with (go_at_call 36; ((with_reducible refine (pledgeref32_most.calls _ _ _ HCM.out).mono ?_); rintro e w1 ⟨rfl, nd, rfl⟩))
          have HG1 := Aside0.mk (blk_drewN HG.out nd)
          have HZ1 := Aside0.mk (blk_drewN HZ.out nd)
          have HC1 := Aside0.mk (blk_drewN HC.out nd)
          have HB1 := Aside0.mk (pw_below_drewN HB.out nd)
          clear HG HZ HC HB kc1
          generalize wr.drewN nd = w1 at HG1 HZ1 HC1 HB1 ⊢
          go_region_with (go_at_call 15; ((with_reducible refine (pledgeref32_Free.calls K A cp l _ _ _ _ _ (Kd.C_drew (Kd.C_below HL.out HB1.out)) HCP.out HM1.out).mono ?_); rintro e w2 ⟨rfl, hb2⟩; have hG2 := Aside0.mk (blk_below (blk_drew HG1.out) hb2); have hcell := (blk_cell hG2.out (s * 4 + k)).trans (grid_get _ _ HJK.out); have hfroz := blk_frozen hG2.out (s * 4 + k)))
          have h3 : Below w1.heap.size w1 w2 := below_step (below_drew1 (Below.refl _ _)) hb2
          have HG3 := Aside0.mk (blk_put hG2.out (s * 4 + k) (.int .i64 (freeAt M (1, (s : Int), (k : Int)))) HS.out)
          have HZ3 := Aside0.mk ((Below.heap_setCell w2 ⟨w.heap.size + 1 + 1, s * 4 + k, none⟩ (.int .i64 (freeAt M (1, (s : Int), (k : Int)))) (w.heap.size + 1) (by simp)).trans (blk_below HZ1.out h3))
          have HC3 := Aside0.mk ((Below.heap_setCell w2 ⟨w.heap.size + 1 + 1, s * 4 + k, none⟩ (.int .i64 (freeAt M (1, (s : Int), (k : Int)))) w.heap.size (by simp; omega)).trans (blk_below HC1.out h3))
          have HB3 := Aside0.mk (below_set (g := w.heap.size + 1 + 1) (j := s * 4 + k) (v := .int .i64 (freeAt M (1, (s : Int), (k : Int)))) (below_step HB1.out h3) (by omega))
          go_wp2
          go_roundg k2
          case measure => omega
          case rel => exact ⟨k + 1, by simp, ⟨by have := HJ.out; omega⟩, HG3, HZ3, HC3, HB3⟩
end Go.Proofs.Ytnipjfciphgfjaa.V
/- The walk of the chapter's example. -/
namespace Go.Proofs.Ytnipjfciphgfjaa.V
open Go.RowKit Go.Proofs.Ytnipjfciphgfjaa.G Go.Proofs.YtnipjfciphgfjaaW.PrintWords Go.Proofs.YtnipjfciphgfjaaW.PrintLast Go.Proofs.YtnipjfciphgfjaaW.PrintMore
set_option linter.unusedVariables false
set_option linter.unusedSimpArgs false
set_option maxHeartbeats 2000000
set_option maxRecDepth 100000
theorem eqA49 (d : Nat) (w : World) (x0 y0 : Int) (x1 y1 : Int) (x2 y2 : Int) :
    (Op.equalIn (d + 2) 49 (.agg #[.int .i64 x0, .int .i64 x1, .int .i64 x2]) (.agg #[.int .i64 y0, .int .i64 y1, .int .i64 y2])).run Try.prog w = .ok (x0 == y0 && (x1 == y1 && (x2 == y2))) w := by
  refine eqA_of Try.underlying49 (by kernel_rfl) ?_
  refine eqf_cons (by rfl) (by go_simp; rfl) (by go_simp; rfl) (by go_simp) ?_
  refine eqf_cons (by rfl) (by go_simp; rfl) (by go_simp; rfl) (by go_simp) ?_
  exact eqf_last (by rfl) (by go_simp; rfl) (by go_simp; rfl) (by go_simp)
attribute [local go_sem high] eqA49
theorem one_row {α : Type} {d : Kd α} {w : World} {b : Nat} {cs : Array Value} {t : TypeId} {x : α} (h : w.heap[b]? = some (.cells cs t (0, 0))) (hK : d.K w x cs.toList) : d.C w (some ⟨b, 0, none⟩) 1 [x] := by
  refine ⟨rfl, by decide, fun _ => ⟨⟨b, 0, none⟩, rfl, fun j p hj => ?_⟩⟩
  cases j with
  | zero =>
    obtain rfl : x = p := by simpa using hj
    refine ⟨cs.toList, d.K_len hK, hK, fun i u hu => ?_⟩
    have : (⟨b, 0, none⟩ : Addr).add (0 * d.sz + i) = ⟨b, i, none⟩ := by
      simp [Addr.add, Nat.zero_mul]; exact fun h => h.symm
    rw [this]
    exact (blk_cell h i).trans (by simpa using hu)
  | succ j => simp at hj
def d0 : S60 := ⟨⟨1, 0, 0⟩, 0, 5, 9⟩
def M1 : Rowmap := (stepOf grantOf (newMap [d0]) (1, 0, 0) (-2)).1
theorem M1_is : M1 (1, 0, 0) = some (0, 9, 5, 3, 5, 3) := by decide +kernel
theorem M1_code : (stepOf grantOf (newMap [d0]) (1, 0, 0) (-2)).2 = 0 := by decide +kernel
theorem M1_free : farV 0 3 = 3 := by decide +kernel
theorem M1_room : farV 5 9 = 4 := by decide +kernel
theorem M1_seen : seen M1 0 0 = ⟨3, 3, 5⟩ := by unfold seen; rw [M1_is]; rfl
theorem M1_spans : spansOf M1 1 1 0 = [⟨3, 3, 5⟩] := by
  have e : spansOf M1 1 1 0 = seens M1 0 1 := rfl
  rw [e]
  show [seen M1 0 0] = _
  rw [M1_seen]
theorem M0_wf : WF (newMap [d0]) := WF.new _ (by
  intro d hd
  obtain rfl := List.mem_singleton.1 hd
  unfold DIn In64 d0; simp)
/-- A fund is made: three new blocks, and no elder one is turned. -/
theorem fund_New'.calls (w : World) (A : Option Addr) (c : Nat) (l : List S60) (hr : Kd.C k60 w A l.length l) (hc : l.length ≤ c) (hl : l.length ≤ 40) (hk : ∀ d ∈ l, DKey d) :
    Calls Try.prog 7 #[.slice A l.length c] w fun e w' => ∃ f t b, e = .returned (.pointer (some ⟨f, 0, none⟩)) ∧ Below w.heap.size w w' ∧ IsFund w' f t b l.length (newMap l) ∧ w.heap.size ≤ b :=
  (fund_New.calls w A c l hr hc hl hk).mono fun e w' ⟨h1, h2, h3⟩ => ⟨_, _, _, h1, h2, h3, Nat.le_refl _⟩
theorem new_d0 (w : World) (b : Nat) (h : w.heap[b]? = some (.cells #[.int .u8 1, .int .u8 0, .int .u8 0, .int .i64 0, .int .i64 5, .int .i64 9] 60 (0, 0))) :
    Calls Try.prog 7 #[.slice (some ⟨b, 0, none⟩) 1 1] w fun e w' => ∃ f t c, e = .returned (.pointer (some ⟨f, 0, none⟩)) ∧ Below w.heap.size w w' ∧ IsFund w' f t c 1 (newMap [d0]) ∧ w.heap.size ≤ c :=
  fund_New'.calls w _ 1 [d0] (one_row h (k60_mk w d0)) (Nat.le_refl _) (by decide) (by
    intro d hd
    obtain rfl := List.mem_singleton.1 hd
    exact ⟨u8_iff.2 (by decide), u8_iff.2 (by decide), u8_iff.2 (by decide)⟩)
theorem grant_d0 (w : World) (f t b : Nat) (h : IsFund w f t b 1 (newMap [d0])) :
    Calls Try.prog 8 #[.pointer (some ⟨f, 0, none⟩), .agg #[.int .u8 1, .int .u8 0, .int .u8 0, .int .i64 (-2)]] w fun e w' => e = .returned (.int .i64 0) ∧ w.grownBy w' (some b) ∧ IsFund w' f t b 2 M1 := by
  have z := fund_Grant.calls grantOf w f t b 1 (newMap [d0]) 1 0 0 (-2) h (by decide) (u8_iff.2 (by decide)) (u8_iff.2 (by decide)) (u8_iff.2 (by decide)) (fun x hx => makes_grant x _ (M0_wf _ x hx).1 (by decide))
  rw [M1_code] at z
  exact z
theorem free_d0 (w : World) (f t b : Nat) (h : IsFund w f t b 2 M1) :
    Calls Try.prog 9 #[.pointer (some ⟨f, 0, none⟩), .agg #[.int .u8 1, .int .u8 0, .int .u8 0]] w fun e w' => e = .returned (.int .i64 3) ∧ Below w.heap.size w w' :=
  view_Free.calls w f t b 2 M1 1 0 0 0 9 5 3 5 3 3 h (u8_iff.2 (by decide)) (u8_iff.2 (by decide)) (u8_iff.2 (by decide)) (by rw [M1_is]; rfl) (by rw [view_far_eq, M1_free])
theorem room_d0 (w : World) (f t b : Nat) (h : IsFund w f t b 2 M1) :
    Calls Try.prog 10 #[.pointer (some ⟨f, 0, none⟩), .agg #[.int .u8 1, .int .u8 0, .int .u8 0]] w fun e w' => e = .returned (.int .i64 4) ∧ Below w.heap.size w w' :=
  view_Room.calls w f t b 2 M1 1 0 0 0 9 5 3 5 3 4 h (u8_iff.2 (by decide)) (u8_iff.2 (by decide)) (u8_iff.2 (by decide)) (by rw [M1_is]; rfl) (by rw [view_far_eq, M1_room])
theorem spans_d0 (w : World) (f t b : Nat) (h : IsFund w f t b 2 M1) :
    Calls Try.prog 13 #[.agg (cfg 1 1), .pointer (some ⟨f, 0, none⟩), .int .u8 0] w fun e w' => ∃ ad c, e = .returned (.slice (some ad) 1 c) ∧ 1 ≤ c ∧ w'.cell? ad = some (.int .i64 3) ∧ w'.cell? ⟨ad.block, ad.off + 1, none⟩ = some (.int .i64 3) ∧ w'.cell? ⟨ad.block, ad.off + 2, none⟩ = some (.int .i64 5) ∧ Below w.heap.size w w' :=
  (view_Spans.calls w f t b 2 M1 1 1 0 h (u8_iff.2 (by decide)) (by decide) (by decide)).mono fun e w' ⟨v, h1, h2, h3⟩ => by
    rw [M1_spans] at h2
    obtain ⟨A, c, rfl, hc, hC⟩ := Kd.R_reads h2
    obtain ⟨ad, rfl, e0, e1, e2⟩ := at_T49 hC 0 (by decide) (by decide)
    have ea : ad.add (Int.toNat 0 * 3) = ad := by simp [Addr.add]
    rw [ea] at e0 e1 e2
    exact ⟨ad, c, h1, hc, e0, e1, e2, h3⟩
theorem works.calls (w : World) : Calls Try.prog 6 #[] w fun e w' => e = .returned (.bool true) ∧ Below w.heap.size w w' := by
  go_enter Try.func6, Try.ntmps6
  go_wp2_with (first
    | (go_at_call 7; ((with_reducible refine (new_d0 _ _ (blk_new1 _ _ _)).mono ?_); rintro e w1 ⟨f, t, b, rfl, hb1, hF1, hbb⟩; have HF1 := Aside0.mk hF1; have HB1 := Aside0.mk (below_step (below_alloc (below_alloc (Below.refl _ _) _) _) hb1); have HK1 := Aside0.mk (blk_below (blk_alloc (blk_new _ _) _) hb1); have HBB := Aside0.mk (Nat.lt_of_lt_of_le (show w.heap.size < ((w.alloc _).alloc _).heap.size by simp; omega) hbb); clear hF1 hb1 hbb; have k0 := (blk_cell HK1.out 0).trans rfl; have k1 := (blk_cell HK1.out 1).trans rfl; have k2 := (blk_cell HK1.out 2).trans rfl))
    | (go_at_call 8; ((with_reducible refine (grant_d0 _ _ _ _ HF1.out).mono ?_); rintro e w2 ⟨rfl, hg2, hF2⟩; have HF2 := Aside0.mk hF2; have HB2 := Aside0.mk (HB1.out.grown hg2 (below_size HB1.out) (fun k hk => by cases hk; exact Nat.le_of_lt HBB.out)); have HK2 := Aside0.mk (blk_grown HK1.out hg2 (fun hk => by injection hk with hk; exact absurd HBB.out (by rw [hk]; exact Nat.lt_irrefl _))); clear hg2 hF2 k0 k1 k2))
    | (go_at_call 13; ((with_reducible refine (spans_d0 _ _ _ _ HF2.out).mono ?_); rintro e w3 ⟨ad, cp, rfl, hcp, c0, c1, c2, hb3⟩; have HF3 := Aside0.mk (HF2.out.below hb3); have HB3 := Aside0.mk (below_step HB2.out hb3); have HK3 := Aside0.mk (blk_below HK2.out hb3); clear hb3; have k0 := (blk_cell HK3.out 0).trans rfl; have k1 := (blk_cell HK3.out 1).trans rfl; have k2 := (blk_cell HK3.out 2).trans rfl))
    | (go_at_call 9; ((with_reducible refine (free_d0 _ _ _ _ HF3.out).mono ?_); rintro e w4 ⟨rfl, hb4⟩; have HF4 := Aside0.mk (HF3.out.below hb4); have HB4 := Aside0.mk (below_step HB3.out hb4); have HK4 := Aside0.mk (blk_below HK3.out hb4); replace c0 := (hb4.cell (World.block_lt_of_cell? _ _ c0)).trans c0; replace c1 := (hb4.cell (World.block_lt_of_cell? _ _ c1)).trans c1; replace c2 := (hb4.cell (World.block_lt_of_cell? _ _ c2)).trans c2; clear hb4 k0 k1 k2; have k0 := (blk_cell HK4.out 0).trans rfl; have k1 := (blk_cell HK4.out 1).trans rfl; have k2 := (blk_cell HK4.out 2).trans rfl))
    | (go_at_call 10; ((with_reducible refine (room_d0 _ _ _ _ HF4.out).mono ?_); rintro e w5 ⟨rfl, hb5⟩; have HB5 := Aside0.mk (below_step HB4.out hb5); replace c0 := (hb5.cell (World.block_lt_of_cell? _ _ c0)).trans c0; replace c1 := (hb5.cell (World.block_lt_of_cell? _ _ c1)).trans c1; replace c2 := (hb5.cell (World.block_lt_of_cell? _ _ c2)).trans c2; clear hb5 k0 k1 k2)))
  go_ret
  exact ⟨rfl, HB5.out⟩
end Go.Proofs.Ytnipjfciphgfjaa.V
