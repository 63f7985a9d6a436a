/- Several texts of this seat put together, each as it stands: Gx8. -/
import Derived.Test.YtnipjfciphgfjaaSays5
/- What functions of the program answer, for all inputs of which their Lean functions tell an answer; printed by a program of this session with the kit's printer, over contracts that this session proved by hand. -/
namespace Go.Proofs.Ytnipjfciphgfjaa.G
open Go.RowKit Go.Proofs.YtnipjfciphgfjaaW.PrintWords Go.Proofs.YtnipjfciphgfjaaW.PrintLast Go.Proofs.YtnipjfciphgfjaaW.PrintMore
attribute [local go_sem] max2_int min2_int max_two min_two max_three min_three max_four min_four   -- for this text's walks alone
set_option linter.unusedVariables false
set_option linter.unusedSimpArgs false

attribute [local go_sem high] eqA25
/-! ### pledgeref18_put: function 30 -/
mutual
def pledgeref18_put.l0 : Nat → List (S81) → List (S81) → Bool → Int → Int → Int → Int → Int → Int → Int → Int → Int → Int → Option ((List (S81)))
  | 0, _, _, _, _, _, _, _, _, _, _, _, _, _ => none
  | k + 1, x0, x5, x6, x7, x122000, x122001, x122002, x122003, x122004, x122005, x122006, x122007, x122008 => if x7 < (x0.length : Int) then (if x6 = true then (pledgeref18_put.j1 k x0 x5 x6 x7 false x122000 x122001 x122002 x122003 x122004 x122005 x122006 x122007 x122008) else (if 0 ≤ x7 then ((pledgeref04_Less.f ((rd_T81 x0 x7).f0.f0) ((rd_T81 x0 x7).f0.f1) ((rd_T81 x0 x7).f0.f2) x122000 x122001 x122002).bind fun t126 => (pledgeref18_put.j1 k x0 x5 x6 x7 (!t126) x122000 x122001 x122002 x122003 x122004 x122005 x122006 x122007 x122008)) else (none))) else (if x6 = true then (some x5) else (if x5.length < 2513169434916 then (some (x5 ++ [(⟨(⟨x122000, x122001, x122002⟩ : S25), (⟨x122003, x122004, x122005, x122006, x122007, x122008⟩ : S64)⟩ : S81)])) else (none)))
def pledgeref18_put.j1 : Nat → List (S81) → List (S81) → Bool → Int → Bool → Int → Int → Int → Int → Int → Int → Int → Int → Int → Option ((List (S81)))
  | 0, _, _, _, _, _, _, _, _, _, _, _, _, _, _ => none
  | k + 1, x0, x5, x6, x7, x26, x122000, x122001, x122002, x122003, x122004, x122005, x122006, x122007, x122008 => if x26 = true then (if x5.length < 2513169434916 then ((some (x5 ++ [(⟨(⟨x122000, x122001, x122002⟩ : S25), (⟨x122003, x122004, x122005, x122006, x122007, x122008⟩ : S64)⟩ : S81)] : List (S81))).bind fun y127 => (if 0 ≤ x7 then (if x7 < (x0.length : Int) then (if (!(((rd_T81 x0 x7).f0.f0) == x122000) || (!(((rd_T81 x0 x7).f0.f1) == x122001) || (!(((rd_T81 x0 x7).f0.f2) == x122002)))) = true then (if y127.length < 2513169434916 then (pledgeref18_put.l0 k x0 (y127 ++ [(⟨(⟨(rd_T81 x0 x7).f0.f0, (rd_T81 x0 x7).f0.f1, (rd_T81 x0 x7).f0.f2⟩ : S25), (⟨(rd_T81 x0 x7).f1.f0, (rd_T81 x0 x7).f1.f1, (rd_T81 x0 x7).f1.f2, (rd_T81 x0 x7).f1.f3, (rd_T81 x0 x7).f1.f4, (rd_T81 x0 x7).f1.f5⟩ : S64)⟩ : S81)]) true (wrap64 (x7 + 1)) x122000 x122001 x122002 x122003 x122004 x122005 x122006 x122007 x122008) else (none)) else (pledgeref18_put.l0 k x0 y127 true (wrap64 (x7 + 1)) x122000 x122001 x122002 x122003 x122004 x122005 x122006 x122007 x122008)) else (none)) else (none))) else (none)) else (if 0 ≤ x7 then (if x7 < (x0.length : Int) then (if (!(((rd_T81 x0 x7).f0.f0) == x122000) || (!(((rd_T81 x0 x7).f0.f1) == x122001) || (!(((rd_T81 x0 x7).f0.f2) == x122002)))) = true then (if x5.length < 2513169434916 then (pledgeref18_put.l0 k x0 (x5 ++ [(⟨(⟨(rd_T81 x0 x7).f0.f0, (rd_T81 x0 x7).f0.f1, (rd_T81 x0 x7).f0.f2⟩ : S25), (⟨(rd_T81 x0 x7).f1.f0, (rd_T81 x0 x7).f1.f1, (rd_T81 x0 x7).f1.f2, (rd_T81 x0 x7).f1.f3, (rd_T81 x0 x7).f1.f4, (rd_T81 x0 x7).f1.f5⟩ : S64)⟩ : S81)]) x6 (wrap64 (x7 + 1)) x122000 x122001 x122002 x122003 x122004 x122005 x122006 x122007 x122008) else (none)) else (pledgeref18_put.l0 k x0 x5 x6 (wrap64 (x7 + 1)) x122000 x122001 x122002 x122003 x122004 x122005 x122006 x122007 x122008)) else (none)) else (none))
end
def pledgeref18_put.f (k : Nat) (l0 : List (S81)) (a1_0 : Int) (a1_1 : Int) (a1_2 : Int) (a1_3 : Int) (a1_4 : Int) (a1_5 : Int) (a1_6 : Int) (a1_7 : Int) (a1_8 : Int) : Option ((List (S81))) := pledgeref18_put.l0 k l0 ([] : List (S81)) false 0 a1_0 a1_1 a1_2 a1_3 a1_4 a1_5 a1_6 a1_7 a1_8
theorem pledgeref18_put.mono_l : ∀ k, (∀ y0 y1 y2 y3 y4 y5 y6 y7 y8 y9 y10 y11 y12, LeO (pledgeref18_put.l0 k y0 y1 y2 y3 y4 y5 y6 y7 y8 y9 y10 y11 y12) (pledgeref18_put.l0 (k + 1) y0 y1 y2 y3 y4 y5 y6 y7 y8 y9 y10 y11 y12)) ∧ (∀ y0 y1 y2 y3 y4 y5 y6 y7 y8 y9 y10 y11 y12 y13, LeO (pledgeref18_put.j1 k y0 y1 y2 y3 y4 y5 y6 y7 y8 y9 y10 y11 y12 y13) (pledgeref18_put.j1 (k + 1) y0 y1 y2 y3 y4 y5 y6 y7 y8 y9 y10 y11 y12 y13))
  | 0 => ⟨fun _ _ _ _ _ _ _ _ _ _ _ _ _ r h => by simp [pledgeref18_put.l0] at h, fun _ _ _ _ _ _ _ _ _ _ _ _ _ _ r h => by simp [pledgeref18_put.j1] at h⟩
  | k + 1 => by
    obtain ⟨ih0, ih1⟩ := pledgeref18_put.mono_l k
    refine ⟨?_, ?_⟩
    · intro y0 y1 y2 y3 y4 y5 y6 y7 y8 y9 y10 y11 y12
      unfold pledgeref18_put.l0
      repeat' first
      | (with_reducible exact ih0 _ _ _ _ _ _ _ _ _ _ _ _ _)
      | (with_reducible exact ih1 _ _ _ _ _ _ _ _ _ _ _ _ _ _)
      | (with_reducible exact LeO.refl _)
      | (with_reducible exact LeO.none _)
      | (with_reducible refine LeO.ite ?_ ?_)
      | (with_reducible refine LeO.bind ?_ (fun _ => ?_))
      | exact ih0 _ _ _ _ _ _ _ _ _ _ _ _ _
      | exact ih1 _ _ _ _ _ _ _ _ _ _ _ _ _ _
      | exact LeO.none _
      | refine LeO.ite ?_ ?_
      | refine LeO.bind ?_ (fun _ => ?_)
    · intro y0 y1 y2 y3 y4 y5 y6 y7 y8 y9 y10 y11 y12 y13
      unfold pledgeref18_put.j1
      repeat' first
      | (with_reducible exact ih0 _ _ _ _ _ _ _ _ _ _ _ _ _)
      | (with_reducible exact ih1 _ _ _ _ _ _ _ _ _ _ _ _ _ _)
      | (with_reducible exact LeO.refl _)
      | (with_reducible exact LeO.none _)
      | (with_reducible refine LeO.ite ?_ ?_)
      | (with_reducible refine LeO.bind ?_ (fun _ => ?_))
      | exact ih0 _ _ _ _ _ _ _ _ _ _ _ _ _
      | exact ih1 _ _ _ _ _ _ _ _ _ _ _ _ _ _
      | exact LeO.none _
      | refine LeO.ite ?_ ?_
      | refine LeO.bind ?_ (fun _ => ?_)
theorem pledgeref18_put.mono : ∀ a0 a1 a2 a3 a4 a5 a6 a7 a8 a9 k, LeO (pledgeref18_put.f k a0 a1 a2 a3 a4 a5 a6 a7 a8 a9) (pledgeref18_put.f (k + 1) a0 a1 a2 a3 a4 a5 a6 a7 a8 a9) := by
  intro a0 a1 a2 a3 a4 a5 a6 a7 a8 a9 k
  obtain ⟨ih0, ih1⟩ := pledgeref18_put.mono_l k
  unfold pledgeref18_put.f
  repeat' first
      | (with_reducible exact ih0 _ _ _ _ _ _ _ _ _ _ _ _ _)
      | (with_reducible exact ih1 _ _ _ _ _ _ _ _ _ _ _ _ _ _)
      | (with_reducible exact LeO.refl _)
      | (with_reducible exact LeO.none _)
      | (with_reducible refine LeO.ite ?_ ?_)
      | (with_reducible refine LeO.bind ?_ (fun _ => ?_))
      | exact ih0 _ _ _ _ _ _ _ _ _ _ _ _ _
      | exact ih1 _ _ _ _ _ _ _ _ _ _ _ _ _ _
      | exact LeO.none _
      | refine LeO.ite ?_ ?_
      | refine LeO.bind ?_ (fun _ => ?_)
def pledgeref18_put.T6 : Bool × List (List Nat × List Nat) := (true, [([], []), ([0], [0]), ([1], [1]), ([2], [2]), ([2], [2]), ([3, 4, 2], [2, 3, 4]), ([5, 2], [2, 5]), ([6, 2], [2, 6]), ([2], [2]), ([8, 2], [2, 8]), ([7, 9, 2, 2], [2, 7, 9]), ([10, 2], [2, 10]), ([2, 11], [2, 11])])
def pledgeref18_put.B6 : List Nat := [0, 1, 3, 7, 7, 31, 63, 127, 7, 263, 1023, 2047, 4095]
theorem pledgeref18_put.tab6 : rtab .any (opsOf Try.f30 6) = pledgeref18_put.T6 := by kernel_rfl
theorem pledgeref18_put.bits6 : waitsOk pledgeref18_put.T6.2 pledgeref18_put.B6 = true := by kernel_rfl
def pledgeref18_put.T9 : Bool × List (List Nat × List Nat) := (true, [([], []), ([], []), ([0, 1], [0, 1]), ([2], [2]), ([3], [3]), ([], []), ([5], [5]), ([4, 6], [4, 6])])
def pledgeref18_put.B9 : List Nat := [0, 0, 3, 7, 15, 0, 32, 127]
theorem pledgeref18_put.tab9 : rtab .any (opsOf Try.f30 9) = pledgeref18_put.T9 := by kernel_rfl
theorem pledgeref18_put.bits9 : waitsOk pledgeref18_put.T9.2 pledgeref18_put.B9 = true := by kernel_rfl
set_option maxHeartbeats 8000000 in
set_option maxRecDepth 100000 in
theorem pledgeref18_put.calls (k : Nat) (A0 : Option Addr) (c0 : Nat) (l0 : List (S81)) (a1_0 : Int) (a1_1 : Int) (a1_2 : Int) (a1_3 : Int) (a1_4 : Int) (a1_5 : Int) (a1_6 : Int) (a1_7 : Int) (a1_8 : Int) (r : List (S81)) (w : World) (hr0 : Kd.C k81 w A0 l0.length l0) (hc0 : l0.length ≤ c0) (h : pledgeref18_put.f k l0 a1_0 a1_1 a1_2 a1_3 a1_4 a1_5 a1_6 a1_7 a1_8 = some r) :
    Calls Try.prog 30 #[.slice A0 l0.length c0, .agg #[.int .u8 a1_0, .int .u8 a1_1, .int .u8 a1_2, .int .i64 a1_3, .int .i64 a1_4, .int .i64 a1_5, .int .i64 a1_6, .int .i64 a1_7, .int .i64 a1_8]] w fun e w' => ∃ v0_ : Value, e = .returned (v0_) ∧ Kd.R k81 81 w' w.heap.size (fun _ => True) v0_ r ∧ Below w.heap.size w w' := by
  have hu81 := Try.underlying81
  have hu25 := Try.underlying25
  have HR0 := Aside0.mk hr0
  have HC0 := Aside0.mk hc0
  clear hr0 hc0
  have HB := Aside0.mk (Below.refl w.heap.size w)
  have H : (pledgeref18_put.l0 k l0 ([] : List (S81)) false 0 a1_0 a1_1 a1_2 a1_3 a1_4 a1_5 a1_6 a1_7 a1_8) = some r := h
  clear h
  have H' := Aside0.mk H
  clear H
  go_enter Try.func30, Try.ntmps30
  go_wp2_with (first | ((with_reducible refine gate_dst (N := 3) rfl ?_); refine box_event ?hg (N := 3) ?hd (cs := #[.int .u8 a1_0, .int .u8 a1_1, .int .u8 a1_2, .int .i64 a1_3, .int .i64 a1_4, .int .i64 a1_5, .int .i64 a1_6, .int .i64 a1_7, .int .i64 a1_8]) (t := 81) ?hr ?_; (case hd => rfl); (case hg => rfl); (case hr => first | (go_simp; done) | (go_simp; rfl)); intro gb121 hg w3 hbox hb; have n0_ := Aside0.mk (below_step (by repeat (first | (with_reducible first | exact HB.out | apply below_alloc | apply pw_below_drewN | apply below_drew1) | exact HB.out)) hb); have n1_ := Aside0.mk (hbox); have n2_ := Aside0.mk ((by rw [hg]; exact (below_size (by repeat (first | (with_reducible first | exact HB.out | apply below_alloc | apply pw_below_drewN | apply below_drew1) | exact HB.out))) : w.heap.size ≤ gb121)); have n3_ := Aside0.mk ((by rw [hg]; exact (below_size (by repeat (first | (with_reducible first | exact HB.out | apply below_alloc | apply pw_below_drewN | apply below_drew1) | exact HB.out))) : w.heap.size ≤ gb121)); clear HB; have HB := n0_; have BK121 := n1_; have GW121 := n2_; have GE121 := n3_; clear n0_ n1_ n2_ n3_; clear hb hbox hg))
  go_loopg [5, 6, 7] k (fun kq v5 v6 v7 w' => ∃ (x5_1 : List (S81)) (x6_1 : Bool) (x7_1 : Int), v6 = .bool x6_1 ∧ v7 = .int .i64 x7_1 ∧ Aside0 (pledgeref18_put.l0 kq l0 x5_1 x6_1 x7_1 a1_0 a1_1 a1_2 a1_3 a1_4 a1_5 a1_6 a1_7 a1_8 = some r) ∧ Aside0 (kq ≤ k) ∧ Aside0 (Kd.R k81 81 w' w.heap.size (fun k_ => k_ ≠ gb121) v5 x5_1) ∧ Aside0 (w'.heap[gb121]? = some (.cells #[.int .u8 a1_0, .int .u8 a1_1, .int .u8 a1_2, .int .i64 a1_3, .int .i64 a1_4, .int .i64 a1_5, .int .i64 a1_6, .int .i64 a1_7, .int .i64 a1_8] 81 (0, 0))) ∧ Aside0 (Below w.heap.size w w'))
  case atStart => exact ⟨(([] : List (S81))), (false), (0), (by first | rfl | (simp; done) | (simp [*]; done)), (by first | rfl | (simp; done) | (simp [*]; done)), H', ⟨Nat.le_refl _⟩, ⟨by first | exact Kd.R_nil _ _ _ _ _ | exact Kd.N_nil _ _ _ _ _ | exact Kd.V_nil _ _ _ _ _ | exact Kd.Q_nil _ _ _ _ _ | exact Kd.S_nil _ _ _ _ _⟩, ⟨by (with_reducible repeat (first | refine blk_drewN ?_ _ | refine blk_drew ?_ | refine blk_alloc ?_ _)); exact BK121.out⟩, ⟨by repeat (first | (with_reducible first | exact HB.out | apply below_alloc | apply pw_below_drewN | apply below_drew1 | refine below_set ?_ GE121.out) | exact HB.out)⟩⟩
  case round =>
    clear H'
    try clear p2
    try clear c3
    obtain ⟨x5_1, x6_1, x7_1, rfl, rfl, HA, HK1, HO_5, BK121, HB⟩ := hrel
    cases gk with
    | zero => exact absurd HA.out (by simp [pledgeref18_put.l0])
    | succ k1 =>
      have H := HA.out
      clear HA
      simp only [pledgeref18_put.l0] at H
      by_cases c4 : x7_1 < (l0.length : Int)
      · rw [if_pos c4] at H
        have c4b0 : decide (x7_1 < (l0.length : Int)) = true := decide_eq_true c4
        clear c4
        have HC5 := Aside0.mk H
        clear H
        go_upto_region 6 with (fail)
        go_cut [26] (fun v26 wc => ∃ (kq : Nat) (x26_4 : Bool), v26 = .bool x26_4 ∧ Aside0 (pledgeref18_put.j1 kq l0 x5_1 x6_1 x7_1 x26_4 a1_0 a1_1 a1_2 a1_3 a1_4 a1_5 a1_6 a1_7 a1_8 = some r) ∧ Aside0 (kq ≤ k1) ∧ Aside0 (Kd.R k81 81 wc w.heap.size (fun k_ => k_ ≠ gb121) u5 x5_1) ∧ Aside0 (wc.heap[gb121]? = some (.cells #[.int .u8 a1_0, .int .u8 a1_1, .int .u8 a1_2, .int .i64 a1_3, .int .i64 a1_4, .int .i64 a1_5, .int .i64 a1_6, .int .i64 a1_7, .int .i64 a1_8] 81 (0, 0))) ∧ Aside0 (Below w.heap.size w wc))
        case first =>
          have H := HC5.out
          clear HC5
          by_cases c6 : x6_1 = true
          · subst c6
            have H1 : (pledgeref18_put.j1 k1 l0 x5_1 true x7_1 false a1_0 a1_1 a1_2 a1_3 a1_4 a1_5 a1_6 a1_7 a1_8) = some r := by rw [if_pos rfl] at H; exact H
            clear H
            have H := H1
            clear H1
            have H' := Aside0.mk H
            clear H
            try go_wp2
            have n0_ := Aside0.mk (Kd.R_drew HO_5.out)
            have n1_ := Aside0.mk (blk_drew BK121.out)
            have n2_ := Aside0.mk (below_drew1 HB.out)
            clear HO_5
            clear BK121
            clear HB
            have HO_5 := n0_
            have BK121 := n1_
            have HB := n2_
            clear n0_ n1_ n2_
            refine start_ (n := 13) (S := fun w' => True) (ds := []) #[false, false, false, false, false, false, false, false, false, false, false, false, false] (by kernel_rfl) rfl rfl trivial (fun hHeld => ?_); refine with_tabW pledgeref18_put.tab6 pledgeref18_put.bits6 (fun HT_ HW_ => ?_)
            generalize wr.drew = w7 at HO_5 BK121 HB hHeld ⊢
            refine pure_ (i := 0) (N := some 14) (v := ?_) (a' := ?_) #[true, false, false, false, false, false, false, false, false, false, false, false, false] rfl rfl (any_of HT_.out (by kernel_rfl)) (fun _ _ _ h => h) (Or.inl ⟨by rfl, ?_⟩) ?_ ?_
            rotate_left
            · intro w'
              go_simp
              with_reducible rfl
            rotate_left
            · simp only [Act.put, List.setIfInBounds_toArray, List.set_cons_zero, List.set_cons_succ, i64_w, i32_w]
              rfl
            refine pure_ (i := 1) (N := some 15) (v := ?_) (a' := ?_) #[true, true, false, false, false, false, false, false, false, false, false, false, false] rfl rfl (any_of HT_.out (by kernel_rfl)) (fun _ _ _ h => h) (Or.inl ⟨by rfl, ?_⟩) ?_ ?_
            rotate_left
            · intro w'
              go_simp
              with_reducible rfl
            rotate_left
            · simp only [Act.put, List.setIfInBounds_toArray, List.set_cons_zero, List.set_cons_succ, i64_w, i32_w]
              rfl
            refine pure_ (i := 2) (N := some 16) (v := ?_) (a' := ?_) #[true, true, true, false, false, false, false, false, false, false, false, false, false] rfl rfl (any_of HT_.out (by kernel_rfl)) (fun _ _ _ h => h) (Or.inl ⟨by rfl, ?_⟩) ?_ ?_
            rotate_left
            · intro w'
              go_simp
              with_reducible rfl
            rotate_left
            · simp only [Act.put, List.setIfInBounds_toArray, List.set_cons_zero, List.set_cons_succ, i64_w, i32_w]
              rfl
            refine pure_ (i := 3) (N := some 17) (v := undef) (a' := ?_) #[true, true, true, true, false, false, false, false, false, false, false, false, false] rfl rfl (any_of HT_.out (by kernel_rfl)) (fun _ _ _ h => h) (Or.inr ⟨by rfl, rfl⟩) ?_ ?_
            rotate_left
            · simp only [Act.put, List.setIfInBounds_toArray, List.set_cons_zero, List.set_cons_succ, i64_w, i32_w]
              rfl
            refine pure_ (i := 4) (N := some 18) (v := undef) (a' := ?_) #[true, true, true, true, true, false, false, false, false, false, false, false, false] rfl rfl (any_of HT_.out (by kernel_rfl)) (fun _ _ _ h => h) (Or.inr ⟨by rfl, rfl⟩) ?_ ?_
            rotate_left
            · simp only [Act.put, List.setIfInBounds_toArray, List.set_cons_zero, List.set_cons_succ, i64_w, i32_w]
              rfl
            refine pure_ (i := 5) (N := some 19) (v := undef) (a' := ?_) #[true, true, true, true, true, true, false, false, false, false, false, false, false] rfl rfl (any_of HT_.out (by kernel_rfl)) (fun _ _ _ h => h) (Or.inr ⟨by rfl, rfl⟩) ?_ ?_
            rotate_left
            · simp only [Act.put, List.setIfInBounds_toArray, List.set_cons_zero, List.set_cons_succ, i64_w, i32_w]
              rfl
            refine pure_ (i := 6) (N := some 20) (v := undef) (a' := ?_) #[true, true, true, true, true, true, true, false, false, false, false, false, false] rfl rfl (any_of HT_.out (by kernel_rfl)) (fun _ _ _ h => h) (Or.inr ⟨by rfl, rfl⟩) ?_ ?_
            rotate_left
            · simp only [Act.put, List.setIfInBounds_toArray, List.set_cons_zero, List.set_cons_succ, i64_w, i32_w]
              rfl
            refine pure_ (i := 7) (N := some 21) (v := undef) (a' := ?_) #[true, true, true, true, true, true, true, true, false, false, false, false, false] rfl rfl (any_of HT_.out (by kernel_rfl)) (fun _ _ _ h => h) (Or.inr ⟨by rfl, rfl⟩) ?_ ?_
            rotate_left
            · simp only [Act.put, List.setIfInBounds_toArray, List.set_cons_zero, List.set_cons_succ, i64_w, i32_w]
              rfl
            refine pure_ (i := 8) (N := some 22) (v := undef) (a' := ?_) #[true, true, true, true, true, true, true, true, true, false, false, false, false] rfl rfl (any_of HT_.out (by kernel_rfl)) (fun _ _ _ h => h) (Or.inr ⟨by rfl, rfl⟩) ?_ ?_
            rotate_left
            · simp only [Act.put, List.setIfInBounds_toArray, List.set_cons_zero, List.set_cons_succ, i64_w, i32_w]
              rfl
            refine pure_ (i := 9) (N := some 23) (v := undef) (a' := ?_) #[true, true, true, true, true, true, true, true, true, true, false, false, false] rfl rfl (any_of HT_.out (by kernel_rfl)) (fun _ _ _ h => h) (Or.inr ⟨by rfl, rfl⟩) ?_ ?_
            rotate_left
            · simp only [Act.put, List.setIfInBounds_toArray, List.set_cons_zero, List.set_cons_succ, i64_w, i32_w]
              rfl
            refine pure_ (i := 10) (N := some 24) (v := undef) (a' := ?_) #[true, true, true, true, true, true, true, true, true, true, true, false, false] rfl rfl (any_of HT_.out (by kernel_rfl)) (fun _ _ _ h => h) (Or.inr ⟨by rfl, rfl⟩) ?_ ?_
            rotate_left
            · simp only [Act.put, List.setIfInBounds_toArray, List.set_cons_zero, List.set_cons_succ, i64_w, i32_w]
              rfl
            refine pure_ (i := 11) (N := some 25) (v := undef) (a' := ?_) #[true, true, true, true, true, true, true, true, true, true, true, true, false] rfl rfl (any_of HT_.out (by kernel_rfl)) (fun _ _ _ h => h) (Or.inr ⟨by rfl, rfl⟩) ?_ ?_
            rotate_left
            · simp only [Act.put, List.setIfInBounds_toArray, List.set_cons_zero, List.set_cons_succ, i64_w, i32_w]
              rfl
            refine pure_ (i := 12) (N := some 26) (v := ?_) (a' := ?_) #[true, true, true, true, true, true, true, true, true, true, true, true, true] rfl rfl (any_of HT_.out (by kernel_rfl)) (fun _ _ _ h => h) (Or.inl ⟨by rfl, ?_⟩) ?_ ?_
            rotate_left
            · intro w'
              go_simp
              with_reducible rfl
            rotate_left
            · simp only [Act.put, List.setIfInBounds_toArray, List.set_cons_zero, List.set_cons_succ, i64_w, i32_w]
              rfl
            refine done_ (done_of HT_.out (by kernel_rfl)) ?_
            try go_wp2
            go_meet
            case rel => exact ⟨_, (false), (by first | rfl | (simp; done) | (simp [*]; done)), H', ⟨by have := HK1.out; first | omega | exact Nat.le_refl _⟩, ⟨by (with_reducible repeat (first | apply Kd.R_alloc | apply Kd.R_drewN | apply Kd.R_drew)); exact HO_5.out⟩, ⟨by (with_reducible repeat (first | refine blk_drewN ?_ _ | refine blk_drew ?_ | refine blk_alloc ?_ _)); exact BK121.out⟩, ⟨by repeat (first | (with_reducible first | exact HB.out | apply below_alloc | apply pw_below_drewN | apply below_drew1 | refine below_set ?_ GE121.out) | exact HB.out)⟩⟩
          · replace c6 := Bool.eq_false_iff.mpr c6
            subst c6
            have H1 : (if 0 ≤ x7_1 then ((pledgeref04_Less.f ((rd_T81 l0 x7_1).f0.f0) ((rd_T81 l0 x7_1).f0.f1) ((rd_T81 l0 x7_1).f0.f2) a1_0 a1_1 a1_2).bind fun t126 => (pledgeref18_put.j1 k1 l0 x5_1 false x7_1 (!t126) a1_0 a1_1 a1_2 a1_3 a1_4 a1_5 a1_6 a1_7 a1_8)) else (none)) = some r := by rw [if_neg (show ¬ (false = true) by decide)] at H; exact H
            clear H
            have H := H1
            clear H1
            by_cases c8 : 0 ≤ x7_1
            · rw [if_pos c8] at H
              have c8b0 : decide (0 ≤ x7_1) = true := decide_eq_true c8
              clear c8
              (first | rw [c8b0] | (simp only [i64_w, i32_w]; rw [c8b0]) | skip)
              replace H := Option.bind_eq_some_iff.mp H
              obtain ⟨t126, A90, H⟩ := H
              replace H : (pledgeref18_put.j1 k1 l0 x5_1 false x7_1 (!t126) a1_0 a1_1 a1_2 a1_3 a1_4 a1_5 a1_6 a1_7 a1_8) = some r := H
              have A9 := Aside0.mk A90
              clear A90
              have H' := Aside0.mk H
              clear H
              try go_wp2
              have n0_ := Aside0.mk (Kd.R_drew HO_5.out)
              have n1_ := Aside0.mk (blk_drew BK121.out)
              have n2_ := Aside0.mk (below_drew1 HB.out)
              clear HO_5
              clear BK121
              clear HB
              have HO_5 := n0_
              have BK121 := n1_
              have HB := n2_
              clear n0_ n1_ n2_
              have p125 : 0 ≤ (x7_1 : Int) := of_decide_eq_true (by first | (with_reducible assumption) | assumption)
              have q125 : x7_1 < (l0.length : Int) := of_decide_eq_true (by first | (with_reducible assumption) | assumption)
              obtain ⟨ad125, e125, hx125_0, hx125_1, hx125_2, hx125_3, hx125_4, hx125_5, hx125_6, hx125_7, hx125_8⟩ := at_T81 HR0.out x7_1 p125 q125
              have hw125_8 := hx125_8
              have hw125_7 := hx125_7
              have hw125_6 := hx125_6
              have hw125_5 := hx125_5
              have hw125_4 := hx125_4
              have hw125_3 := hx125_3
              have hw125_2 := hx125_2
              have hw125_1 := hx125_1
              have hw125_0 := hx125_0
              cases e125
              replace hx125_0 := (HB.out.cell (World.block_lt_of_cell? w _ hx125_0)).trans hx125_0
              replace hx125_1 := (HB.out.cell (World.block_lt_of_cell? w _ hx125_1)).trans hx125_1
              replace hx125_2 := (HB.out.cell (World.block_lt_of_cell? w _ hx125_2)).trans hx125_2
              replace hx125_3 := (HB.out.cell (World.block_lt_of_cell? w _ hx125_3)).trans hx125_3
              replace hx125_4 := (HB.out.cell (World.block_lt_of_cell? w _ hx125_4)).trans hx125_4
              replace hx125_5 := (HB.out.cell (World.block_lt_of_cell? w _ hx125_5)).trans hx125_5
              replace hx125_6 := (HB.out.cell (World.block_lt_of_cell? w _ hx125_6)).trans hx125_6
              replace hx125_7 := (HB.out.cell (World.block_lt_of_cell? w _ hx125_7)).trans hx125_7
              replace hx125_8 := (HB.out.cell (World.block_lt_of_cell? w _ hx125_8)).trans hx125_8
              replace p125 := eq_true p125
              replace q125 := eq_true q125
              refine start_ (n := 13) (S := fun w' => w'.cell? ⟨gb121, 0, none⟩ = some (.int .u8 a1_0) ∧ w'.cell? ⟨gb121, 1, none⟩ = some (.int .u8 a1_1) ∧ w'.cell? ⟨gb121, 2, none⟩ = some (.int .u8 a1_2) ∧ w'.cell? ⟨gb121, 3, none⟩ = some (.int .i64 a1_3) ∧ w'.cell? ⟨gb121, 4, none⟩ = some (.int .i64 a1_4) ∧ w'.cell? ⟨gb121, 5, none⟩ = some (.int .i64 a1_5) ∧ w'.cell? ⟨gb121, 6, none⟩ = some (.int .i64 a1_6) ∧ w'.cell? ⟨gb121, 7, none⟩ = some (.int .i64 a1_7) ∧ w'.cell? ⟨gb121, 8, none⟩ = some (.int .i64 a1_8) ∧ w'.cell? (ad125.add ((x7_1).toNat * 9)) = some (.int .u8 ((rd_T81 l0 x7_1).f0.f0)) ∧ w'.cell? ⟨(ad125.add ((x7_1).toNat * 9)).block, (ad125.add ((x7_1).toNat * 9)).off + 1, none⟩ = some (.int .u8 ((rd_T81 l0 x7_1).f0.f1)) ∧ w'.cell? ⟨(ad125.add ((x7_1).toNat * 9)).block, (ad125.add ((x7_1).toNat * 9)).off + 2, none⟩ = some (.int .u8 ((rd_T81 l0 x7_1).f0.f2)) ∧ w'.cell? ⟨(ad125.add ((x7_1).toNat * 9)).block, (ad125.add ((x7_1).toNat * 9)).off + 3, none⟩ = some (.int .i64 ((rd_T81 l0 x7_1).f1.f0)) ∧ w'.cell? ⟨(ad125.add ((x7_1).toNat * 9)).block, (ad125.add ((x7_1).toNat * 9)).off + 4, none⟩ = some (.int .i64 ((rd_T81 l0 x7_1).f1.f1)) ∧ w'.cell? ⟨(ad125.add ((x7_1).toNat * 9)).block, (ad125.add ((x7_1).toNat * 9)).off + 5, none⟩ = some (.int .i64 ((rd_T81 l0 x7_1).f1.f2)) ∧ w'.cell? ⟨(ad125.add ((x7_1).toNat * 9)).block, (ad125.add ((x7_1).toNat * 9)).off + 6, none⟩ = some (.int .i64 ((rd_T81 l0 x7_1).f1.f3)) ∧ w'.cell? ⟨(ad125.add ((x7_1).toNat * 9)).block, (ad125.add ((x7_1).toNat * 9)).off + 7, none⟩ = some (.int .i64 ((rd_T81 l0 x7_1).f1.f4)) ∧ w'.cell? ⟨(ad125.add ((x7_1).toNat * 9)).block, (ad125.add ((x7_1).toNat * 9)).off + 8, none⟩ = some (.int .i64 ((rd_T81 l0 x7_1).f1.f5))) (ds := []) #[false, false, false, false, false, false, false, false, false, false, false, false, false] (by kernel_rfl) rfl rfl ⟨(blk_cell BK121.out 0).trans rfl, (blk_cell BK121.out 1).trans rfl, (blk_cell BK121.out 2).trans rfl, (blk_cell BK121.out 3).trans rfl, (blk_cell BK121.out 4).trans rfl, (blk_cell BK121.out 5).trans rfl, (blk_cell BK121.out 6).trans rfl, (blk_cell BK121.out 7).trans rfl, (blk_cell BK121.out 8).trans rfl, ((HB.out.cell (World.block_lt_of_cell? w _ hw125_0)).trans hw125_0), ((HB.out.cell (World.block_lt_of_cell? w _ hw125_1)).trans hw125_1), ((HB.out.cell (World.block_lt_of_cell? w _ hw125_2)).trans hw125_2), ((HB.out.cell (World.block_lt_of_cell? w _ hw125_3)).trans hw125_3), ((HB.out.cell (World.block_lt_of_cell? w _ hw125_4)).trans hw125_4), ((HB.out.cell (World.block_lt_of_cell? w _ hw125_5)).trans hw125_5), ((HB.out.cell (World.block_lt_of_cell? w _ hw125_6)).trans hw125_6), ((HB.out.cell (World.block_lt_of_cell? w _ hw125_7)).trans hw125_7), ((HB.out.cell (World.block_lt_of_cell? w _ hw125_8)).trans hw125_8)⟩ (fun hHeld => ?_); refine with_tabW pledgeref18_put.tab6 pledgeref18_put.bits6 (fun HT_ HW_ => ?_)
              generalize wr.drew = w10 at HO_5 BK121 HB hx125_0 hx125_1 hx125_2 hx125_3 hx125_4 hx125_5 hx125_6 hx125_7 hx125_8 hHeld ⊢
              refine pure_ (i := 0) (N := some 14) (v := ?_) (a' := ?_) #[true, false, false, false, false, false, false, false, false, false, false, false, false] rfl rfl (any_of HT_.out (by kernel_rfl)) (fun _ _ _ h => h) (Or.inl ⟨by rfl, ?_⟩) ?_ ?_
              rotate_left
              · intro w'
                go_simp
                with_reducible rfl
              rotate_left
              · simp only [Act.put, List.setIfInBounds_toArray, List.set_cons_zero, List.set_cons_succ, i64_w, i32_w]
                rfl
              refine pure_ (i := 1) (N := some 15) (v := ?_) (a' := ?_) #[true, true, false, false, false, false, false, false, false, false, false, false, false] rfl rfl (any_of HT_.out (by kernel_rfl)) (fun _ _ _ h => h) (Or.inl ⟨by rfl, ?_⟩) ?_ ?_
              rotate_left
              · intro w'
                go_simp
                with_reducible rfl
              rotate_left
              · simp only [Act.put, List.setIfInBounds_toArray, List.set_cons_zero, List.set_cons_succ, i64_w, i32_w]
                rfl
              refine pure_ (i := 2) (N := some 16) (v := ?_) (a' := ?_) #[true, true, true, false, false, false, false, false, false, false, false, false, false] rfl rfl (any_of HT_.out (by kernel_rfl)) (fun _ _ _ h => h) (Or.inl ⟨by rfl, ?_⟩) ?_ ?_
              rotate_left
              · intro w'
                go_simp
                with_reducible rfl
              rotate_left
              · simp only [Act.put, List.setIfInBounds_toArray, List.set_cons_zero, List.set_cons_succ, i64_w, i32_w]
                rfl
              refine pure_ (i := 3) (N := some 17) (v := ?_) (a' := ?_) #[true, true, true, true, false, false, false, false, false, false, false, false, false] rfl rfl (any_of HT_.out (by kernel_rfl)) (fun _ _ _ h => h) (Or.inl ⟨by rfl, ?_⟩) ?_ ?_
              rotate_left
              · intro w'
                go_simp
                with_reducible rfl
              rotate_left
              · simp only [Act.put, List.setIfInBounds_toArray, List.set_cons_zero, List.set_cons_succ, i64_w, i32_w]
                rfl
              refine pure_ (i := 4) (N := some 18) (v := ?_) (a' := ?_) #[true, true, true, true, true, false, false, false, false, false, false, false, false] rfl rfl (any_of HT_.out (by kernel_rfl)) (fun _ _ _ h => h) (Or.inl ⟨by rfl, ?_⟩) ?_ ?_
              rotate_left
              · intro w'
                go_simp
                with_reducible rfl
              rotate_left
              · simp only [Act.put, List.setIfInBounds_toArray, List.set_cons_zero, List.set_cons_succ, i64_w, i32_w]
                rfl
              refine pure_ (i := 5) (N := some 19) (v := ?_) (a' := ?_) #[true, true, true, true, true, true, false, false, false, false, false, false, false] rfl rfl (any_of HT_.out (by kernel_rfl)) (fun _ _ _ h => h) (Or.inl ⟨by rfl, ?_⟩) ?_ ?_
              rotate_left
              · intro w'
                go_simp
                with_reducible rfl
              rotate_left
              · simp only [Act.put, List.setIfInBounds_toArray, List.set_cons_zero, List.set_cons_succ, i64_w, i32_w]
                rfl
              refine pure_ (i := 6) (N := some 20) (v := ?_) (a' := ?_) #[true, true, true, true, true, true, true, false, false, false, false, false, false] rfl rfl (any_of HT_.out (by kernel_rfl)) (fun _ _ _ h => h) (Or.inl ⟨by rfl, ?_⟩) ?_ ?_
              rotate_left
              · intro w'
                go_simp
                with_reducible rfl
              rotate_left
              · simp only [Act.put, List.setIfInBounds_toArray, List.set_cons_zero, List.set_cons_succ, i64_w, i32_w]
                rfl
              refine pure_ (i := 8) (N := some 22) (v := ?_) (a' := ?_) #[true, true, true, true, true, true, true, false, true, false, false, false, false] rfl rfl (any_of HT_.out (by kernel_rfl)) (fun _ _ _ h => h) (Or.inl ⟨by rfl, ?_⟩) ?_ ?_
              rotate_left
              · intro w'
                go_simp
                with_reducible rfl
              rotate_left
              · simp only [Act.put, List.setIfInBounds_toArray, List.set_cons_zero, List.set_cons_succ, i64_w, i32_w]
                rfl
              refine take_ (i := 7) (N := some 21) (v := ?_) (a' := ?_) #[true, true, true, true, true, true, true, true, true, false, false, false, false] rfl rfl (take_ofW HT_.out HW_.out (by kernel_rfl)) (fun _ _ _ h => h) (Or.inl ⟨by rfl, ?_⟩) hHeld ?_ ?_
              rotate_left
              · rintro w' ⟨s0, s1, s2, s3, s4, s5, s6, s7, s8, s9, s10, s11, s12, s13, s14, s15, s16, s17⟩
                go_simp
                with_reducible rfl
              rotate_left
              · simp only [Act.put, List.setIfInBounds_toArray, List.set_cons_zero, List.set_cons_succ, i64_w, i32_w]
                rfl
              refine take_ (i := 9) (N := some 23) (v := ?_) (a' := ?_) #[true, true, true, true, true, true, true, true, true, true, false, false, false] rfl rfl (take_ofW HT_.out HW_.out (by kernel_rfl)) (fun _ _ _ h => h) (Or.inl ⟨by rfl, ?_⟩) hHeld ?_ ?_
              rotate_left
              · rintro w' ⟨s0, s1, s2, s3, s4, s5, s6, s7, s8, s9, s10, s11, s12, s13, s14, s15, s16, s17⟩
                go_simp
                with_reducible rfl
              rotate_left
              · simp only [Act.put, List.setIfInBounds_toArray, List.set_cons_zero, List.set_cons_succ, i64_w, i32_w]
                rfl
              refine one_ (i := 10) (N := some 24) #[true, true, true, true, true, true, true, true, true, true, true, false, false] rfl rfl (one_of HT_.out (by kernel_rfl)) (by decide) (fun K hK => ?_)
              refine goes_ Try.func48 (by kernel_rfl) rfl #[.agg #[.int .u8 ((rd_T81 l0 x7_1).f0.f0), .int .u8 ((rd_T81 l0 x7_1).f0.f1), .int .u8 ((rd_T81 l0 x7_1).f0.f2)], .agg #[.int .u8 a1_0, .int .u8 a1_1, .int .u8 a1_2]] (by rfl) rfl rfl (by (try simp only [List.map_toArray, List.map_cons, List.map_nil]); first | done | rfl | (simp only [List.length_drop, List.length_take]; rfl)) ?_
              with_reducible refine (pledgeref04_Less.calls ((rd_T81 l0 x7_1).f0.f0) ((rd_T81 l0 x7_1).f0.f1) ((rd_T81 l0 x7_1).f0.f2) a1_0 a1_1 a1_2 t126 _ A9.out).mono ?_
              rintro e w11 ⟨rfl, hb⟩
              refine ⟨_, rfl, ?_⟩
              have n0_ := Aside0.mk (Kd.R_below (by (with_reducible repeat (first | apply Kd.R_alloc | apply Kd.R_drewN | apply Kd.R_drew)); exact HO_5.out) hb)
              have n1_ := Aside0.mk (blk_below (g := gb121) (o := .cells #[.int .u8 a1_0, .int .u8 a1_1, .int .u8 a1_2, .int .i64 a1_3, .int .i64 a1_4, .int .i64 a1_5, .int .i64 a1_6, .int .i64 a1_7, .int .i64 a1_8] 81 (0, 0)) (by (with_reducible repeat (first | refine blk_drewN ?_ _ | refine blk_drew ?_ | refine blk_alloc ?_ _)); exact BK121.out) hb)
              have n2_ := Aside0.mk (below_step (by repeat (first | (with_reducible first | exact HB.out | apply below_alloc | apply pw_below_drewN | apply below_drew1 | refine below_set ?_ GE121.out) | exact HB.out)) hb)
              clear HO_5
              clear BK121
              clear HB
              have HO_5 := n0_
              have BK121 := n1_
              have HB := n2_
              clear n0_ n1_ n2_
              (try clear hb)
              (try clear hb2)
              (try clear hk)
              (try clear hi)
              refine hK.out _ _ ⟨(blk_cell BK121.out 0).trans rfl, (blk_cell BK121.out 1).trans rfl, (blk_cell BK121.out 2).trans rfl, (blk_cell BK121.out 3).trans rfl, (blk_cell BK121.out 4).trans rfl, (blk_cell BK121.out 5).trans rfl, (blk_cell BK121.out 6).trans rfl, (blk_cell BK121.out 7).trans rfl, (blk_cell BK121.out 8).trans rfl, ((HB.out.cell (World.block_lt_of_cell? w _ hw125_0)).trans hw125_0), ((HB.out.cell (World.block_lt_of_cell? w _ hw125_1)).trans hw125_1), ((HB.out.cell (World.block_lt_of_cell? w _ hw125_2)).trans hw125_2), ((HB.out.cell (World.block_lt_of_cell? w _ hw125_3)).trans hw125_3), ((HB.out.cell (World.block_lt_of_cell? w _ hw125_4)).trans hw125_4), ((HB.out.cell (World.block_lt_of_cell? w _ hw125_5)).trans hw125_5), ((HB.out.cell (World.block_lt_of_cell? w _ hw125_6)).trans hw125_6), ((HB.out.cell (World.block_lt_of_cell? w _ hw125_7)).trans hw125_7), ((HB.out.cell (World.block_lt_of_cell? w _ hw125_8)).trans hw125_8)⟩ (fun hHeld => ?_)
              clear hK K
              refine norm_ (a' := ?_) ?_ ?_
              rotate_left
              · show Act.put _ (some 24) _ = _
                simp only [Act.put, List.setIfInBounds_toArray, List.set_cons_zero, List.set_cons_succ, i64_w, i32_w]
                rfl
              refine pure_ (i := 11) (N := some 25) (v := ?_) (a' := ?_) #[true, true, true, true, true, true, true, true, true, true, true, true, false] rfl rfl (any_of HT_.out (by kernel_rfl)) (fun _ _ _ h => h) (Or.inl ⟨by rfl, ?_⟩) ?_ ?_
              rotate_left
              · intro w'
                go_simp
                with_reducible rfl
              rotate_left
              · simp only [Act.put, List.setIfInBounds_toArray, List.set_cons_zero, List.set_cons_succ, i64_w, i32_w]
                rfl
              refine pure_ (i := 12) (N := some 26) (v := ?_) (a' := ?_) #[true, true, true, true, true, true, true, true, true, true, true, true, true] rfl rfl (any_of HT_.out (by kernel_rfl)) (fun _ _ _ h => h) (Or.inl ⟨by rfl, ?_⟩) ?_ ?_
              rotate_left
              · intro w'
                go_simp
                with_reducible rfl
              rotate_left
              · simp only [Act.put, List.setIfInBounds_toArray, List.set_cons_zero, List.set_cons_succ, i64_w, i32_w]
                rfl
              refine done_ (done_of HT_.out (by kernel_rfl)) ?_
              try go_wp2
              go_meet
              case rel => exact ⟨_, (!t126), (by first | rfl | (simp; done) | (simp [*]; done)), H', ⟨by have := HK1.out; first | omega | exact Nat.le_refl _⟩, ⟨by (with_reducible repeat (first | apply Kd.R_alloc | apply Kd.R_drewN | apply Kd.R_drew)); exact HO_5.out⟩, ⟨by (with_reducible repeat (first | refine blk_drewN ?_ _ | refine blk_drew ?_ | refine blk_alloc ?_ _)); exact BK121.out⟩, ⟨by repeat (first | (with_reducible first | exact HB.out | apply below_alloc | apply pw_below_drewN | apply below_drew1 | refine below_set ?_ GE121.out) | exact HB.out)⟩⟩
            · rw [if_neg c8] at H
              exact absurd H (by simp)
        case rest =>
          clear HC5
          try clear p1
          try clear q1
          try clear hx1
          try clear p2
          try clear c3
          try clear c4
          try clear c4b0
          try clear c6
          try clear c8
          try clear c8b0
          try clear hx125_0
          try clear hx125_1
          try clear hx125_2
          try clear hx125_3
          try clear hx125_4
          try clear hx125_5
          try clear hx125_6
          try clear hx125_7
          try clear hx125_8
          try clear p125
          try clear p2
          try clear q125
          obtain ⟨kq, x26_4, rfl, HA, HJ4, HO_5, BK121, HB⟩ := hcut
          cases kq with
          | zero => exact absurd HA.out (by simp [pledgeref18_put.j1])
          | succ kj4 =>
            have H := HA.out
            clear HA
            simp only [pledgeref18_put.j1] at H
            by_cases c12 : x26_4 = true
            · subst c12
              have H1 : (if x5_1.length < 2513169434916 then ((some (x5_1 ++ [(⟨(⟨a1_0, a1_1, a1_2⟩ : S25), (⟨a1_3, a1_4, a1_5, a1_6, a1_7, a1_8⟩ : S64)⟩ : S81)] : List (S81))).bind fun y127 => (if 0 ≤ x7_1 then (if x7_1 < (l0.length : Int) then (if (!(((rd_T81 l0 x7_1).f0.f0) == a1_0) || (!(((rd_T81 l0 x7_1).f0.f1) == a1_1) || (!(((rd_T81 l0 x7_1).f0.f2) == a1_2)))) = true then (if y127.length < 2513169434916 then (pledgeref18_put.l0 kj4 l0 (y127 ++ [(⟨(⟨(rd_T81 l0 x7_1).f0.f0, (rd_T81 l0 x7_1).f0.f1, (rd_T81 l0 x7_1).f0.f2⟩ : S25), (⟨(rd_T81 l0 x7_1).f1.f0, (rd_T81 l0 x7_1).f1.f1, (rd_T81 l0 x7_1).f1.f2, (rd_T81 l0 x7_1).f1.f3, (rd_T81 l0 x7_1).f1.f4, (rd_T81 l0 x7_1).f1.f5⟩ : S64)⟩ : S81)]) true (wrap64 (x7_1 + 1)) a1_0 a1_1 a1_2 a1_3 a1_4 a1_5 a1_6 a1_7 a1_8) else (none)) else (pledgeref18_put.l0 kj4 l0 y127 true (wrap64 (x7_1 + 1)) a1_0 a1_1 a1_2 a1_3 a1_4 a1_5 a1_6 a1_7 a1_8)) else (none)) else (none))) else (none)) = some r := by rw [if_pos rfl] at H; exact H
              clear H
              have H := H1
              clear H1
              by_cases c13 : x5_1.length < 2513169434916
              · rw [if_pos c13] at H
                have LMc13 := Aside0.mk c13
                clear c13
                obtain ⟨y127, hy127⟩ : ∃ y_ : List (S81), y_ = (x5_1 ++ [(⟨(⟨a1_0, a1_1, a1_2⟩ : S25), (⟨a1_3, a1_4, a1_5, a1_6, a1_7, a1_8⟩ : S64)⟩ : S81)]) := ⟨_, rfl⟩
                replace H : (if 0 ≤ x7_1 then (if x7_1 < (l0.length : Int) then (if (!(((rd_T81 l0 x7_1).f0.f0) == a1_0) || (!(((rd_T81 l0 x7_1).f0.f1) == a1_1) || (!(((rd_T81 l0 x7_1).f0.f2) == a1_2)))) = true then (if y127.length < 2513169434916 then (pledgeref18_put.l0 kj4 l0 (y127 ++ [(⟨(⟨(rd_T81 l0 x7_1).f0.f0, (rd_T81 l0 x7_1).f0.f1, (rd_T81 l0 x7_1).f0.f2⟩ : S25), (⟨(rd_T81 l0 x7_1).f1.f0, (rd_T81 l0 x7_1).f1.f1, (rd_T81 l0 x7_1).f1.f2, (rd_T81 l0 x7_1).f1.f3, (rd_T81 l0 x7_1).f1.f4, (rd_T81 l0 x7_1).f1.f5⟩ : S64)⟩ : S81)]) true (wrap64 (x7_1 + 1)) a1_0 a1_1 a1_2 a1_3 a1_4 a1_5 a1_6 a1_7 a1_8) else (none)) else (pledgeref18_put.l0 kj4 l0 y127 true (wrap64 (x7_1 + 1)) a1_0 a1_1 a1_2 a1_3 a1_4 a1_5 a1_6 a1_7 a1_8)) else (none)) else (none)) = some r := by first | (rw [hy127]; with_reducible exact H) | (have H2_ := (Option.bind_some _ _).symm.trans H; rw [hy127]; with_reducible exact H2_) | (have H2_ := (Option.bind_some _ _).symm.trans H; with_reducible exact H2_) | with_reducible exact H | (rw [hy127]; exact H) | exact H
                have Ny127 := Aside0.mk hy127
                clear hy127
                by_cases c14 : 0 ≤ x7_1
                · rw [if_pos c14] at H
                  have c14b0 : decide (0 ≤ x7_1) = true := decide_eq_true c14
                  clear c14
                  by_cases c15 : x7_1 < (l0.length : Int)
                  · rw [if_pos c15] at H
                    have c15b0 : decide (x7_1 < (l0.length : Int)) = true := decide_eq_true c15
                    clear c15
                    by_cases c16 : (!(((rd_T81 l0 x7_1).f0.f0) == a1_0) || (!(((rd_T81 l0 x7_1).f0.f1) == a1_1) || (!(((rd_T81 l0 x7_1).f0.f2) == a1_2)))) = true
                    · rw [if_pos c16] at H
                      have c16b0 : (!(((rd_T81 l0 x7_1).f0.f0) == a1_0) || (!(((rd_T81 l0 x7_1).f0.f1) == a1_1) || (!(((rd_T81 l0 x7_1).f0.f2) == a1_2)))) = true := c16
                      clear c16
                      by_cases c17 : y127.length < 2513169434916
                      · rw [if_pos c17] at H
                        have LMc17 := Aside0.mk c17
                        clear c17
                        obtain ⟨y132, hy132⟩ : ∃ y_ : List (S81), y_ = (y127 ++ [(⟨(⟨(rd_T81 l0 x7_1).f0.f0, (rd_T81 l0 x7_1).f0.f1, (rd_T81 l0 x7_1).f0.f2⟩ : S25), (⟨(rd_T81 l0 x7_1).f1.f0, (rd_T81 l0 x7_1).f1.f1, (rd_T81 l0 x7_1).f1.f2, (rd_T81 l0 x7_1).f1.f3, (rd_T81 l0 x7_1).f1.f4, (rd_T81 l0 x7_1).f1.f5⟩ : S64)⟩ : S81)]) := ⟨_, rfl⟩
                        replace H : (pledgeref18_put.l0 kj4 l0 y132 true (wrap64 (x7_1 + 1)) a1_0 a1_1 a1_2 a1_3 a1_4 a1_5 a1_6 a1_7 a1_8) = some r := by first | (rw [hy132]; with_reducible exact H) | (have H2_ := (Option.bind_some _ _).symm.trans H; rw [hy132]; with_reducible exact H2_) | (have H2_ := (Option.bind_some _ _).symm.trans H; with_reducible exact H2_) | with_reducible exact H | (rw [hy132]; exact H) | exact H
                        have Ny132 := Aside0.mk hy132
                        clear hy132
                        have H' := Aside0.mk H
                        clear H
                        have hcz18_0 : wc.cell? ⟨gb121, 0, none⟩ = some (.int .u8 a1_0) := (blk_cell BK121.out 0).trans rfl
                        have hcz18_1 : wc.cell? ⟨gb121, 1, none⟩ = some (.int .u8 a1_1) := (blk_cell BK121.out 1).trans rfl
                        have hcz18_2 : wc.cell? ⟨gb121, 2, none⟩ = some (.int .u8 a1_2) := (blk_cell BK121.out 2).trans rfl
                        have hcz18_3 : wc.cell? ⟨gb121, 3, none⟩ = some (.int .i64 a1_3) := (blk_cell BK121.out 3).trans rfl
                        have hcz18_4 : wc.cell? ⟨gb121, 4, none⟩ = some (.int .i64 a1_4) := (blk_cell BK121.out 4).trans rfl
                        have hcz18_5 : wc.cell? ⟨gb121, 5, none⟩ = some (.int .i64 a1_5) := (blk_cell BK121.out 5).trans rfl
                        have hcz18_6 : wc.cell? ⟨gb121, 6, none⟩ = some (.int .i64 a1_6) := (blk_cell BK121.out 6).trans rfl
                        have hcz18_7 : wc.cell? ⟨gb121, 7, none⟩ = some (.int .i64 a1_7) := (blk_cell BK121.out 7).trans rfl
                        have hcz18_8 : wc.cell? ⟨gb121, 8, none⟩ = some (.int .i64 a1_8) := (blk_cell BK121.out 8).trans rfl
                        have hfz18_0 := blk_frozen BK121.out 0
                        have hfz18_1 := blk_frozen BK121.out 1
                        have hfz18_2 := blk_frozen BK121.out 2
                        have hfz18_3 := blk_frozen BK121.out 3
                        have hfz18_4 := blk_frozen BK121.out 4
                        have hfz18_5 := blk_frozen BK121.out 5
                        have hfz18_6 := blk_frozen BK121.out 6
                        have hfz18_7 := blk_frozen BK121.out 7
                        have hfz18_8 := blk_frozen BK121.out 8
                        try go_wp2_with (first | ((with_reducible refine gate_builtin (b := .append) (xs := #[.tmp 27, .tmp 29]) rfl ?_); at_builtin; refine Kd.R_append k81 (w0 := w) w.heap.size rfl (.tmp 27) (.tmp 29) 37 81 (.agg #[(.int .u8 0), (.int .u8 0), (.int .u8 0), (.int .i64 0), (.int .i64 0), (.int .i64 0), (.int .i64 0), (.int .i64 0), (.int .i64 0)]) 56 rfl Try.underlying37 info81 rfl (by decide) (by omega) u5 x5_1 (⟨(⟨a1_0, a1_1, a1_2⟩ : S25), (⟨a1_3, a1_4, a1_5, a1_6, a1_7, a1_8⟩ : S64)⟩ : S81) [.int .u8 a1_0, .int .u8 a1_1, .int .u8 a1_2, .int .i64 a1_3, .int .i64 a1_4, .int .i64 a1_5, .int .i64 a1_6, .int .i64 a1_7, .int .i64 a1_8] (fun k_ => k_ ≠ gb121) (fun _ => False) rfl rfl ?aP (fun _ hk => hk.elim) ?aF ?aO ?aB ?aS ?aL ?_; (case aP => exact k81_mkM _ _ _ (⟨(⟨a1_0, a1_1, a1_2⟩ : S25), (⟨a1_3, a1_4, a1_5, a1_6, a1_7, a1_8⟩ : S64)⟩ : S81)); (case aB => exact (by repeat (first | (with_reducible first | exact HB.out | apply below_alloc | apply pw_below_drewN | apply below_drew1 | refine below_set ?_ GE121.out) | exact HB.out))); (case aF => exact (fun k_ hk => Kd.freshB (g := gb121) (o := .cells #[.int .u8 a1_0, .int .u8 a1_1, .int .u8 a1_2, .int .i64 a1_3, .int .i64 a1_4, .int .i64 a1_5, .int .i64 a1_6, .int .i64 a1_7, .int .i64 a1_8] 81 (0, 0)) (by (with_reducible repeat (first | refine blk_drewN ?_ _ | refine blk_drew ?_ | refine blk_alloc ?_ _)); exact BK121.out) k_ hk)); (case aO => exact (by (with_reducible repeat (first | apply Kd.R_alloc | apply Kd.R_drewN | apply Kd.R_drew)); exact HO_5.out)); (case aS => exact (below_size (by repeat (first | (with_reducible first | exact HB.out | apply below_alloc | apply pw_below_drewN | apply below_drew1 | refine below_set ?_ GE121.out) | exact HB.out)))); (case aL => have := LMc13.out; omega); intro v128 w19 ho hb hg hat; rw [← Ny127.out] at ho; have n0_ := Aside0.mk (blk_grown (g := gb121) (o := .cells #[.int .u8 a1_0, .int .u8 a1_1, .int .u8 a1_2, .int .i64 a1_3, .int .i64 a1_4, .int .i64 a1_5, .int .i64 a1_6, .int .i64 a1_7, .int .i64 a1_8] 81 (0, 0)) (by (with_reducible repeat (first | refine blk_drewN ?_ _ | refine blk_drew ?_ | refine blk_alloc ?_ _)); exact BK121.out) hg (Kd.R_away HO_5.out (fun _ hk => hk))); have n1_ := Aside0.mk (hb); have n2_ := Aside0.mk (ho); clear BK121; clear HB; clear HO_5; have BK121 := n0_; have HB := n1_; have HO129 := n2_; clear n0_ n1_ n2_; clear ho hb hg hat))
                        have n0_ := Aside0.mk (Kd.R_drew HO129.out)
                        have n1_ := Aside0.mk (blk_drew BK121.out)
                        have n2_ := Aside0.mk (below_drew1 HB.out)
                        clear HO129
                        clear BK121
                        clear HB
                        have HO129 := n0_
                        have BK121 := n1_
                        have HB := n2_
                        clear n0_ n1_ n2_
                        have p130 : 0 ≤ (x7_1 : Int) := of_decide_eq_true (by first | (with_reducible assumption) | assumption)
                        have q130 : x7_1 < (l0.length : Int) := of_decide_eq_true (by first | (with_reducible assumption) | assumption)
                        obtain ⟨ad130, e130, hx130_0, hx130_1, hx130_2, hx130_3, hx130_4, hx130_5, hx130_6, hx130_7, hx130_8⟩ := at_T81 HR0.out x7_1 p130 q130
                        have hw130_8 := hx130_8
                        have hw130_7 := hx130_7
                        have hw130_6 := hx130_6
                        have hw130_5 := hx130_5
                        have hw130_4 := hx130_4
                        have hw130_3 := hx130_3
                        have hw130_2 := hx130_2
                        have hw130_1 := hx130_1
                        have hw130_0 := hx130_0
                        cases e130
                        replace hx130_0 := (HB.out.cell (World.block_lt_of_cell? w _ hx130_0)).trans hx130_0
                        replace hx130_1 := (HB.out.cell (World.block_lt_of_cell? w _ hx130_1)).trans hx130_1
                        replace hx130_2 := (HB.out.cell (World.block_lt_of_cell? w _ hx130_2)).trans hx130_2
                        replace hx130_3 := (HB.out.cell (World.block_lt_of_cell? w _ hx130_3)).trans hx130_3
                        replace hx130_4 := (HB.out.cell (World.block_lt_of_cell? w _ hx130_4)).trans hx130_4
                        replace hx130_5 := (HB.out.cell (World.block_lt_of_cell? w _ hx130_5)).trans hx130_5
                        replace hx130_6 := (HB.out.cell (World.block_lt_of_cell? w _ hx130_6)).trans hx130_6
                        replace hx130_7 := (HB.out.cell (World.block_lt_of_cell? w _ hx130_7)).trans hx130_7
                        replace hx130_8 := (HB.out.cell (World.block_lt_of_cell? w _ hx130_8)).trans hx130_8
                        replace p130 := eq_true p130
                        replace q130 := eq_true q130
                        refine start_ (n := 8) (S := fun w' => w'.cell? ⟨gb121, 0, none⟩ = some (.int .u8 a1_0) ∧ w'.cell? ⟨gb121, 1, none⟩ = some (.int .u8 a1_1) ∧ w'.cell? ⟨gb121, 2, none⟩ = some (.int .u8 a1_2) ∧ w'.cell? ⟨gb121, 3, none⟩ = some (.int .i64 a1_3) ∧ w'.cell? ⟨gb121, 4, none⟩ = some (.int .i64 a1_4) ∧ w'.cell? ⟨gb121, 5, none⟩ = some (.int .i64 a1_5) ∧ w'.cell? ⟨gb121, 6, none⟩ = some (.int .i64 a1_6) ∧ w'.cell? ⟨gb121, 7, none⟩ = some (.int .i64 a1_7) ∧ w'.cell? ⟨gb121, 8, none⟩ = some (.int .i64 a1_8) ∧ w'.cell? (ad130.add ((x7_1).toNat * 9)) = some (.int .u8 ((rd_T81 l0 x7_1).f0.f0)) ∧ w'.cell? ⟨(ad130.add ((x7_1).toNat * 9)).block, (ad130.add ((x7_1).toNat * 9)).off + 1, none⟩ = some (.int .u8 ((rd_T81 l0 x7_1).f0.f1)) ∧ w'.cell? ⟨(ad130.add ((x7_1).toNat * 9)).block, (ad130.add ((x7_1).toNat * 9)).off + 2, none⟩ = some (.int .u8 ((rd_T81 l0 x7_1).f0.f2)) ∧ w'.cell? ⟨(ad130.add ((x7_1).toNat * 9)).block, (ad130.add ((x7_1).toNat * 9)).off + 3, none⟩ = some (.int .i64 ((rd_T81 l0 x7_1).f1.f0)) ∧ w'.cell? ⟨(ad130.add ((x7_1).toNat * 9)).block, (ad130.add ((x7_1).toNat * 9)).off + 4, none⟩ = some (.int .i64 ((rd_T81 l0 x7_1).f1.f1)) ∧ w'.cell? ⟨(ad130.add ((x7_1).toNat * 9)).block, (ad130.add ((x7_1).toNat * 9)).off + 5, none⟩ = some (.int .i64 ((rd_T81 l0 x7_1).f1.f2)) ∧ w'.cell? ⟨(ad130.add ((x7_1).toNat * 9)).block, (ad130.add ((x7_1).toNat * 9)).off + 6, none⟩ = some (.int .i64 ((rd_T81 l0 x7_1).f1.f3)) ∧ w'.cell? ⟨(ad130.add ((x7_1).toNat * 9)).block, (ad130.add ((x7_1).toNat * 9)).off + 7, none⟩ = some (.int .i64 ((rd_T81 l0 x7_1).f1.f4)) ∧ w'.cell? ⟨(ad130.add ((x7_1).toNat * 9)).block, (ad130.add ((x7_1).toNat * 9)).off + 8, none⟩ = some (.int .i64 ((rd_T81 l0 x7_1).f1.f5))) (ds := []) #[false, false, false, false, false, false, false, false] (by kernel_rfl) rfl rfl ⟨(blk_cell BK121.out 0).trans rfl, (blk_cell BK121.out 1).trans rfl, (blk_cell BK121.out 2).trans rfl, (blk_cell BK121.out 3).trans rfl, (blk_cell BK121.out 4).trans rfl, (blk_cell BK121.out 5).trans rfl, (blk_cell BK121.out 6).trans rfl, (blk_cell BK121.out 7).trans rfl, (blk_cell BK121.out 8).trans rfl, ((HB.out.cell (World.block_lt_of_cell? w _ hw130_0)).trans hw130_0), ((HB.out.cell (World.block_lt_of_cell? w _ hw130_1)).trans hw130_1), ((HB.out.cell (World.block_lt_of_cell? w _ hw130_2)).trans hw130_2), ((HB.out.cell (World.block_lt_of_cell? w _ hw130_3)).trans hw130_3), ((HB.out.cell (World.block_lt_of_cell? w _ hw130_4)).trans hw130_4), ((HB.out.cell (World.block_lt_of_cell? w _ hw130_5)).trans hw130_5), ((HB.out.cell (World.block_lt_of_cell? w _ hw130_6)).trans hw130_6), ((HB.out.cell (World.block_lt_of_cell? w _ hw130_7)).trans hw130_7), ((HB.out.cell (World.block_lt_of_cell? w _ hw130_8)).trans hw130_8)⟩ (fun hHeld => ?_); refine with_tabW pledgeref18_put.tab9 pledgeref18_put.bits9 (fun HT_ HW_ => ?_)
                        generalize w19.drew = w20 at HO129 BK121 HB hx130_0 hx130_1 hx130_2 hx130_3 hx130_4 hx130_5 hx130_6 hx130_7 hx130_8 hHeld ⊢
                        refine pure_ (i := 0) (N := some 31) (v := ?_) (a' := ?_) #[true, false, false, false, false, false, false, false] rfl rfl (any_of HT_.out (by kernel_rfl)) (fun _ _ _ h => h) (Or.inl ⟨by rfl, ?_⟩) ?_ ?_
                        rotate_left
                        · intro w'
                          go_simp
                          with_reducible rfl
                        rotate_left
                        · simp only [Act.put, List.setIfInBounds_toArray, List.set_cons_zero, List.set_cons_succ, i64_w, i32_w]
                          rfl
                        refine pure_ (i := 1) (N := some 32) (v := ?_) (a' := ?_) #[true, true, false, false, false, false, false, false] rfl rfl (any_of HT_.out (by kernel_rfl)) (fun _ _ _ h => h) (Or.inl ⟨by rfl, ?_⟩) ?_ ?_
                        rotate_left
                        · intro w'
                          go_simp
                          with_reducible rfl
                        rotate_left
                        · simp only [Act.put, List.setIfInBounds_toArray, List.set_cons_zero, List.set_cons_succ, i64_w, i32_w]
                          rfl
                        refine pure_ (i := 2) (N := some 33) (v := ?_) (a' := ?_) #[true, true, true, false, false, false, false, false] rfl rfl (any_of HT_.out (by kernel_rfl)) (fun _ _ _ h => h) (Or.inl ⟨by rfl, ?_⟩) ?_ ?_
                        rotate_left
                        · intro w'
                          go_simp
                          with_reducible rfl
                        rotate_left
                        · simp only [Act.put, List.setIfInBounds_toArray, List.set_cons_zero, List.set_cons_succ, i64_w, i32_w]
                          rfl
                        refine pure_ (i := 3) (N := some 34) (v := ?_) (a' := ?_) #[true, true, true, true, false, false, false, false] rfl rfl (any_of HT_.out (by kernel_rfl)) (fun _ _ _ h => h) (Or.inl ⟨by rfl, ?_⟩) ?_ ?_
                        rotate_left
                        · intro w'
                          go_simp
                          with_reducible rfl
                        rotate_left
                        · simp only [Act.put, List.setIfInBounds_toArray, List.set_cons_zero, List.set_cons_succ, i64_w, i32_w]
                          rfl
                        refine pure_ (i := 5) (N := some 36) (v := ?_) (a' := ?_) #[true, true, true, true, false, true, false, false] rfl rfl (any_of HT_.out (by kernel_rfl)) (fun _ _ _ h => h) (Or.inl ⟨by rfl, ?_⟩) ?_ ?_
                        rotate_left
                        · intro w'
                          go_simp
                          with_reducible rfl
                        rotate_left
                        · simp only [Act.put, List.setIfInBounds_toArray, List.set_cons_zero, List.set_cons_succ, i64_w, i32_w]
                          rfl
                        refine take_ (i := 4) (N := some 35) (v := ?_) (a' := ?_) #[true, true, true, true, true, true, false, false] rfl rfl (take_ofW HT_.out HW_.out (by kernel_rfl)) (fun _ _ _ h => h) (Or.inl ⟨by rfl, ?_⟩) hHeld ?_ ?_
                        rotate_left
                        · rintro w' ⟨s0, s1, s2, s3, s4, s5, s6, s7, s8, s9, s10, s11, s12, s13, s14, s15, s16, s17⟩
                          go_simp
                          with_reducible rfl
                        rotate_left
                        · simp only [Act.put, List.setIfInBounds_toArray, List.set_cons_zero, List.set_cons_succ, i64_w, i32_w]
                          rfl
                        refine take_ (i := 6) (N := some 37) (v := ?_) (a' := ?_) #[true, true, true, true, true, true, true, false] rfl rfl (take_ofW HT_.out HW_.out (by kernel_rfl)) (fun _ _ _ h => h) (Or.inl ⟨by rfl, ?_⟩) hHeld ?_ ?_
                        rotate_left
                        · rintro w' ⟨s0, s1, s2, s3, s4, s5, s6, s7, s8, s9, s10, s11, s12, s13, s14, s15, s16, s17⟩
                          go_simp
                          with_reducible rfl
                        rotate_left
                        · simp only [Act.put, List.setIfInBounds_toArray, List.set_cons_zero, List.set_cons_succ, i64_w, i32_w]
                          rfl
                        refine pure_ (i := 7) (N := some 38) (v := ?_) (a' := ?_) #[true, true, true, true, true, true, true, true] rfl rfl (any_of HT_.out (by kernel_rfl)) (fun _ _ _ h => h) (Or.inl ⟨by rfl, ?_⟩) ?_ ?_
                        rotate_left
                        · intro w'
                          go_simp
                          with_reducible rfl
                        rotate_left
                        · simp only [Act.put, List.setIfInBounds_toArray, List.set_cons_zero, List.set_cons_succ, i64_w, i32_w]
                          rfl
                        refine done_ (done_of HT_.out (by kernel_rfl)) ?_
                        have p131 : 0 ≤ (x7_1 : Int) := of_decide_eq_true (by first | (with_reducible assumption) | assumption)
                        have q131 : x7_1 < (l0.length : Int) := of_decide_eq_true (by first | (with_reducible assumption) | assumption)
                        obtain ⟨ad131, e131, hx131_0, hx131_1, hx131_2, hx131_3, hx131_4, hx131_5, hx131_6, hx131_7, hx131_8⟩ := at_T81 HR0.out x7_1 p131 q131
                        obtain rfl : ad130 = ad131 := (by injection e131)
                        replace hx131_0 := (HB.out.cell (World.block_lt_of_cell? w _ hx131_0)).trans hx131_0
                        replace hx131_1 := (HB.out.cell (World.block_lt_of_cell? w _ hx131_1)).trans hx131_1
                        replace hx131_2 := (HB.out.cell (World.block_lt_of_cell? w _ hx131_2)).trans hx131_2
                        replace hx131_3 := (HB.out.cell (World.block_lt_of_cell? w _ hx131_3)).trans hx131_3
                        replace hx131_4 := (HB.out.cell (World.block_lt_of_cell? w _ hx131_4)).trans hx131_4
                        replace hx131_5 := (HB.out.cell (World.block_lt_of_cell? w _ hx131_5)).trans hx131_5
                        replace hx131_6 := (HB.out.cell (World.block_lt_of_cell? w _ hx131_6)).trans hx131_6
                        replace hx131_7 := (HB.out.cell (World.block_lt_of_cell? w _ hx131_7)).trans hx131_7
                        replace hx131_8 := (HB.out.cell (World.block_lt_of_cell? w _ hx131_8)).trans hx131_8
                        replace p131 := eq_true p131
                        replace q131 := eq_true q131
                        try go_wp2_with (first | ((with_reducible refine gate_builtin (b := .append) (xs := #[.tmp 39, .tmp 44]) rfl ?_); at_builtin; refine Kd.R_append k81 (w0 := w) w.heap.size rfl (.tmp 39) (.tmp 44) 37 81 (.agg #[(.int .u8 0), (.int .u8 0), (.int .u8 0), (.int .i64 0), (.int .i64 0), (.int .i64 0), (.int .i64 0), (.int .i64 0), (.int .i64 0)]) 56 rfl Try.underlying37 info81 rfl (by decide) (by omega) v128 y127 (⟨(⟨(rd_T81 l0 x7_1).f0.f0, (rd_T81 l0 x7_1).f0.f1, (rd_T81 l0 x7_1).f0.f2⟩ : S25), (⟨(rd_T81 l0 x7_1).f1.f0, (rd_T81 l0 x7_1).f1.f1, (rd_T81 l0 x7_1).f1.f2, (rd_T81 l0 x7_1).f1.f3, (rd_T81 l0 x7_1).f1.f4, (rd_T81 l0 x7_1).f1.f5⟩ : S64)⟩ : S81) [.int .u8 ((rd_T81 l0 x7_1).f0.f0), .int .u8 ((rd_T81 l0 x7_1).f0.f1), .int .u8 ((rd_T81 l0 x7_1).f0.f2), .int .i64 ((rd_T81 l0 x7_1).f1.f0), .int .i64 ((rd_T81 l0 x7_1).f1.f1), .int .i64 ((rd_T81 l0 x7_1).f1.f2), .int .i64 ((rd_T81 l0 x7_1).f1.f3), .int .i64 ((rd_T81 l0 x7_1).f1.f4), .int .i64 ((rd_T81 l0 x7_1).f1.f5)] (fun k_ => k_ ≠ gb121) (fun _ => False) rfl rfl ?aP (fun _ hk => hk.elim) ?aF ?aO ?aB ?aS ?aL ?_; (case aP => exact k81_mkM _ _ _ (⟨(⟨(rd_T81 l0 x7_1).f0.f0, (rd_T81 l0 x7_1).f0.f1, (rd_T81 l0 x7_1).f0.f2⟩ : S25), (⟨(rd_T81 l0 x7_1).f1.f0, (rd_T81 l0 x7_1).f1.f1, (rd_T81 l0 x7_1).f1.f2, (rd_T81 l0 x7_1).f1.f3, (rd_T81 l0 x7_1).f1.f4, (rd_T81 l0 x7_1).f1.f5⟩ : S64)⟩ : S81)); (case aB => exact (by repeat (first | (with_reducible first | exact HB.out | apply below_alloc | apply pw_below_drewN | apply below_drew1 | refine below_set ?_ GE121.out) | exact HB.out))); (case aF => exact (fun k_ hk => Kd.freshB (g := gb121) (o := .cells #[.int .u8 a1_0, .int .u8 a1_1, .int .u8 a1_2, .int .i64 a1_3, .int .i64 a1_4, .int .i64 a1_5, .int .i64 a1_6, .int .i64 a1_7, .int .i64 a1_8] 81 (0, 0)) (by (with_reducible repeat (first | refine blk_drewN ?_ _ | refine blk_drew ?_ | refine blk_alloc ?_ _)); exact BK121.out) k_ hk)); (case aO => exact (by (with_reducible repeat (first | apply Kd.R_alloc | apply Kd.R_drewN | apply Kd.R_drew)); exact HO129.out)); (case aS => exact (below_size (by repeat (first | (with_reducible first | exact HB.out | apply below_alloc | apply pw_below_drewN | apply below_drew1 | refine below_set ?_ GE121.out) | exact HB.out)))); (case aL => have := LMc17.out; omega); intro v133 w21 ho hb hg hat; rw [← Ny132.out] at ho; have n0_ := Aside0.mk (blk_grown (g := gb121) (o := .cells #[.int .u8 a1_0, .int .u8 a1_1, .int .u8 a1_2, .int .i64 a1_3, .int .i64 a1_4, .int .i64 a1_5, .int .i64 a1_6, .int .i64 a1_7, .int .i64 a1_8] 81 (0, 0)) (by (with_reducible repeat (first | refine blk_drewN ?_ _ | refine blk_drew ?_ | refine blk_alloc ?_ _)); exact BK121.out) hg (Kd.R_away HO129.out (fun _ hk => hk))); have n1_ := Aside0.mk (hb); have n2_ := Aside0.mk (ho); clear BK121; clear HB; clear HO129; have BK121 := n0_; have HB := n1_; have HO134 := n2_; clear n0_ n1_ n2_; clear ho hb hg hat))
                        go_roundg kj4
                        case measure => have := HK1.out; have := HJ4.out; omega
                        case rel => exact ⟨(y132), (true), (wrap64 (x7_1 + 1)), (by first | rfl | (simp; done) | (simp [*]; done)), (by first | rfl | (simp; done) | (simp [*]; done)), H', ⟨by have := HK1.out; have := HJ4.out; omega⟩, ⟨by (with_reducible repeat (first | apply Kd.R_alloc | apply Kd.R_drewN | apply Kd.R_drew)); exact HO134.out⟩, ⟨by (with_reducible repeat (first | refine blk_drewN ?_ _ | refine blk_drew ?_ | refine blk_alloc ?_ _)); exact BK121.out⟩, ⟨by repeat (first | (with_reducible first | exact HB.out | apply below_alloc | apply pw_below_drewN | apply below_drew1 | refine below_set ?_ GE121.out) | exact HB.out)⟩⟩
                      · rw [if_neg c17] at H
                        exact absurd H (by simp)
                    · rw [if_neg c16] at H
                      have c16b0 : (!(((rd_T81 l0 x7_1).f0.f0) == a1_0) || (!(((rd_T81 l0 x7_1).f0.f1) == a1_1) || (!(((rd_T81 l0 x7_1).f0.f2) == a1_2)))) = false := by simpa using c16
                      clear c16
                      have H' := Aside0.mk H
                      clear H
                      have hcz22_0 : wc.cell? ⟨gb121, 0, none⟩ = some (.int .u8 a1_0) := (blk_cell BK121.out 0).trans rfl
                      have hcz22_1 : wc.cell? ⟨gb121, 1, none⟩ = some (.int .u8 a1_1) := (blk_cell BK121.out 1).trans rfl
                      have hcz22_2 : wc.cell? ⟨gb121, 2, none⟩ = some (.int .u8 a1_2) := (blk_cell BK121.out 2).trans rfl
                      have hcz22_3 : wc.cell? ⟨gb121, 3, none⟩ = some (.int .i64 a1_3) := (blk_cell BK121.out 3).trans rfl
                      have hcz22_4 : wc.cell? ⟨gb121, 4, none⟩ = some (.int .i64 a1_4) := (blk_cell BK121.out 4).trans rfl
                      have hcz22_5 : wc.cell? ⟨gb121, 5, none⟩ = some (.int .i64 a1_5) := (blk_cell BK121.out 5).trans rfl
                      have hcz22_6 : wc.cell? ⟨gb121, 6, none⟩ = some (.int .i64 a1_6) := (blk_cell BK121.out 6).trans rfl
                      have hcz22_7 : wc.cell? ⟨gb121, 7, none⟩ = some (.int .i64 a1_7) := (blk_cell BK121.out 7).trans rfl
                      have hcz22_8 : wc.cell? ⟨gb121, 8, none⟩ = some (.int .i64 a1_8) := (blk_cell BK121.out 8).trans rfl
                      have hfz22_0 := blk_frozen BK121.out 0
                      have hfz22_1 := blk_frozen BK121.out 1
                      have hfz22_2 := blk_frozen BK121.out 2
                      have hfz22_3 := blk_frozen BK121.out 3
                      have hfz22_4 := blk_frozen BK121.out 4
                      have hfz22_5 := blk_frozen BK121.out 5
                      have hfz22_6 := blk_frozen BK121.out 6
                      have hfz22_7 := blk_frozen BK121.out 7
                      have hfz22_8 := blk_frozen BK121.out 8
                      try go_wp2_with (first | ((with_reducible refine gate_builtin (b := .append) (xs := #[.tmp 27, .tmp 29]) rfl ?_); at_builtin; refine Kd.R_append k81 (w0 := w) w.heap.size rfl (.tmp 27) (.tmp 29) 37 81 (.agg #[(.int .u8 0), (.int .u8 0), (.int .u8 0), (.int .i64 0), (.int .i64 0), (.int .i64 0), (.int .i64 0), (.int .i64 0), (.int .i64 0)]) 56 rfl Try.underlying37 info81 rfl (by decide) (by omega) u5 x5_1 (⟨(⟨a1_0, a1_1, a1_2⟩ : S25), (⟨a1_3, a1_4, a1_5, a1_6, a1_7, a1_8⟩ : S64)⟩ : S81) [.int .u8 a1_0, .int .u8 a1_1, .int .u8 a1_2, .int .i64 a1_3, .int .i64 a1_4, .int .i64 a1_5, .int .i64 a1_6, .int .i64 a1_7, .int .i64 a1_8] (fun k_ => k_ ≠ gb121) (fun _ => False) rfl rfl ?aP (fun _ hk => hk.elim) ?aF ?aO ?aB ?aS ?aL ?_; (case aP => exact k81_mkM _ _ _ (⟨(⟨a1_0, a1_1, a1_2⟩ : S25), (⟨a1_3, a1_4, a1_5, a1_6, a1_7, a1_8⟩ : S64)⟩ : S81)); (case aB => exact (by repeat (first | (with_reducible first | exact HB.out | apply below_alloc | apply pw_below_drewN | apply below_drew1 | refine below_set ?_ GE121.out) | exact HB.out))); (case aF => exact (fun k_ hk => Kd.freshB (g := gb121) (o := .cells #[.int .u8 a1_0, .int .u8 a1_1, .int .u8 a1_2, .int .i64 a1_3, .int .i64 a1_4, .int .i64 a1_5, .int .i64 a1_6, .int .i64 a1_7, .int .i64 a1_8] 81 (0, 0)) (by (with_reducible repeat (first | refine blk_drewN ?_ _ | refine blk_drew ?_ | refine blk_alloc ?_ _)); exact BK121.out) k_ hk)); (case aO => exact (by (with_reducible repeat (first | apply Kd.R_alloc | apply Kd.R_drewN | apply Kd.R_drew)); exact HO_5.out)); (case aS => exact (below_size (by repeat (first | (with_reducible first | exact HB.out | apply below_alloc | apply pw_below_drewN | apply below_drew1 | refine below_set ?_ GE121.out) | exact HB.out)))); (case aL => have := LMc13.out; omega); intro v128 w23 ho hb hg hat; rw [← Ny127.out] at ho; have n0_ := Aside0.mk (blk_grown (g := gb121) (o := .cells #[.int .u8 a1_0, .int .u8 a1_1, .int .u8 a1_2, .int .i64 a1_3, .int .i64 a1_4, .int .i64 a1_5, .int .i64 a1_6, .int .i64 a1_7, .int .i64 a1_8] 81 (0, 0)) (by (with_reducible repeat (first | refine blk_drewN ?_ _ | refine blk_drew ?_ | refine blk_alloc ?_ _)); exact BK121.out) hg (Kd.R_away HO_5.out (fun _ hk => hk))); have n1_ := Aside0.mk (hb); have n2_ := Aside0.mk (ho); clear BK121; clear HB; clear HO_5; have BK121 := n0_; have HB := n1_; have HO129 := n2_; clear n0_ n1_ n2_; clear ho hb hg hat))
                      have n0_ := Aside0.mk (Kd.R_drew HO129.out)
                      have n1_ := Aside0.mk (blk_drew BK121.out)
                      have n2_ := Aside0.mk (below_drew1 HB.out)
                      clear HO129
                      clear BK121
                      clear HB
                      have HO129 := n0_
                      have BK121 := n1_
                      have HB := n2_
                      clear n0_ n1_ n2_
                      have p130 : 0 ≤ (x7_1 : Int) := of_decide_eq_true (by first | (with_reducible assumption) | assumption)
                      have q130 : x7_1 < (l0.length : Int) := of_decide_eq_true (by first | (with_reducible assumption) | assumption)
                      obtain ⟨ad130, e130, hx130_0, hx130_1, hx130_2, hx130_3, hx130_4, hx130_5, hx130_6, hx130_7, hx130_8⟩ := at_T81 HR0.out x7_1 p130 q130
                      have hw130_8 := hx130_8
                      have hw130_7 := hx130_7
                      have hw130_6 := hx130_6
                      have hw130_5 := hx130_5
                      have hw130_4 := hx130_4
                      have hw130_3 := hx130_3
                      have hw130_2 := hx130_2
                      have hw130_1 := hx130_1
                      have hw130_0 := hx130_0
                      cases e130
                      replace hx130_0 := (HB.out.cell (World.block_lt_of_cell? w _ hx130_0)).trans hx130_0
                      replace hx130_1 := (HB.out.cell (World.block_lt_of_cell? w _ hx130_1)).trans hx130_1
                      replace hx130_2 := (HB.out.cell (World.block_lt_of_cell? w _ hx130_2)).trans hx130_2
                      replace hx130_3 := (HB.out.cell (World.block_lt_of_cell? w _ hx130_3)).trans hx130_3
                      replace hx130_4 := (HB.out.cell (World.block_lt_of_cell? w _ hx130_4)).trans hx130_4
                      replace hx130_5 := (HB.out.cell (World.block_lt_of_cell? w _ hx130_5)).trans hx130_5
                      replace hx130_6 := (HB.out.cell (World.block_lt_of_cell? w _ hx130_6)).trans hx130_6
                      replace hx130_7 := (HB.out.cell (World.block_lt_of_cell? w _ hx130_7)).trans hx130_7
                      replace hx130_8 := (HB.out.cell (World.block_lt_of_cell? w _ hx130_8)).trans hx130_8
                      replace p130 := eq_true p130
                      replace q130 := eq_true q130
                      refine start_ (n := 8) (S := fun w' => w'.cell? ⟨gb121, 0, none⟩ = some (.int .u8 a1_0) ∧ w'.cell? ⟨gb121, 1, none⟩ = some (.int .u8 a1_1) ∧ w'.cell? ⟨gb121, 2, none⟩ = some (.int .u8 a1_2) ∧ w'.cell? ⟨gb121, 3, none⟩ = some (.int .i64 a1_3) ∧ w'.cell? ⟨gb121, 4, none⟩ = some (.int .i64 a1_4) ∧ w'.cell? ⟨gb121, 5, none⟩ = some (.int .i64 a1_5) ∧ w'.cell? ⟨gb121, 6, none⟩ = some (.int .i64 a1_6) ∧ w'.cell? ⟨gb121, 7, none⟩ = some (.int .i64 a1_7) ∧ w'.cell? ⟨gb121, 8, none⟩ = some (.int .i64 a1_8) ∧ w'.cell? (ad130.add ((x7_1).toNat * 9)) = some (.int .u8 ((rd_T81 l0 x7_1).f0.f0)) ∧ w'.cell? ⟨(ad130.add ((x7_1).toNat * 9)).block, (ad130.add ((x7_1).toNat * 9)).off + 1, none⟩ = some (.int .u8 ((rd_T81 l0 x7_1).f0.f1)) ∧ w'.cell? ⟨(ad130.add ((x7_1).toNat * 9)).block, (ad130.add ((x7_1).toNat * 9)).off + 2, none⟩ = some (.int .u8 ((rd_T81 l0 x7_1).f0.f2)) ∧ w'.cell? ⟨(ad130.add ((x7_1).toNat * 9)).block, (ad130.add ((x7_1).toNat * 9)).off + 3, none⟩ = some (.int .i64 ((rd_T81 l0 x7_1).f1.f0)) ∧ w'.cell? ⟨(ad130.add ((x7_1).toNat * 9)).block, (ad130.add ((x7_1).toNat * 9)).off + 4, none⟩ = some (.int .i64 ((rd_T81 l0 x7_1).f1.f1)) ∧ w'.cell? ⟨(ad130.add ((x7_1).toNat * 9)).block, (ad130.add ((x7_1).toNat * 9)).off + 5, none⟩ = some (.int .i64 ((rd_T81 l0 x7_1).f1.f2)) ∧ w'.cell? ⟨(ad130.add ((x7_1).toNat * 9)).block, (ad130.add ((x7_1).toNat * 9)).off + 6, none⟩ = some (.int .i64 ((rd_T81 l0 x7_1).f1.f3)) ∧ w'.cell? ⟨(ad130.add ((x7_1).toNat * 9)).block, (ad130.add ((x7_1).toNat * 9)).off + 7, none⟩ = some (.int .i64 ((rd_T81 l0 x7_1).f1.f4)) ∧ w'.cell? ⟨(ad130.add ((x7_1).toNat * 9)).block, (ad130.add ((x7_1).toNat * 9)).off + 8, none⟩ = some (.int .i64 ((rd_T81 l0 x7_1).f1.f5))) (ds := []) #[false, false, false, false, false, false, false, false] (by kernel_rfl) rfl rfl ⟨(blk_cell BK121.out 0).trans rfl, (blk_cell BK121.out 1).trans rfl, (blk_cell BK121.out 2).trans rfl, (blk_cell BK121.out 3).trans rfl, (blk_cell BK121.out 4).trans rfl, (blk_cell BK121.out 5).trans rfl, (blk_cell BK121.out 6).trans rfl, (blk_cell BK121.out 7).trans rfl, (blk_cell BK121.out 8).trans rfl, ((HB.out.cell (World.block_lt_of_cell? w _ hw130_0)).trans hw130_0), ((HB.out.cell (World.block_lt_of_cell? w _ hw130_1)).trans hw130_1), ((HB.out.cell (World.block_lt_of_cell? w _ hw130_2)).trans hw130_2), ((HB.out.cell (World.block_lt_of_cell? w _ hw130_3)).trans hw130_3), ((HB.out.cell (World.block_lt_of_cell? w _ hw130_4)).trans hw130_4), ((HB.out.cell (World.block_lt_of_cell? w _ hw130_5)).trans hw130_5), ((HB.out.cell (World.block_lt_of_cell? w _ hw130_6)).trans hw130_6), ((HB.out.cell (World.block_lt_of_cell? w _ hw130_7)).trans hw130_7), ((HB.out.cell (World.block_lt_of_cell? w _ hw130_8)).trans hw130_8)⟩ (fun hHeld => ?_); refine with_tabW pledgeref18_put.tab9 pledgeref18_put.bits9 (fun HT_ HW_ => ?_)
                      generalize w23.drew = w24 at HO129 BK121 HB hx130_0 hx130_1 hx130_2 hx130_3 hx130_4 hx130_5 hx130_6 hx130_7 hx130_8 hHeld ⊢
                      refine pure_ (i := 0) (N := some 31) (v := ?_) (a' := ?_) #[true, false, false, false, false, false, false, false] rfl rfl (any_of HT_.out (by kernel_rfl)) (fun _ _ _ h => h) (Or.inl ⟨by rfl, ?_⟩) ?_ ?_
                      rotate_left
                      · intro w'
                        go_simp
                        with_reducible rfl
                      rotate_left
                      · simp only [Act.put, List.setIfInBounds_toArray, List.set_cons_zero, List.set_cons_succ, i64_w, i32_w]
                        rfl
                      refine pure_ (i := 1) (N := some 32) (v := ?_) (a' := ?_) #[true, true, false, false, false, false, false, false] rfl rfl (any_of HT_.out (by kernel_rfl)) (fun _ _ _ h => h) (Or.inl ⟨by rfl, ?_⟩) ?_ ?_
                      rotate_left
                      · intro w'
                        go_simp
                        with_reducible rfl
                      rotate_left
                      · simp only [Act.put, List.setIfInBounds_toArray, List.set_cons_zero, List.set_cons_succ, i64_w, i32_w]
                        rfl
                      refine pure_ (i := 2) (N := some 33) (v := ?_) (a' := ?_) #[true, true, true, false, false, false, false, false] rfl rfl (any_of HT_.out (by kernel_rfl)) (fun _ _ _ h => h) (Or.inl ⟨by rfl, ?_⟩) ?_ ?_
                      rotate_left
                      · intro w'
                        go_simp
                        with_reducible rfl
                      rotate_left
                      · simp only [Act.put, List.setIfInBounds_toArray, List.set_cons_zero, List.set_cons_succ, i64_w, i32_w]
                        rfl
                      refine pure_ (i := 3) (N := some 34) (v := ?_) (a' := ?_) #[true, true, true, true, false, false, false, false] rfl rfl (any_of HT_.out (by kernel_rfl)) (fun _ _ _ h => h) (Or.inl ⟨by rfl, ?_⟩) ?_ ?_
                      rotate_left
                      · intro w'
                        go_simp
                        with_reducible rfl
                      rotate_left
                      · simp only [Act.put, List.setIfInBounds_toArray, List.set_cons_zero, List.set_cons_succ, i64_w, i32_w]
                        rfl
                      refine pure_ (i := 5) (N := some 36) (v := ?_) (a' := ?_) #[true, true, true, true, false, true, false, false] rfl rfl (any_of HT_.out (by kernel_rfl)) (fun _ _ _ h => h) (Or.inl ⟨by rfl, ?_⟩) ?_ ?_
                      rotate_left
                      · intro w'
                        go_simp
                        with_reducible rfl
                      rotate_left
                      · simp only [Act.put, List.setIfInBounds_toArray, List.set_cons_zero, List.set_cons_succ, i64_w, i32_w]
                        rfl
                      refine take_ (i := 4) (N := some 35) (v := ?_) (a' := ?_) #[true, true, true, true, true, true, false, false] rfl rfl (take_ofW HT_.out HW_.out (by kernel_rfl)) (fun _ _ _ h => h) (Or.inl ⟨by rfl, ?_⟩) hHeld ?_ ?_
                      rotate_left
                      · rintro w' ⟨s0, s1, s2, s3, s4, s5, s6, s7, s8, s9, s10, s11, s12, s13, s14, s15, s16, s17⟩
                        go_simp
                        with_reducible rfl
                      rotate_left
                      · simp only [Act.put, List.setIfInBounds_toArray, List.set_cons_zero, List.set_cons_succ, i64_w, i32_w]
                        rfl
                      refine take_ (i := 6) (N := some 37) (v := ?_) (a' := ?_) #[true, true, true, true, true, true, true, false] rfl rfl (take_ofW HT_.out HW_.out (by kernel_rfl)) (fun _ _ _ h => h) (Or.inl ⟨by rfl, ?_⟩) hHeld ?_ ?_
                      rotate_left
                      · rintro w' ⟨s0, s1, s2, s3, s4, s5, s6, s7, s8, s9, s10, s11, s12, s13, s14, s15, s16, s17⟩
                        go_simp
                        with_reducible rfl
                      rotate_left
                      · simp only [Act.put, List.setIfInBounds_toArray, List.set_cons_zero, List.set_cons_succ, i64_w, i32_w]
                        rfl
                      refine pure_ (i := 7) (N := some 38) (v := ?_) (a' := ?_) #[true, true, true, true, true, true, true, true] rfl rfl (any_of HT_.out (by kernel_rfl)) (fun _ _ _ h => h) (Or.inl ⟨by rfl, ?_⟩) ?_ ?_
                      rotate_left
                      · intro w'
                        go_simp
                        with_reducible rfl
                      rotate_left
                      · simp only [Act.put, List.setIfInBounds_toArray, List.set_cons_zero, List.set_cons_succ, i64_w, i32_w]
                        rfl
                      refine done_ (done_of HT_.out (by kernel_rfl)) ?_
                      try go_wp2
                      go_roundg kj4
                      case measure => have := HK1.out; have := HJ4.out; omega
                      case rel => exact ⟨(y127), (true), (wrap64 (x7_1 + 1)), (by first | rfl | (simp; done) | (simp [*]; done)), (by first | rfl | (simp; done) | (simp [*]; done)), H', ⟨by have := HK1.out; have := HJ4.out; omega⟩, ⟨by (with_reducible repeat (first | apply Kd.R_alloc | apply Kd.R_drewN | apply Kd.R_drew)); exact HO129.out⟩, ⟨by (with_reducible repeat (first | refine blk_drewN ?_ _ | refine blk_drew ?_ | refine blk_alloc ?_ _)); exact BK121.out⟩, ⟨by repeat (first | (with_reducible first | exact HB.out | apply below_alloc | apply pw_below_drewN | apply below_drew1 | refine below_set ?_ GE121.out) | exact HB.out)⟩⟩
                  · rw [if_neg c15] at H
                    exact absurd H (by simp)
                · rw [if_neg c14] at H
                  exact absurd H (by simp)
              · rw [if_neg c13] at H
                exact absurd H (by simp)
            · replace c12 := Bool.eq_false_iff.mpr c12
              subst c12
              have H1 : (if 0 ≤ x7_1 then (if x7_1 < (l0.length : Int) then (if (!(((rd_T81 l0 x7_1).f0.f0) == a1_0) || (!(((rd_T81 l0 x7_1).f0.f1) == a1_1) || (!(((rd_T81 l0 x7_1).f0.f2) == a1_2)))) = true then (if x5_1.length < 2513169434916 then (pledgeref18_put.l0 kj4 l0 (x5_1 ++ [(⟨(⟨(rd_T81 l0 x7_1).f0.f0, (rd_T81 l0 x7_1).f0.f1, (rd_T81 l0 x7_1).f0.f2⟩ : S25), (⟨(rd_T81 l0 x7_1).f1.f0, (rd_T81 l0 x7_1).f1.f1, (rd_T81 l0 x7_1).f1.f2, (rd_T81 l0 x7_1).f1.f3, (rd_T81 l0 x7_1).f1.f4, (rd_T81 l0 x7_1).f1.f5⟩ : S64)⟩ : S81)]) x6_1 (wrap64 (x7_1 + 1)) a1_0 a1_1 a1_2 a1_3 a1_4 a1_5 a1_6 a1_7 a1_8) else (none)) else (pledgeref18_put.l0 kj4 l0 x5_1 x6_1 (wrap64 (x7_1 + 1)) a1_0 a1_1 a1_2 a1_3 a1_4 a1_5 a1_6 a1_7 a1_8)) else (none)) else (none)) = some r := by rw [if_neg (show ¬ (false = true) by decide)] at H; exact H
              clear H
              have H := H1
              clear H1
              by_cases c25 : 0 ≤ x7_1
              · rw [if_pos c25] at H
                have c25b0 : decide (0 ≤ x7_1) = true := decide_eq_true c25
                clear c25
                by_cases c26 : x7_1 < (l0.length : Int)
                · rw [if_pos c26] at H
                  have c26b0 : decide (x7_1 < (l0.length : Int)) = true := decide_eq_true c26
                  clear c26
                  by_cases c27 : (!(((rd_T81 l0 x7_1).f0.f0) == a1_0) || (!(((rd_T81 l0 x7_1).f0.f1) == a1_1) || (!(((rd_T81 l0 x7_1).f0.f2) == a1_2)))) = true
                  · rw [if_pos c27] at H
                    have c27b0 : (!(((rd_T81 l0 x7_1).f0.f0) == a1_0) || (!(((rd_T81 l0 x7_1).f0.f1) == a1_1) || (!(((rd_T81 l0 x7_1).f0.f2) == a1_2)))) = true := c27
                    clear c27
                    by_cases c28 : x5_1.length < 2513169434916
                    · rw [if_pos c28] at H
                      have LMc28 := Aside0.mk c28
                      clear c28
                      obtain ⟨y137, hy137⟩ : ∃ y_ : List (S81), y_ = (x5_1 ++ [(⟨(⟨(rd_T81 l0 x7_1).f0.f0, (rd_T81 l0 x7_1).f0.f1, (rd_T81 l0 x7_1).f0.f2⟩ : S25), (⟨(rd_T81 l0 x7_1).f1.f0, (rd_T81 l0 x7_1).f1.f1, (rd_T81 l0 x7_1).f1.f2, (rd_T81 l0 x7_1).f1.f3, (rd_T81 l0 x7_1).f1.f4, (rd_T81 l0 x7_1).f1.f5⟩ : S64)⟩ : S81)]) := ⟨_, rfl⟩
                      replace H : (pledgeref18_put.l0 kj4 l0 y137 x6_1 (wrap64 (x7_1 + 1)) a1_0 a1_1 a1_2 a1_3 a1_4 a1_5 a1_6 a1_7 a1_8) = some r := by first | (rw [hy137]; with_reducible exact H) | (have H2_ := (Option.bind_some _ _).symm.trans H; rw [hy137]; with_reducible exact H2_) | (have H2_ := (Option.bind_some _ _).symm.trans H; with_reducible exact H2_) | with_reducible exact H | (rw [hy137]; exact H) | exact H
                      have Ny137 := Aside0.mk hy137
                      clear hy137
                      have H' := Aside0.mk H
                      clear H
                      try go_wp2
                      have n0_ := Aside0.mk (Kd.R_drew HO_5.out)
                      have n1_ := Aside0.mk (blk_drew BK121.out)
                      have n2_ := Aside0.mk (below_drew1 HB.out)
                      clear HO_5
                      clear BK121
                      clear HB
                      have HO_5 := n0_
                      have BK121 := n1_
                      have HB := n2_
                      clear n0_ n1_ n2_
                      have p135 : 0 ≤ (x7_1 : Int) := of_decide_eq_true (by first | (with_reducible assumption) | assumption)
                      have q135 : x7_1 < (l0.length : Int) := of_decide_eq_true (by first | (with_reducible assumption) | assumption)
                      obtain ⟨ad135, e135, hx135_0, hx135_1, hx135_2, hx135_3, hx135_4, hx135_5, hx135_6, hx135_7, hx135_8⟩ := at_T81 HR0.out x7_1 p135 q135
                      have hw135_8 := hx135_8
                      have hw135_7 := hx135_7
                      have hw135_6 := hx135_6
                      have hw135_5 := hx135_5
                      have hw135_4 := hx135_4
                      have hw135_3 := hx135_3
                      have hw135_2 := hx135_2
                      have hw135_1 := hx135_1
                      have hw135_0 := hx135_0
                      cases e135
                      replace hx135_0 := (HB.out.cell (World.block_lt_of_cell? w _ hx135_0)).trans hx135_0
                      replace hx135_1 := (HB.out.cell (World.block_lt_of_cell? w _ hx135_1)).trans hx135_1
                      replace hx135_2 := (HB.out.cell (World.block_lt_of_cell? w _ hx135_2)).trans hx135_2
                      replace hx135_3 := (HB.out.cell (World.block_lt_of_cell? w _ hx135_3)).trans hx135_3
                      replace hx135_4 := (HB.out.cell (World.block_lt_of_cell? w _ hx135_4)).trans hx135_4
                      replace hx135_5 := (HB.out.cell (World.block_lt_of_cell? w _ hx135_5)).trans hx135_5
                      replace hx135_6 := (HB.out.cell (World.block_lt_of_cell? w _ hx135_6)).trans hx135_6
                      replace hx135_7 := (HB.out.cell (World.block_lt_of_cell? w _ hx135_7)).trans hx135_7
                      replace hx135_8 := (HB.out.cell (World.block_lt_of_cell? w _ hx135_8)).trans hx135_8
                      replace p135 := eq_true p135
                      replace q135 := eq_true q135
                      refine start_ (n := 8) (S := fun w' => w'.cell? ⟨gb121, 0, none⟩ = some (.int .u8 a1_0) ∧ w'.cell? ⟨gb121, 1, none⟩ = some (.int .u8 a1_1) ∧ w'.cell? ⟨gb121, 2, none⟩ = some (.int .u8 a1_2) ∧ w'.cell? ⟨gb121, 3, none⟩ = some (.int .i64 a1_3) ∧ w'.cell? ⟨gb121, 4, none⟩ = some (.int .i64 a1_4) ∧ w'.cell? ⟨gb121, 5, none⟩ = some (.int .i64 a1_5) ∧ w'.cell? ⟨gb121, 6, none⟩ = some (.int .i64 a1_6) ∧ w'.cell? ⟨gb121, 7, none⟩ = some (.int .i64 a1_7) ∧ w'.cell? ⟨gb121, 8, none⟩ = some (.int .i64 a1_8) ∧ w'.cell? (ad135.add ((x7_1).toNat * 9)) = some (.int .u8 ((rd_T81 l0 x7_1).f0.f0)) ∧ w'.cell? ⟨(ad135.add ((x7_1).toNat * 9)).block, (ad135.add ((x7_1).toNat * 9)).off + 1, none⟩ = some (.int .u8 ((rd_T81 l0 x7_1).f0.f1)) ∧ w'.cell? ⟨(ad135.add ((x7_1).toNat * 9)).block, (ad135.add ((x7_1).toNat * 9)).off + 2, none⟩ = some (.int .u8 ((rd_T81 l0 x7_1).f0.f2)) ∧ w'.cell? ⟨(ad135.add ((x7_1).toNat * 9)).block, (ad135.add ((x7_1).toNat * 9)).off + 3, none⟩ = some (.int .i64 ((rd_T81 l0 x7_1).f1.f0)) ∧ w'.cell? ⟨(ad135.add ((x7_1).toNat * 9)).block, (ad135.add ((x7_1).toNat * 9)).off + 4, none⟩ = some (.int .i64 ((rd_T81 l0 x7_1).f1.f1)) ∧ w'.cell? ⟨(ad135.add ((x7_1).toNat * 9)).block, (ad135.add ((x7_1).toNat * 9)).off + 5, none⟩ = some (.int .i64 ((rd_T81 l0 x7_1).f1.f2)) ∧ w'.cell? ⟨(ad135.add ((x7_1).toNat * 9)).block, (ad135.add ((x7_1).toNat * 9)).off + 6, none⟩ = some (.int .i64 ((rd_T81 l0 x7_1).f1.f3)) ∧ w'.cell? ⟨(ad135.add ((x7_1).toNat * 9)).block, (ad135.add ((x7_1).toNat * 9)).off + 7, none⟩ = some (.int .i64 ((rd_T81 l0 x7_1).f1.f4)) ∧ w'.cell? ⟨(ad135.add ((x7_1).toNat * 9)).block, (ad135.add ((x7_1).toNat * 9)).off + 8, none⟩ = some (.int .i64 ((rd_T81 l0 x7_1).f1.f5))) (ds := []) #[false, false, false, false, false, false, false, false] (by kernel_rfl) rfl rfl ⟨(blk_cell BK121.out 0).trans rfl, (blk_cell BK121.out 1).trans rfl, (blk_cell BK121.out 2).trans rfl, (blk_cell BK121.out 3).trans rfl, (blk_cell BK121.out 4).trans rfl, (blk_cell BK121.out 5).trans rfl, (blk_cell BK121.out 6).trans rfl, (blk_cell BK121.out 7).trans rfl, (blk_cell BK121.out 8).trans rfl, ((HB.out.cell (World.block_lt_of_cell? w _ hw135_0)).trans hw135_0), ((HB.out.cell (World.block_lt_of_cell? w _ hw135_1)).trans hw135_1), ((HB.out.cell (World.block_lt_of_cell? w _ hw135_2)).trans hw135_2), ((HB.out.cell (World.block_lt_of_cell? w _ hw135_3)).trans hw135_3), ((HB.out.cell (World.block_lt_of_cell? w _ hw135_4)).trans hw135_4), ((HB.out.cell (World.block_lt_of_cell? w _ hw135_5)).trans hw135_5), ((HB.out.cell (World.block_lt_of_cell? w _ hw135_6)).trans hw135_6), ((HB.out.cell (World.block_lt_of_cell? w _ hw135_7)).trans hw135_7), ((HB.out.cell (World.block_lt_of_cell? w _ hw135_8)).trans hw135_8)⟩ (fun hHeld => ?_); refine with_tabW pledgeref18_put.tab9 pledgeref18_put.bits9 (fun HT_ HW_ => ?_)
                      generalize wc.drew = w29 at HO_5 BK121 HB hx135_0 hx135_1 hx135_2 hx135_3 hx135_4 hx135_5 hx135_6 hx135_7 hx135_8 hHeld ⊢
                      refine pure_ (i := 0) (N := some 31) (v := ?_) (a' := ?_) #[true, false, false, false, false, false, false, false] rfl rfl (any_of HT_.out (by kernel_rfl)) (fun _ _ _ h => h) (Or.inl ⟨by rfl, ?_⟩) ?_ ?_
                      rotate_left
                      · intro w'
                        go_simp
                        with_reducible rfl
                      rotate_left
                      · simp only [Act.put, List.setIfInBounds_toArray, List.set_cons_zero, List.set_cons_succ, i64_w, i32_w]
                        rfl
                      refine pure_ (i := 1) (N := some 32) (v := ?_) (a' := ?_) #[true, true, false, false, false, false, false, false] rfl rfl (any_of HT_.out (by kernel_rfl)) (fun _ _ _ h => h) (Or.inl ⟨by rfl, ?_⟩) ?_ ?_
                      rotate_left
                      · intro w'
                        go_simp
                        with_reducible rfl
                      rotate_left
                      · simp only [Act.put, List.setIfInBounds_toArray, List.set_cons_zero, List.set_cons_succ, i64_w, i32_w]
                        rfl
                      refine pure_ (i := 2) (N := some 33) (v := ?_) (a' := ?_) #[true, true, true, false, false, false, false, false] rfl rfl (any_of HT_.out (by kernel_rfl)) (fun _ _ _ h => h) (Or.inl ⟨by rfl, ?_⟩) ?_ ?_
                      rotate_left
                      · intro w'
                        go_simp
                        with_reducible rfl
                      rotate_left
                      · simp only [Act.put, List.setIfInBounds_toArray, List.set_cons_zero, List.set_cons_succ, i64_w, i32_w]
                        rfl
                      refine pure_ (i := 3) (N := some 34) (v := ?_) (a' := ?_) #[true, true, true, true, false, false, false, false] rfl rfl (any_of HT_.out (by kernel_rfl)) (fun _ _ _ h => h) (Or.inl ⟨by rfl, ?_⟩) ?_ ?_
                      rotate_left
                      · intro w'
                        go_simp
                        with_reducible rfl
                      rotate_left
                      · simp only [Act.put, List.setIfInBounds_toArray, List.set_cons_zero, List.set_cons_succ, i64_w, i32_w]
                        rfl
                      refine pure_ (i := 5) (N := some 36) (v := ?_) (a' := ?_) #[true, true, true, true, false, true, false, false] rfl rfl (any_of HT_.out (by kernel_rfl)) (fun _ _ _ h => h) (Or.inl ⟨by rfl, ?_⟩) ?_ ?_
                      rotate_left
                      · intro w'
                        go_simp
                        with_reducible rfl
                      rotate_left
                      · simp only [Act.put, List.setIfInBounds_toArray, List.set_cons_zero, List.set_cons_succ, i64_w, i32_w]
                        rfl
                      refine take_ (i := 4) (N := some 35) (v := ?_) (a' := ?_) #[true, true, true, true, true, true, false, false] rfl rfl (take_ofW HT_.out HW_.out (by kernel_rfl)) (fun _ _ _ h => h) (Or.inl ⟨by rfl, ?_⟩) hHeld ?_ ?_
                      rotate_left
                      · rintro w' ⟨s0, s1, s2, s3, s4, s5, s6, s7, s8, s9, s10, s11, s12, s13, s14, s15, s16, s17⟩
                        go_simp
                        with_reducible rfl
                      rotate_left
                      · simp only [Act.put, List.setIfInBounds_toArray, List.set_cons_zero, List.set_cons_succ, i64_w, i32_w]
                        rfl
                      refine take_ (i := 6) (N := some 37) (v := ?_) (a' := ?_) #[true, true, true, true, true, true, true, false] rfl rfl (take_ofW HT_.out HW_.out (by kernel_rfl)) (fun _ _ _ h => h) (Or.inl ⟨by rfl, ?_⟩) hHeld ?_ ?_
                      rotate_left
                      · rintro w' ⟨s0, s1, s2, s3, s4, s5, s6, s7, s8, s9, s10, s11, s12, s13, s14, s15, s16, s17⟩
                        go_simp
                        with_reducible rfl
                      rotate_left
                      · simp only [Act.put, List.setIfInBounds_toArray, List.set_cons_zero, List.set_cons_succ, i64_w, i32_w]
                        rfl
                      refine pure_ (i := 7) (N := some 38) (v := ?_) (a' := ?_) #[true, true, true, true, true, true, true, true] rfl rfl (any_of HT_.out (by kernel_rfl)) (fun _ _ _ h => h) (Or.inl ⟨by rfl, ?_⟩) ?_ ?_
                      rotate_left
                      · intro w'
                        go_simp
                        with_reducible rfl
                      rotate_left
                      · simp only [Act.put, List.setIfInBounds_toArray, List.set_cons_zero, List.set_cons_succ, i64_w, i32_w]
                        rfl
                      refine done_ (done_of HT_.out (by kernel_rfl)) ?_
                      have p136 : 0 ≤ (x7_1 : Int) := of_decide_eq_true (by first | (with_reducible assumption) | assumption)
                      have q136 : x7_1 < (l0.length : Int) := of_decide_eq_true (by first | (with_reducible assumption) | assumption)
                      obtain ⟨ad136, e136, hx136_0, hx136_1, hx136_2, hx136_3, hx136_4, hx136_5, hx136_6, hx136_7, hx136_8⟩ := at_T81 HR0.out x7_1 p136 q136
                      obtain rfl : ad135 = ad136 := (by injection e136)
                      replace hx136_0 := (HB.out.cell (World.block_lt_of_cell? w _ hx136_0)).trans hx136_0
                      replace hx136_1 := (HB.out.cell (World.block_lt_of_cell? w _ hx136_1)).trans hx136_1
                      replace hx136_2 := (HB.out.cell (World.block_lt_of_cell? w _ hx136_2)).trans hx136_2
                      replace hx136_3 := (HB.out.cell (World.block_lt_of_cell? w _ hx136_3)).trans hx136_3
                      replace hx136_4 := (HB.out.cell (World.block_lt_of_cell? w _ hx136_4)).trans hx136_4
                      replace hx136_5 := (HB.out.cell (World.block_lt_of_cell? w _ hx136_5)).trans hx136_5
                      replace hx136_6 := (HB.out.cell (World.block_lt_of_cell? w _ hx136_6)).trans hx136_6
                      replace hx136_7 := (HB.out.cell (World.block_lt_of_cell? w _ hx136_7)).trans hx136_7
                      replace hx136_8 := (HB.out.cell (World.block_lt_of_cell? w _ hx136_8)).trans hx136_8
                      replace p136 := eq_true p136
                      replace q136 := eq_true q136
                      try go_wp2_with (first | ((with_reducible refine gate_builtin (b := .append) (xs := #[.tmp 39, .tmp 44]) rfl ?_); at_builtin; refine Kd.R_append k81 (w0 := w) w.heap.size rfl (.tmp 39) (.tmp 44) 37 81 (.agg #[(.int .u8 0), (.int .u8 0), (.int .u8 0), (.int .i64 0), (.int .i64 0), (.int .i64 0), (.int .i64 0), (.int .i64 0), (.int .i64 0)]) 56 rfl Try.underlying37 info81 rfl (by decide) (by omega) u5 x5_1 (⟨(⟨(rd_T81 l0 x7_1).f0.f0, (rd_T81 l0 x7_1).f0.f1, (rd_T81 l0 x7_1).f0.f2⟩ : S25), (⟨(rd_T81 l0 x7_1).f1.f0, (rd_T81 l0 x7_1).f1.f1, (rd_T81 l0 x7_1).f1.f2, (rd_T81 l0 x7_1).f1.f3, (rd_T81 l0 x7_1).f1.f4, (rd_T81 l0 x7_1).f1.f5⟩ : S64)⟩ : S81) [.int .u8 ((rd_T81 l0 x7_1).f0.f0), .int .u8 ((rd_T81 l0 x7_1).f0.f1), .int .u8 ((rd_T81 l0 x7_1).f0.f2), .int .i64 ((rd_T81 l0 x7_1).f1.f0), .int .i64 ((rd_T81 l0 x7_1).f1.f1), .int .i64 ((rd_T81 l0 x7_1).f1.f2), .int .i64 ((rd_T81 l0 x7_1).f1.f3), .int .i64 ((rd_T81 l0 x7_1).f1.f4), .int .i64 ((rd_T81 l0 x7_1).f1.f5)] (fun k_ => k_ ≠ gb121) (fun _ => False) rfl rfl ?aP (fun _ hk => hk.elim) ?aF ?aO ?aB ?aS ?aL ?_; (case aP => exact k81_mkM _ _ _ (⟨(⟨(rd_T81 l0 x7_1).f0.f0, (rd_T81 l0 x7_1).f0.f1, (rd_T81 l0 x7_1).f0.f2⟩ : S25), (⟨(rd_T81 l0 x7_1).f1.f0, (rd_T81 l0 x7_1).f1.f1, (rd_T81 l0 x7_1).f1.f2, (rd_T81 l0 x7_1).f1.f3, (rd_T81 l0 x7_1).f1.f4, (rd_T81 l0 x7_1).f1.f5⟩ : S64)⟩ : S81)); (case aB => exact (by repeat (first | (with_reducible first | exact HB.out | apply below_alloc | apply pw_below_drewN | apply below_drew1 | refine below_set ?_ GE121.out) | exact HB.out))); (case aF => exact (fun k_ hk => Kd.freshB (g := gb121) (o := .cells #[.int .u8 a1_0, .int .u8 a1_1, .int .u8 a1_2, .int .i64 a1_3, .int .i64 a1_4, .int .i64 a1_5, .int .i64 a1_6, .int .i64 a1_7, .int .i64 a1_8] 81 (0, 0)) (by (with_reducible repeat (first | refine blk_drewN ?_ _ | refine blk_drew ?_ | refine blk_alloc ?_ _)); exact BK121.out) k_ hk)); (case aO => exact (by (with_reducible repeat (first | apply Kd.R_alloc | apply Kd.R_drewN | apply Kd.R_drew)); exact HO_5.out)); (case aS => exact (below_size (by repeat (first | (with_reducible first | exact HB.out | apply below_alloc | apply pw_below_drewN | apply below_drew1 | refine below_set ?_ GE121.out) | exact HB.out)))); (case aL => have := LMc28.out; omega); intro v138 w30 ho hb hg hat; rw [← Ny137.out] at ho; have n0_ := Aside0.mk (blk_grown (g := gb121) (o := .cells #[.int .u8 a1_0, .int .u8 a1_1, .int .u8 a1_2, .int .i64 a1_3, .int .i64 a1_4, .int .i64 a1_5, .int .i64 a1_6, .int .i64 a1_7, .int .i64 a1_8] 81 (0, 0)) (by (with_reducible repeat (first | refine blk_drewN ?_ _ | refine blk_drew ?_ | refine blk_alloc ?_ _)); exact BK121.out) hg (Kd.R_away HO_5.out (fun _ hk => hk))); have n1_ := Aside0.mk (hb); have n2_ := Aside0.mk (ho); clear BK121; clear HB; clear HO_5; have BK121 := n0_; have HB := n1_; have HO139 := n2_; clear n0_ n1_ n2_; clear ho hb hg hat))
                      go_roundg kj4
                      case measure => have := HK1.out; have := HJ4.out; omega
                      case rel => exact ⟨(y137), (x6_1), (wrap64 (x7_1 + 1)), (by first | rfl | (simp; done) | (simp [*]; done)), (by first | rfl | (simp; done) | (simp [*]; done)), H', ⟨by have := HK1.out; have := HJ4.out; omega⟩, ⟨by (with_reducible repeat (first | apply Kd.R_alloc | apply Kd.R_drewN | apply Kd.R_drew)); exact HO139.out⟩, ⟨by (with_reducible repeat (first | refine blk_drewN ?_ _ | refine blk_drew ?_ | refine blk_alloc ?_ _)); exact BK121.out⟩, ⟨by repeat (first | (with_reducible first | exact HB.out | apply below_alloc | apply pw_below_drewN | apply below_drew1 | refine below_set ?_ GE121.out) | exact HB.out)⟩⟩
                    · rw [if_neg c28] at H
                      exact absurd H (by simp)
                  · rw [if_neg c27] at H
                    have c27b0 : (!(((rd_T81 l0 x7_1).f0.f0) == a1_0) || (!(((rd_T81 l0 x7_1).f0.f1) == a1_1) || (!(((rd_T81 l0 x7_1).f0.f2) == a1_2)))) = false := by simpa using c27
                    clear c27
                    have H' := Aside0.mk H
                    clear H
                    try go_wp2
                    have n0_ := Aside0.mk (Kd.R_drew HO_5.out)
                    have n1_ := Aside0.mk (blk_drew BK121.out)
                    have n2_ := Aside0.mk (below_drew1 HB.out)
                    clear HO_5
                    clear BK121
                    clear HB
                    have HO_5 := n0_
                    have BK121 := n1_
                    have HB := n2_
                    clear n0_ n1_ n2_
                    have p135 : 0 ≤ (x7_1 : Int) := of_decide_eq_true (by first | (with_reducible assumption) | assumption)
                    have q135 : x7_1 < (l0.length : Int) := of_decide_eq_true (by first | (with_reducible assumption) | assumption)
                    obtain ⟨ad135, e135, hx135_0, hx135_1, hx135_2, hx135_3, hx135_4, hx135_5, hx135_6, hx135_7, hx135_8⟩ := at_T81 HR0.out x7_1 p135 q135
                    have hw135_8 := hx135_8
                    have hw135_7 := hx135_7
                    have hw135_6 := hx135_6
                    have hw135_5 := hx135_5
                    have hw135_4 := hx135_4
                    have hw135_3 := hx135_3
                    have hw135_2 := hx135_2
                    have hw135_1 := hx135_1
                    have hw135_0 := hx135_0
                    cases e135
                    replace hx135_0 := (HB.out.cell (World.block_lt_of_cell? w _ hx135_0)).trans hx135_0
                    replace hx135_1 := (HB.out.cell (World.block_lt_of_cell? w _ hx135_1)).trans hx135_1
                    replace hx135_2 := (HB.out.cell (World.block_lt_of_cell? w _ hx135_2)).trans hx135_2
                    replace hx135_3 := (HB.out.cell (World.block_lt_of_cell? w _ hx135_3)).trans hx135_3
                    replace hx135_4 := (HB.out.cell (World.block_lt_of_cell? w _ hx135_4)).trans hx135_4
                    replace hx135_5 := (HB.out.cell (World.block_lt_of_cell? w _ hx135_5)).trans hx135_5
                    replace hx135_6 := (HB.out.cell (World.block_lt_of_cell? w _ hx135_6)).trans hx135_6
                    replace hx135_7 := (HB.out.cell (World.block_lt_of_cell? w _ hx135_7)).trans hx135_7
                    replace hx135_8 := (HB.out.cell (World.block_lt_of_cell? w _ hx135_8)).trans hx135_8
                    replace p135 := eq_true p135
                    replace q135 := eq_true q135
                    refine start_ (n := 8) (S := fun w' => w'.cell? ⟨gb121, 0, none⟩ = some (.int .u8 a1_0) ∧ w'.cell? ⟨gb121, 1, none⟩ = some (.int .u8 a1_1) ∧ w'.cell? ⟨gb121, 2, none⟩ = some (.int .u8 a1_2) ∧ w'.cell? ⟨gb121, 3, none⟩ = some (.int .i64 a1_3) ∧ w'.cell? ⟨gb121, 4, none⟩ = some (.int .i64 a1_4) ∧ w'.cell? ⟨gb121, 5, none⟩ = some (.int .i64 a1_5) ∧ w'.cell? ⟨gb121, 6, none⟩ = some (.int .i64 a1_6) ∧ w'.cell? ⟨gb121, 7, none⟩ = some (.int .i64 a1_7) ∧ w'.cell? ⟨gb121, 8, none⟩ = some (.int .i64 a1_8) ∧ w'.cell? (ad135.add ((x7_1).toNat * 9)) = some (.int .u8 ((rd_T81 l0 x7_1).f0.f0)) ∧ w'.cell? ⟨(ad135.add ((x7_1).toNat * 9)).block, (ad135.add ((x7_1).toNat * 9)).off + 1, none⟩ = some (.int .u8 ((rd_T81 l0 x7_1).f0.f1)) ∧ w'.cell? ⟨(ad135.add ((x7_1).toNat * 9)).block, (ad135.add ((x7_1).toNat * 9)).off + 2, none⟩ = some (.int .u8 ((rd_T81 l0 x7_1).f0.f2)) ∧ w'.cell? ⟨(ad135.add ((x7_1).toNat * 9)).block, (ad135.add ((x7_1).toNat * 9)).off + 3, none⟩ = some (.int .i64 ((rd_T81 l0 x7_1).f1.f0)) ∧ w'.cell? ⟨(ad135.add ((x7_1).toNat * 9)).block, (ad135.add ((x7_1).toNat * 9)).off + 4, none⟩ = some (.int .i64 ((rd_T81 l0 x7_1).f1.f1)) ∧ w'.cell? ⟨(ad135.add ((x7_1).toNat * 9)).block, (ad135.add ((x7_1).toNat * 9)).off + 5, none⟩ = some (.int .i64 ((rd_T81 l0 x7_1).f1.f2)) ∧ w'.cell? ⟨(ad135.add ((x7_1).toNat * 9)).block, (ad135.add ((x7_1).toNat * 9)).off + 6, none⟩ = some (.int .i64 ((rd_T81 l0 x7_1).f1.f3)) ∧ w'.cell? ⟨(ad135.add ((x7_1).toNat * 9)).block, (ad135.add ((x7_1).toNat * 9)).off + 7, none⟩ = some (.int .i64 ((rd_T81 l0 x7_1).f1.f4)) ∧ w'.cell? ⟨(ad135.add ((x7_1).toNat * 9)).block, (ad135.add ((x7_1).toNat * 9)).off + 8, none⟩ = some (.int .i64 ((rd_T81 l0 x7_1).f1.f5))) (ds := []) #[false, false, false, false, false, false, false, false] (by kernel_rfl) rfl rfl ⟨(blk_cell BK121.out 0).trans rfl, (blk_cell BK121.out 1).trans rfl, (blk_cell BK121.out 2).trans rfl, (blk_cell BK121.out 3).trans rfl, (blk_cell BK121.out 4).trans rfl, (blk_cell BK121.out 5).trans rfl, (blk_cell BK121.out 6).trans rfl, (blk_cell BK121.out 7).trans rfl, (blk_cell BK121.out 8).trans rfl, ((HB.out.cell (World.block_lt_of_cell? w _ hw135_0)).trans hw135_0), ((HB.out.cell (World.block_lt_of_cell? w _ hw135_1)).trans hw135_1), ((HB.out.cell (World.block_lt_of_cell? w _ hw135_2)).trans hw135_2), ((HB.out.cell (World.block_lt_of_cell? w _ hw135_3)).trans hw135_3), ((HB.out.cell (World.block_lt_of_cell? w _ hw135_4)).trans hw135_4), ((HB.out.cell (World.block_lt_of_cell? w _ hw135_5)).trans hw135_5), ((HB.out.cell (World.block_lt_of_cell? w _ hw135_6)).trans hw135_6), ((HB.out.cell (World.block_lt_of_cell? w _ hw135_7)).trans hw135_7), ((HB.out.cell (World.block_lt_of_cell? w _ hw135_8)).trans hw135_8)⟩ (fun hHeld => ?_); refine with_tabW pledgeref18_put.tab9 pledgeref18_put.bits9 (fun HT_ HW_ => ?_)
                    generalize wc.drew = w31 at HO_5 BK121 HB hx135_0 hx135_1 hx135_2 hx135_3 hx135_4 hx135_5 hx135_6 hx135_7 hx135_8 hHeld ⊢
                    refine pure_ (i := 0) (N := some 31) (v := ?_) (a' := ?_) #[true, false, false, false, false, false, false, false] rfl rfl (any_of HT_.out (by kernel_rfl)) (fun _ _ _ h => h) (Or.inl ⟨by rfl, ?_⟩) ?_ ?_
                    rotate_left
                    · intro w'
                      go_simp
                      with_reducible rfl
                    rotate_left
                    · simp only [Act.put, List.setIfInBounds_toArray, List.set_cons_zero, List.set_cons_succ, i64_w, i32_w]
                      rfl
                    refine pure_ (i := 1) (N := some 32) (v := ?_) (a' := ?_) #[true, true, false, false, false, false, false, false] rfl rfl (any_of HT_.out (by kernel_rfl)) (fun _ _ _ h => h) (Or.inl ⟨by rfl, ?_⟩) ?_ ?_
                    rotate_left
                    · intro w'
                      go_simp
                      with_reducible rfl
                    rotate_left
                    · simp only [Act.put, List.setIfInBounds_toArray, List.set_cons_zero, List.set_cons_succ, i64_w, i32_w]
                      rfl
                    refine pure_ (i := 2) (N := some 33) (v := ?_) (a' := ?_) #[true, true, true, false, false, false, false, false] rfl rfl (any_of HT_.out (by kernel_rfl)) (fun _ _ _ h => h) (Or.inl ⟨by rfl, ?_⟩) ?_ ?_
                    rotate_left
                    · intro w'
                      go_simp
                      with_reducible rfl
                    rotate_left
                    · simp only [Act.put, List.setIfInBounds_toArray, List.set_cons_zero, List.set_cons_succ, i64_w, i32_w]
                      rfl
                    refine pure_ (i := 3) (N := some 34) (v := ?_) (a' := ?_) #[true, true, true, true, false, false, false, false] rfl rfl (any_of HT_.out (by kernel_rfl)) (fun _ _ _ h => h) (Or.inl ⟨by rfl, ?_⟩) ?_ ?_
                    rotate_left
                    · intro w'
                      go_simp
                      with_reducible rfl
                    rotate_left
                    · simp only [Act.put, List.setIfInBounds_toArray, List.set_cons_zero, List.set_cons_succ, i64_w, i32_w]
                      rfl
                    refine pure_ (i := 5) (N := some 36) (v := ?_) (a' := ?_) #[true, true, true, true, false, true, false, false] rfl rfl (any_of HT_.out (by kernel_rfl)) (fun _ _ _ h => h) (Or.inl ⟨by rfl, ?_⟩) ?_ ?_
                    rotate_left
                    · intro w'
                      go_simp
                      with_reducible rfl
                    rotate_left
                    · simp only [Act.put, List.setIfInBounds_toArray, List.set_cons_zero, List.set_cons_succ, i64_w, i32_w]
                      rfl
                    refine take_ (i := 4) (N := some 35) (v := ?_) (a' := ?_) #[true, true, true, true, true, true, false, false] rfl rfl (take_ofW HT_.out HW_.out (by kernel_rfl)) (fun _ _ _ h => h) (Or.inl ⟨by rfl, ?_⟩) hHeld ?_ ?_
                    rotate_left
                    · rintro w' ⟨s0, s1, s2, s3, s4, s5, s6, s7, s8, s9, s10, s11, s12, s13, s14, s15, s16, s17⟩
                      go_simp
                      with_reducible rfl
                    rotate_left
                    · simp only [Act.put, List.setIfInBounds_toArray, List.set_cons_zero, List.set_cons_succ, i64_w, i32_w]
                      rfl
                    refine take_ (i := 6) (N := some 37) (v := ?_) (a' := ?_) #[true, true, true, true, true, true, true, false] rfl rfl (take_ofW HT_.out HW_.out (by kernel_rfl)) (fun _ _ _ h => h) (Or.inl ⟨by rfl, ?_⟩) hHeld ?_ ?_
                    rotate_left
                    · rintro w' ⟨s0, s1, s2, s3, s4, s5, s6, s7, s8, s9, s10, s11, s12, s13, s14, s15, s16, s17⟩
                      go_simp
                      with_reducible rfl
                    rotate_left
                    · simp only [Act.put, List.setIfInBounds_toArray, List.set_cons_zero, List.set_cons_succ, i64_w, i32_w]
                      rfl
                    refine pure_ (i := 7) (N := some 38) (v := ?_) (a' := ?_) #[true, true, true, true, true, true, true, true] rfl rfl (any_of HT_.out (by kernel_rfl)) (fun _ _ _ h => h) (Or.inl ⟨by rfl, ?_⟩) ?_ ?_
                    rotate_left
                    · intro w'
                      go_simp
                      with_reducible rfl
                    rotate_left
                    · simp only [Act.put, List.setIfInBounds_toArray, List.set_cons_zero, List.set_cons_succ, i64_w, i32_w]
                      rfl
                    refine done_ (done_of HT_.out (by kernel_rfl)) ?_
                    try go_wp2
                    go_roundg kj4
                    case measure => have := HK1.out; have := HJ4.out; omega
                    case rel => exact ⟨(x5_1), (x6_1), (wrap64 (x7_1 + 1)), (by first | rfl | (simp; done) | (simp [*]; done)), (by first | rfl | (simp; done) | (simp [*]; done)), H', ⟨by have := HK1.out; have := HJ4.out; omega⟩, ⟨by (with_reducible repeat (first | apply Kd.R_alloc | apply Kd.R_drewN | apply Kd.R_drew)); exact HO_5.out⟩, ⟨by (with_reducible repeat (first | refine blk_drewN ?_ _ | refine blk_drew ?_ | refine blk_alloc ?_ _)); exact BK121.out⟩, ⟨by repeat (first | (with_reducible first | exact HB.out | apply below_alloc | apply pw_below_drewN | apply below_drew1 | refine below_set ?_ GE121.out) | exact HB.out)⟩⟩
                · rw [if_neg c26] at H
                  exact absurd H (by simp)
              · rw [if_neg c25] at H
                exact absurd H (by simp)
      · rw [if_neg c4] at H
        have c4b0 : decide (x7_1 < (l0.length : Int)) = false := decide_eq_false c4
        clear c4
        by_cases c32 : x6_1 = true
        · subst c32
          have H1 : (some x5_1) = some r := by rw [if_pos rfl] at H; exact H
          clear H
          have H := H1
          clear H1
          obtain rfl := Option.some.inj H
          go_wp2
          go_ret
          exact ⟨_, by first | rfl | (simp [errW_none, errW_some] <;> rfl) | (simp [*, errW_none, errW_some] <;> rfl), by (with_reducible repeat (first | apply Kd.R_alloc | apply Kd.R_drewN | apply Kd.R_drew)); exact Kd.R_mono HO_5.out (fun _ hk => trivial), by repeat (first | (with_reducible first | exact HB.out | apply below_alloc | apply pw_below_drewN | apply below_drew1 | refine below_set ?_ GE121.out) | exact HB.out)⟩
        · replace c32 := Bool.eq_false_iff.mpr c32
          subst c32
          have H1 : (if x5_1.length < 2513169434916 then (some (x5_1 ++ [(⟨(⟨a1_0, a1_1, a1_2⟩ : S25), (⟨a1_3, a1_4, a1_5, a1_6, a1_7, a1_8⟩ : S64)⟩ : S81)])) else (none)) = some r := by rw [if_neg (show ¬ (false = true) by decide)] at H; exact H
          clear H
          have H := H1
          clear H1
          by_cases c33 : x5_1.length < 2513169434916
          · rw [if_pos c33] at H
            have LMc33 := Aside0.mk c33
            clear c33
            obtain ⟨y122, hy122⟩ : ∃ y_ : List (S81), y_ = (x5_1 ++ [(⟨(⟨a1_0, a1_1, a1_2⟩ : S25), (⟨a1_3, a1_4, a1_5, a1_6, a1_7, a1_8⟩ : S64)⟩ : S81)]) := ⟨_, rfl⟩
            replace H : (some y122) = some r := by first | (rw [hy122]; with_reducible exact H) | (have H2_ := (Option.bind_some _ _).symm.trans H; rw [hy122]; with_reducible exact H2_) | (have H2_ := (Option.bind_some _ _).symm.trans H; with_reducible exact H2_) | with_reducible exact H | (rw [hy122]; exact H) | exact H
            have Ny122 := Aside0.mk hy122
            clear hy122
            obtain rfl := Option.some.inj H
            have hcz34_0 : wr.cell? ⟨gb121, 0, none⟩ = some (.int .u8 a1_0) := (blk_cell BK121.out 0).trans rfl
            have hcz34_1 : wr.cell? ⟨gb121, 1, none⟩ = some (.int .u8 a1_1) := (blk_cell BK121.out 1).trans rfl
            have hcz34_2 : wr.cell? ⟨gb121, 2, none⟩ = some (.int .u8 a1_2) := (blk_cell BK121.out 2).trans rfl
            have hcz34_3 : wr.cell? ⟨gb121, 3, none⟩ = some (.int .i64 a1_3) := (blk_cell BK121.out 3).trans rfl
            have hcz34_4 : wr.cell? ⟨gb121, 4, none⟩ = some (.int .i64 a1_4) := (blk_cell BK121.out 4).trans rfl
            have hcz34_5 : wr.cell? ⟨gb121, 5, none⟩ = some (.int .i64 a1_5) := (blk_cell BK121.out 5).trans rfl
            have hcz34_6 : wr.cell? ⟨gb121, 6, none⟩ = some (.int .i64 a1_6) := (blk_cell BK121.out 6).trans rfl
            have hcz34_7 : wr.cell? ⟨gb121, 7, none⟩ = some (.int .i64 a1_7) := (blk_cell BK121.out 7).trans rfl
            have hcz34_8 : wr.cell? ⟨gb121, 8, none⟩ = some (.int .i64 a1_8) := (blk_cell BK121.out 8).trans rfl
            have hfz34_0 := blk_frozen BK121.out 0
            have hfz34_1 := blk_frozen BK121.out 1
            have hfz34_2 := blk_frozen BK121.out 2
            have hfz34_3 := blk_frozen BK121.out 3
            have hfz34_4 := blk_frozen BK121.out 4
            have hfz34_5 := blk_frozen BK121.out 5
            have hfz34_6 := blk_frozen BK121.out 6
            have hfz34_7 := blk_frozen BK121.out 7
            have hfz34_8 := blk_frozen BK121.out 8
            go_wp2_with (first | ((with_reducible refine gate_builtin (b := .append) (xs := #[.tmp 48, .tmp 50]) rfl ?_); at_builtin; refine Kd.R_append k81 (w0 := w) w.heap.size rfl (.tmp 48) (.tmp 50) 37 81 (.agg #[(.int .u8 0), (.int .u8 0), (.int .u8 0), (.int .i64 0), (.int .i64 0), (.int .i64 0), (.int .i64 0), (.int .i64 0), (.int .i64 0)]) 56 rfl Try.underlying37 info81 rfl (by decide) (by omega) u5 x5_1 (⟨(⟨a1_0, a1_1, a1_2⟩ : S25), (⟨a1_3, a1_4, a1_5, a1_6, a1_7, a1_8⟩ : S64)⟩ : S81) [.int .u8 a1_0, .int .u8 a1_1, .int .u8 a1_2, .int .i64 a1_3, .int .i64 a1_4, .int .i64 a1_5, .int .i64 a1_6, .int .i64 a1_7, .int .i64 a1_8] (fun k_ => k_ ≠ gb121) (fun _ => False) rfl rfl ?aP (fun _ hk => hk.elim) ?aF ?aO ?aB ?aS ?aL ?_; (case aP => exact k81_mkM _ _ _ (⟨(⟨a1_0, a1_1, a1_2⟩ : S25), (⟨a1_3, a1_4, a1_5, a1_6, a1_7, a1_8⟩ : S64)⟩ : S81)); (case aB => exact (by repeat (first | (with_reducible first | exact HB.out | apply below_alloc | apply pw_below_drewN | apply below_drew1 | refine below_set ?_ GE121.out) | exact HB.out))); (case aF => exact (fun k_ hk => Kd.freshB (g := gb121) (o := .cells #[.int .u8 a1_0, .int .u8 a1_1, .int .u8 a1_2, .int .i64 a1_3, .int .i64 a1_4, .int .i64 a1_5, .int .i64 a1_6, .int .i64 a1_7, .int .i64 a1_8] 81 (0, 0)) (by (with_reducible repeat (first | refine blk_drewN ?_ _ | refine blk_drew ?_ | refine blk_alloc ?_ _)); exact BK121.out) k_ hk)); (case aO => exact (by (with_reducible repeat (first | apply Kd.R_alloc | apply Kd.R_drewN | apply Kd.R_drew)); exact HO_5.out)); (case aS => exact (below_size (by repeat (first | (with_reducible first | exact HB.out | apply below_alloc | apply pw_below_drewN | apply below_drew1 | refine below_set ?_ GE121.out) | exact HB.out)))); (case aL => have := LMc33.out; omega); intro v123 w35 ho hb hg hat; rw [← Ny122.out] at ho; have n0_ := Aside0.mk (blk_grown (g := gb121) (o := .cells #[.int .u8 a1_0, .int .u8 a1_1, .int .u8 a1_2, .int .i64 a1_3, .int .i64 a1_4, .int .i64 a1_5, .int .i64 a1_6, .int .i64 a1_7, .int .i64 a1_8] 81 (0, 0)) (by (with_reducible repeat (first | refine blk_drewN ?_ _ | refine blk_drew ?_ | refine blk_alloc ?_ _)); exact BK121.out) hg (Kd.R_away HO_5.out (fun _ hk => hk))); have n1_ := Aside0.mk (hb); have n2_ := Aside0.mk (ho); clear BK121; clear HB; clear HO_5; have BK121 := n0_; have HB := n1_; have HO124 := n2_; clear n0_ n1_ n2_; clear ho hb hg hat))
            go_ret
            exact ⟨_, by first | rfl | (simp [errW_none, errW_some] <;> rfl) | (simp [*, errW_none, errW_some] <;> rfl), by (with_reducible repeat (first | apply Kd.R_alloc | apply Kd.R_drewN | apply Kd.R_drew)); exact Kd.R_mono HO124.out (fun _ hk => trivial), by repeat (first | (with_reducible first | exact HB.out | apply below_alloc | apply pw_below_drewN | apply below_drew1 | refine below_set ?_ GE121.out) | exact HB.out)⟩
          · rw [if_neg c33] at H
            exact absurd H (by simp)

end Go.Proofs.Ytnipjfciphgfjaa.G
