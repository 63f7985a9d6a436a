/- What functions of the program answer, for all inputs of which their Lean functions tell an answer; printed by a program of this session with the kit's printer, over contracts that this session proved by hand. -/
import Derived.Test.YtdlkmnpipneonaaGx0
import Derived.Test.YtdlkmnpipneonaaGx4
import Derived.Test.YtdlkmnpipneonaaGx5
import Derived.Test.YtdlkmnpipneonaaGx8
import Derived.Test.YtdlkmnpipneonaaGx9
namespace Go.Proofs.Ytdlkmnpipneonaa.G
open Go.RowKit Go.Proofs.YtdlkmnpipneonaaW.PrintWords Go.Proofs.YtdlkmnpipneonaaW.PrintLast Go.Proofs.YtdlkmnpipneonaaW.PrintMore
attribute [local go_sem] max2_int min2_int max_two min_two max_three min_three max_four min_four   -- for this text's walks alone
set_option linter.unusedVariables false
set_option linter.unusedSimpArgs false

/-! ### pledgelaw01_CalcBetween: function 5 -/
def pledgelaw01_CalcBetween.j0 : Nat → Int → Int → Int → Bool → Option (Bool)
  | 0, _, _, _, _ => none
  | k + 1, x0, x1, x2, x34 => if x34 = true then (some false) else ((calc_Dist.f x0 x1).bind fun t155 => ((pledgeref01_Dist.f x0 x1).bind fun t156 => (if t155 = t156 then ((calc_Clip.f x2 x0 x1).bind fun t157 => ((pledgeref01_Clip.f x2 x0 x1).bind fun t158 => (if t157 = t158 then ((pledgelaw01_works.f).bind fun t159 => (some t159)) else (some false)))) else (some false))))
def pledgelaw01_CalcBetween.f (k : Nat) (a0 : Int) (a1 : Int) (a2 : Int) : Option (Bool) := (calc_Fits.f (IntKind.u64.wrap (a0))).bind fun bt153 => (if (bt153.2 != (decide (a0 ≥ 0))) = true then (pledgelaw01_CalcBetween.j0 k a0 a1 a2 true) else (if bt153.2 = true then (if bt153.1 = a0 then (pledgelaw01_CalcBetween.j0 k a0 a1 a2 false) else (pledgelaw01_CalcBetween.j0 k a0 a1 a2 true)) else (pledgelaw01_CalcBetween.j0 k a0 a1 a2 (bt153.1 != 0))))
theorem pledgelaw01_CalcBetween.mono_l : ∀ k, (∀ y0 y1 y2 y3, LeO (pledgelaw01_CalcBetween.j0 k y0 y1 y2 y3) (pledgelaw01_CalcBetween.j0 (k + 1) y0 y1 y2 y3))
  | 0 => fun _ _ _ _ r h => by simp [pledgelaw01_CalcBetween.j0] at h
  | k + 1 => by
    have ih0 := pledgelaw01_CalcBetween.mono_l k
    · intro y0 y1 y2 y3
      unfold pledgelaw01_CalcBetween.j0
      repeat' first
      | (with_reducible exact ih0 _ _ _ _)
      | (with_reducible exact LeO.refl _)
      | (with_reducible exact LeO.none _)
      | (with_reducible refine LeO.ite ?_ ?_)
      | (with_reducible refine LeO.bind ?_ (fun _ => ?_))
      | exact ih0 _ _ _ _
      | exact LeO.none _
      | refine LeO.ite ?_ ?_
      | refine LeO.bind ?_ (fun _ => ?_)
theorem pledgelaw01_CalcBetween.mono : ∀ a0 a1 a2 k, LeO (pledgelaw01_CalcBetween.f k a0 a1 a2) (pledgelaw01_CalcBetween.f (k + 1) a0 a1 a2) := by
  intro a0 a1 a2 k
  have ih0 := pledgelaw01_CalcBetween.mono_l k
  unfold pledgelaw01_CalcBetween.f
  repeat' first
      | (with_reducible exact ih0 _ _ _ _)
      | (with_reducible exact LeO.refl _)
      | (with_reducible exact LeO.none _)
      | (with_reducible refine LeO.ite ?_ ?_)
      | (with_reducible refine LeO.bind ?_ (fun _ => ?_))
      | exact ih0 _ _ _ _
      | exact LeO.none _
      | refine LeO.ite ?_ ?_
      | refine LeO.bind ?_ (fun _ => ?_)
set_option maxHeartbeats 8000000 in
set_option maxRecDepth 100000 in
theorem pledgelaw01_CalcBetween.calls (k : Nat) (a0 : Int) (a1 : Int) (a2 : Int) (r : Bool) (w : World) (h : pledgelaw01_CalcBetween.f k a0 a1 a2 = some r) :
    Calls Try.prog 5 #[.int .i64 a0, .int .i64 a1, .int .i64 a2] w fun e w' => e = .returned (.bool r) ∧ Below w.heap.size w w' := by
  have HB := Aside0.mk (Below.refl w.heap.size w)
  have H : ((calc_Fits.f (IntKind.u64.wrap (a0))).bind fun bt153 => (if (bt153.2 != (decide (a0 ≥ 0))) = true then (pledgelaw01_CalcBetween.j0 k a0 a1 a2 true) else (if bt153.2 = true then (if bt153.1 = a0 then (pledgelaw01_CalcBetween.j0 k a0 a1 a2 false) else (pledgelaw01_CalcBetween.j0 k a0 a1 a2 true)) else (pledgelaw01_CalcBetween.j0 k a0 a1 a2 (bt153.1 != 0))))) = some r := h
  clear h
  replace H := Option.bind_eq_some_iff.mp H
  obtain ⟨⟨t153, t154⟩, A40, H⟩ := H
  replace H : (if (t154 != (decide (a0 ≥ 0))) = true then (pledgelaw01_CalcBetween.j0 k a0 a1 a2 true) else (if t154 = true then (if t153 = a0 then (pledgelaw01_CalcBetween.j0 k a0 a1 a2 false) else (pledgelaw01_CalcBetween.j0 k a0 a1 a2 true)) else (pledgelaw01_CalcBetween.j0 k a0 a1 a2 (t153 != 0)))) = some r := H
  have A4 := Aside0.mk A40
  clear A40
  have HC5 := Aside0.mk H
  clear H
  go_enter Try.func5, Try.ntmps5
  go_upto_region 2 with (first | ((with_reducible refine gate_callee (f := 14) rfl ?_); refine goesL_ (some 12) rfl rfl Try.func14 (by kernel_rfl) rfl #[.int .u64 (IntKind.u64.wrap (a0))] rfl (by (try simp only [List.map_toArray, List.map_cons, List.map_nil]); first | done | rfl | (simp only [List.length_drop, List.length_take]; rfl)) ?_; (with_reducible refine (calc_Fits.calls (IntKind.u64.wrap (a0)) t153 t154 _ A4.out).mono ?_); rintro e w' ⟨rfl, ⟨nd, rfl⟩⟩; refine ⟨_, rfl, ?_⟩))
  (try simp only [Act.put, List.setIfInBounds_toArray, List.set_cons_zero, List.set_cons_succ])
  go_cut [34] (fun v34 wc => ∃ (kq : Nat) (x34_4 : Bool), v34 = .bool x34_4 ∧ Aside0 (pledgelaw01_CalcBetween.j0 kq a0 a1 a2 x34_4 = some r) ∧ Aside0 (kq ≤ k) ∧ Aside0 (Below w.heap.size w wc))
  case first =>
    have H := HC5.out
    clear HC5
    by_cases c6 : (t154 != (decide (a0 ≥ 0))) = true
    · rw [if_pos c6] at H
      have c6b0 : (t154 != (decide (a0 ≥ 0))) = true := c6
      (try (have c6b1 : decide (t154 = (decide (a0 ≥ 0))) = false := by simpa using c6))
      (try (have c6b2 : (t154 == (decide (a0 ≥ 0))) = false := by simpa using c6))
      (try (have c6b3 : ¬ (t154 = (decide (a0 ≥ 0))) := by simpa using c6))
      clear c6
      (first | rw [c6b0] | (simp only [i64_w, i32_w]; rw [c6b0]) | skip)
      have H' := Aside0.mk H
      clear H
      go_wp2
      go_meet
      case rel => exact ⟨_, (true), (by first | rfl | (simp; done) | (simp [*]; done)), H', ⟨by first | omega | exact Nat.le_refl _⟩, ⟨by repeat (first | (with_reducible first | exact HB.out | apply below_alloc | apply pw_below_drewN | apply below_drew1) | exact HB.out)⟩⟩
    · rw [if_neg c6] at H
      have c6b0 : (t154 != (decide (a0 ≥ 0))) = false := by simpa using c6
      (try (have c6b1 : decide (t154 = (decide (a0 ≥ 0))) = true := by simpa using c6))
      (try (have c6b2 : (t154 == (decide (a0 ≥ 0))) = true := by simpa using c6))
      clear c6
      (first | rw [c6b0] | (simp only [i64_w, i32_w]; rw [c6b0]) | skip)
      by_cases c7 : t154 = true
      · subst c7
        have H1 : (if t153 = a0 then (pledgelaw01_CalcBetween.j0 k a0 a1 a2 false) else (pledgelaw01_CalcBetween.j0 k a0 a1 a2 true)) = some r := by rw [if_pos rfl] at H; exact H
        clear H
        have H := H1
        clear H1
        by_cases c8 : t153 = a0
        · rw [if_pos c8] at H
          have c8b0 : (t153 == a0) = true := beq_iff_eq.mpr c8
          have c8b1 : (t153 != a0) = false := bne_eq_false_iff_eq.mpr c8
          clear c8
          have H' := Aside0.mk H
          clear H
          go_wp2
          go_meet
          case rel => exact ⟨_, (false), (by first | rfl | (simp; done) | (simp [*]; done)), H', ⟨by first | omega | exact Nat.le_refl _⟩, ⟨by repeat (first | (with_reducible first | exact HB.out | apply below_alloc | apply pw_below_drewN | apply below_drew1) | exact HB.out)⟩⟩
        · rw [if_neg c8] at H
          have c8b0 : (t153 == a0) = false := beq_eq_false_iff_ne.mpr c8
          have c8b1 : (t153 != a0) = true := bne_iff_ne.mpr c8
          have H' := Aside0.mk H
          clear H
          go_wp2
          go_meet
          case rel => exact ⟨_, (true), (by first | rfl | (simp; done) | (simp [*]; done)), H', ⟨by first | omega | exact Nat.le_refl _⟩, ⟨by repeat (first | (with_reducible first | exact HB.out | apply below_alloc | apply pw_below_drewN | apply below_drew1) | exact HB.out)⟩⟩
      · replace c7 := Bool.eq_false_iff.mpr c7
        subst c7
        have H1 : (pledgelaw01_CalcBetween.j0 k a0 a1 a2 (t153 != 0)) = some r := by rw [if_neg (show ¬ (false = true) by decide)] at H; exact H
        clear H
        have H := H1
        clear H1
        have H' := Aside0.mk H
        clear H
        go_wp2
        go_meet
        case rel => exact ⟨_, ((t153 != 0)), (by first | rfl | (simp; done) | (simp [*]; done)), H', ⟨by first | omega | exact Nat.le_refl _⟩, ⟨by repeat (first | (with_reducible first | exact HB.out | apply below_alloc | apply pw_below_drewN | apply below_drew1) | exact HB.out)⟩⟩
  case rest =>
    clear HC5
    try clear c1
    try clear p2
    try clear c5
    try clear c6
    try clear c6b0
    try clear c6b1
    try clear c6b2
    try clear c7
    try clear c8
    try clear c8b0
    try clear c8b1
    obtain ⟨kq, x34_4, rfl, HA, HJ4, HB⟩ := hcut
    cases kq with
    | zero => exact absurd HA.out (by simp [pledgelaw01_CalcBetween.j0])
    | succ kj4 =>
      have H := HA.out
      clear HA
      simp only [pledgelaw01_CalcBetween.j0] at H
      by_cases c9 : x34_4 = true
      · subst c9
        have H1 : (some false) = some r := by rw [if_pos rfl] at H; exact H
        clear H
        have H := H1
        clear H1
        obtain rfl := Option.some.inj H
        go_wp2
        go_ret
        exact ⟨by first | rfl | (simp [errW_none, errW_some] <;> rfl) | (simp [*, errW_none, errW_some] <;> rfl), by repeat (first | (with_reducible first | exact HB.out | apply below_alloc | apply pw_below_drewN | apply below_drew1) | exact HB.out)⟩
      · replace c9 := Bool.eq_false_iff.mpr c9
        subst c9
        have H1 : ((calc_Dist.f a0 a1).bind fun t155 => ((pledgeref01_Dist.f a0 a1).bind fun t156 => (if t155 = t156 then ((calc_Clip.f a2 a0 a1).bind fun t157 => ((pledgeref01_Clip.f a2 a0 a1).bind fun t158 => (if t157 = t158 then ((pledgelaw01_works.f).bind fun t159 => (some t159)) else (some false)))) else (some false)))) = some r := by rw [if_neg (show ¬ (false = true) by decide)] at H; exact H
        clear H
        have H := H1
        clear H1
        replace H := Option.bind_eq_some_iff.mp H
        obtain ⟨t155, A100, H⟩ := H
        replace H : ((pledgeref01_Dist.f a0 a1).bind fun t156 => (if t155 = t156 then ((calc_Clip.f a2 a0 a1).bind fun t157 => ((pledgeref01_Clip.f a2 a0 a1).bind fun t158 => (if t157 = t158 then ((pledgelaw01_works.f).bind fun t159 => (some t159)) else (some false)))) else (some false))) = some r := H
        have A10 := Aside0.mk A100
        clear A100
        replace H := Option.bind_eq_some_iff.mp H
        obtain ⟨t156, A110, H⟩ := H
        replace H : (if t155 = t156 then ((calc_Clip.f a2 a0 a1).bind fun t157 => ((pledgeref01_Clip.f a2 a0 a1).bind fun t158 => (if t157 = t158 then ((pledgelaw01_works.f).bind fun t159 => (some t159)) else (some false)))) else (some false)) = some r := H
        have A11 := Aside0.mk A110
        clear A110
        by_cases c12 : t155 = t156
        · rw [if_pos c12] at H
          have c12b0 : (t155 == t156) = true := beq_iff_eq.mpr c12
          have c12b1 : (t155 != t156) = false := bne_eq_false_iff_eq.mpr c12
          clear c12
          replace H := Option.bind_eq_some_iff.mp H
          obtain ⟨t157, A130, H⟩ := H
          replace H : ((pledgeref01_Clip.f a2 a0 a1).bind fun t158 => (if t157 = t158 then ((pledgelaw01_works.f).bind fun t159 => (some t159)) else (some false))) = some r := H
          have A13 := Aside0.mk A130
          clear A130
          replace H := Option.bind_eq_some_iff.mp H
          obtain ⟨t158, A140, H⟩ := H
          replace H : (if t157 = t158 then ((pledgelaw01_works.f).bind fun t159 => (some t159)) else (some false)) = some r := H
          have A14 := Aside0.mk A140
          clear A140
          by_cases c15 : t157 = t158
          · rw [if_pos c15] at H
            have c15b0 : (t157 == t158) = true := beq_iff_eq.mpr c15
            have c15b1 : (t157 != t158) = false := bne_eq_false_iff_eq.mpr c15
            clear c15
            replace H := Option.bind_eq_some_iff.mp H
            obtain ⟨t159, A160, H⟩ := H
            replace H : (some t159) = some r := H
            have A16 := Aside0.mk A160
            clear A160
            obtain rfl := Option.some.inj H
            go_wp2_with (first | ((with_reducible refine gate_callee (f := 15) rfl ?_); refine goesL_ (some 37) rfl rfl Try.func15 (by kernel_rfl) rfl #[.int .i64 a0, .int .i64 a1] rfl (by (try simp only [List.map_toArray, List.map_cons, List.map_nil]); first | done | rfl | (simp only [List.length_drop, List.length_take]; rfl)) ?_; (with_reducible refine (calc_Dist.calls a0 a1 t155 _ A10.out).mono ?_); rintro e w' ⟨rfl, ⟨nd, rfl⟩⟩; refine ⟨_, rfl, ?_⟩) | ((with_reducible refine gate_callee (f := 16) rfl ?_); refine goesL_ (some 40) rfl rfl Try.func16 (by kernel_rfl) rfl #[.int .i64 a0, .int .i64 a1] rfl (by (try simp only [List.map_toArray, List.map_cons, List.map_nil]); first | done | rfl | (simp only [List.length_drop, List.length_take]; rfl)) ?_; (with_reducible refine (pledgeref01_Dist.calls a0 a1 t156 _ A11.out).mono ?_); rintro e w' ⟨rfl, ⟨nd, rfl⟩⟩; refine ⟨_, rfl, ?_⟩) | (go_at_call 17; (with_reducible refine (calc_Clip.calls a2 a0 a1 t157 _ A13.out).mono ?_); rintro e w17 ⟨rfl, hb⟩; have n0_ := Aside0.mk (below_step (by repeat (first | (with_reducible first | exact HB.out | apply below_alloc | apply pw_below_drewN | apply below_drew1) | exact HB.out)) hb); clear HB; have HB := n0_; clear n0_; (try clear hb); (try clear hb2); (try clear hk); (try clear hi)) | (go_at_call 18; (with_reducible refine (pledgeref01_Clip.calls a2 a0 a1 t158 _ A14.out).mono ?_); rintro e w' ⟨rfl, ⟨nd, rfl⟩⟩) | (go_at_call 13; (with_reducible refine (pledgelaw01_works.calls  t159 _ A16.out).mono ?_); rintro e w18 ⟨rfl, hb⟩; have n0_ := Aside0.mk (below_step (by repeat (first | (with_reducible first | exact HB.out | apply below_alloc | apply pw_below_drewN | apply below_drew1) | exact HB.out)) hb); clear HB; have HB := n0_; clear n0_; (try clear hb); (try clear hb2); (try clear hk); (try clear hi)))
            go_ret
            exact ⟨by first | rfl | (simp [errW_none, errW_some] <;> rfl) | (simp [*, errW_none, errW_some] <;> rfl), by repeat (first | (with_reducible first | exact HB.out | apply below_alloc | apply pw_below_drewN | apply below_drew1) | exact HB.out)⟩
          · rw [if_neg c15] at H
            have c15b0 : (t157 == t158) = false := beq_eq_false_iff_ne.mpr c15
            have c15b1 : (t157 != t158) = true := bne_iff_ne.mpr c15
            obtain rfl := Option.some.inj H
            go_wp2_with (first | ((with_reducible refine gate_callee (f := 15) rfl ?_); refine goesL_ (some 37) rfl rfl Try.func15 (by kernel_rfl) rfl #[.int .i64 a0, .int .i64 a1] rfl (by (try simp only [List.map_toArray, List.map_cons, List.map_nil]); first | done | rfl | (simp only [List.length_drop, List.length_take]; rfl)) ?_; (with_reducible refine (calc_Dist.calls a0 a1 t155 _ A10.out).mono ?_); rintro e w' ⟨rfl, ⟨nd, rfl⟩⟩; refine ⟨_, rfl, ?_⟩) | ((with_reducible refine gate_callee (f := 16) rfl ?_); refine goesL_ (some 40) rfl rfl Try.func16 (by kernel_rfl) rfl #[.int .i64 a0, .int .i64 a1] rfl (by (try simp only [List.map_toArray, List.map_cons, List.map_nil]); first | done | rfl | (simp only [List.length_drop, List.length_take]; rfl)) ?_; (with_reducible refine (pledgeref01_Dist.calls a0 a1 t156 _ A11.out).mono ?_); rintro e w' ⟨rfl, ⟨nd, rfl⟩⟩; refine ⟨_, rfl, ?_⟩) | (go_at_call 17; (with_reducible refine (calc_Clip.calls a2 a0 a1 t157 _ A13.out).mono ?_); rintro e w19 ⟨rfl, hb⟩; have n0_ := Aside0.mk (below_step (by repeat (first | (with_reducible first | exact HB.out | apply below_alloc | apply pw_below_drewN | apply below_drew1) | exact HB.out)) hb); clear HB; have HB := n0_; clear n0_; (try clear hb); (try clear hb2); (try clear hk); (try clear hi)) | (go_at_call 18; (with_reducible refine (pledgeref01_Clip.calls a2 a0 a1 t158 _ A14.out).mono ?_); rintro e w' ⟨rfl, ⟨nd, rfl⟩⟩))
            go_ret
            exact ⟨by first | rfl | (simp [errW_none, errW_some] <;> rfl) | (simp [*, errW_none, errW_some] <;> rfl), by repeat (first | (with_reducible first | exact HB.out | apply below_alloc | apply pw_below_drewN | apply below_drew1) | exact HB.out)⟩
        · rw [if_neg c12] at H
          have c12b0 : (t155 == t156) = false := beq_eq_false_iff_ne.mpr c12
          have c12b1 : (t155 != t156) = true := bne_iff_ne.mpr c12
          obtain rfl := Option.some.inj H
          go_wp2_with (first | ((with_reducible refine gate_callee (f := 15) rfl ?_); refine goesL_ (some 37) rfl rfl Try.func15 (by kernel_rfl) rfl #[.int .i64 a0, .int .i64 a1] rfl (by (try simp only [List.map_toArray, List.map_cons, List.map_nil]); first | done | rfl | (simp only [List.length_drop, List.length_take]; rfl)) ?_; (with_reducible refine (calc_Dist.calls a0 a1 t155 _ A10.out).mono ?_); rintro e w' ⟨rfl, ⟨nd, rfl⟩⟩; refine ⟨_, rfl, ?_⟩) | ((with_reducible refine gate_callee (f := 16) rfl ?_); refine goesL_ (some 40) rfl rfl Try.func16 (by kernel_rfl) rfl #[.int .i64 a0, .int .i64 a1] rfl (by (try simp only [List.map_toArray, List.map_cons, List.map_nil]); first | done | rfl | (simp only [List.length_drop, List.length_take]; rfl)) ?_; (with_reducible refine (pledgeref01_Dist.calls a0 a1 t156 _ A11.out).mono ?_); rintro e w' ⟨rfl, ⟨nd, rfl⟩⟩; refine ⟨_, rfl, ?_⟩))
          go_ret
          exact ⟨by first | rfl | (simp [errW_none, errW_some] <;> rfl) | (simp [*, errW_none, errW_some] <;> rfl), by repeat (first | (with_reducible first | exact HB.out | apply below_alloc | apply pw_below_drewN | apply below_drew1) | exact HB.out)⟩

/-- THE ONE PURE STATEMENT of pledgelaw01_CalcBetween: yours. -/
def pledgelaw01_CalcBetween.Pure : Prop := ∀ (a0 : Int) (a1 : Int) (a2 : Int), (Lit.int .i64 a0).wf = true → (Lit.int .i64 a1).wf = true → (Lit.int .i64 a2).wf = true → ∃ k, pledgelaw01_CalcBetween.f k a0 a1 a2 = some true
theorem pledgelaw01_CalcBetween.walk (P : pledgelaw01_CalcBetween.Pure) (a0 : Int) (a1 : Int) (a2 : Int) (w : World) (w0 : (Lit.int .i64 a0).wf = true) (w1 : (Lit.int .i64 a1).wf = true) (w2 : (Lit.int .i64 a2).wf = true) :
    Calls Try.prog 5 #[.int .i64 a0, .int .i64 a1, .int .i64 a2] w fun e w' => e = .returned (.bool true) ∧ Below w.heap.size w w' := by
  obtain ⟨k, h⟩ := P a0 a1 a2 w0 w1 w2
  refine (pledgelaw01_CalcBetween.calls k a0 a1 a2 true w h).mono ?_
  rintro e w' ⟨rfl, hd⟩
  exact ⟨rfl, hd⟩

end Go.Proofs.Ytdlkmnpipneonaa.G
