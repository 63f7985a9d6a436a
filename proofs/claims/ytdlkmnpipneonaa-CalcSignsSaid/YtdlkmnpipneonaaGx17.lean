/- What functions of the program answer, for all inputs of which their Lean functions tell an answer; printed by a program of this session with the kit's printer, over contracts that this session proved by hand. -/
import Derived.Test.YtdlkmnpipneonaaGx0
import Derived.Test.YtdlkmnpipneonaaGx16
namespace Go.Proofs.Ytdlkmnpipneonaa.G
open Go.RowKit Go.Proofs.YtdlkmnpipneonaaW.PrintWords Go.Proofs.YtdlkmnpipneonaaW.PrintLast Go.Proofs.YtdlkmnpipneonaaW.PrintMore
attribute [local go_sem] max2_int min2_int max_two min_two max_three min_three max_four min_four   -- for this text's walks alone
set_option linter.unusedVariables false
set_option linter.unusedSimpArgs false

/-! ### calc_Mul: function 25 -/
def calc_Mul.f (a0 : Int) (a1 : Int) : Option (Int × Bool) :=
  if -9223372036854775808 ≤ a0 ∧ a0 ≤ 9223372036854775807 ∧ -9223372036854775808 ≤ a1 ∧ a1 ≤ 9223372036854775807 then
    (if -9223372036854775808 ≤ a0 * a1 ∧ a0 * a1 ≤ 9223372036854775807 then some (a0 * a1, true) else some (0, false))
  else none
def absI (a : Int) : Int := if a < 0 then -a else a
theorem calc_size_abs (a : Int) (h0 : -9223372036854775808 ≤ a) (h1 : a ≤ 9223372036854775807) : calc_size.f a = some (absI a) := by
  unfold calc_size.f absI
  by_cases h : a < 0
  · rw [if_pos h, if_pos h, IntKind.wrap_u64, IntKind.wrap_u64]; congr 1; omega
  · rw [if_neg h, if_neg h, IntKind.wrap_u64]; congr 1; omega
theorem bits_Mul64_eq (x y : Int) (hx0 : 0 ≤ x) (hx : x < 18446744073709551616) (hy0 : 0 ≤ y) (hy : y < 18446744073709551616) :
    bits_Mul64.f x y = some (x * y / 18446744073709551616, x * y % 18446744073709551616) := by
  unfold bits_Mul64.f
  simp only [IntKind.wrap_u64]
  rw [and_low32 x hx0 hx, and_low32 y hy0 hy, and_low32 _ (by omega) (by omega)]
  rw [← mul64_arith x y hx0 hx hy0 hy]
theorem absI_bound (a : Int) (h0 : -9223372036854775808 ≤ a) (h1 : a ≤ 9223372036854775807) : 0 ≤ absI a ∧ absI a ≤ 9223372036854775808 := by
  unfold absI; split <;> omega
theorem abs_mul_same (a b : Int) (h : (a < 0 ∧ b < 0) ∨ (¬ a < 0 ∧ ¬ b < 0)) : absI a * absI b = a * b := by
  unfold absI
  rcases h with ⟨h1, h2⟩ | ⟨h1, h2⟩
  · rw [if_pos h1, if_pos h2, Int.neg_mul_neg]
  · rw [if_neg h1, if_neg h2]
theorem abs_mul_other (a b : Int) (h : (a < 0 ∧ ¬ b < 0) ∨ (¬ a < 0 ∧ b < 0)) : absI a * absI b = -(a * b) := by
  unfold absI
  rcases h with ⟨h1, h2⟩ | ⟨h1, h2⟩
  · rw [if_pos h1, if_neg h2, Int.neg_mul]
  · rw [if_neg h1, if_pos h2, Int.mul_neg]
theorem ret2_eq {x y : Int} {b : Bool} (h : x = y) : Ending.returned (.tuple #[.int .i64 x, .bool b]) = .returned (.tuple #[.int .i64 y, .bool b]) := by rw [h]
set_option maxHeartbeats 4000000 in
theorem calc_Mul.run (a0 a1 u v hi lo : Int) (r1 : Int) (r2 : Bool) (w : World) (hu : calc_size.f a0 = some u) (hv : calc_size.f a1 = some v) (hm : bits_Mul64.f u v = some (hi, lo))
    (s0 s1 : Bool) (hs0 : decide (a0 < 0) = s0) (hs1 : decide (a1 < 0) = s1) (h0 : 0 ≤ lo) (h1 : lo < 18446744073709551616)
    (h : (if hi = 0 then (if (s0 != s1) = true then (if lo ≤ 9223372036854775808 then (-lo, true) else (0, false)) else (if lo < 9223372036854775808 then (lo, true) else (0, false))) else (0, false)) = (r1, r2)) :
    Calls Try.prog 25 #[.int .i64 a0, .int .i64 a1] w fun e w' => e = .returned (.tuple #[.int .i64 r1, .bool r2]) ∧ Drawn0 w w' := by
  have HU := Aside0.mk hu
  have HV := Aside0.mk hv
  have HM := Aside0.mk hm
  clear hu hv hm
  by_cases c0 : hi = 0
  · subst c0
    rw [if_pos rfl] at h
    have e1 : lo ≤ 9223372036854775808 → wrap64 (IntKind.u64.wrap (-lo)) = -lo := by intro h; rw [IntKind.wrap_u64]; unfold wrap64; omega
    have e2 : lo < 9223372036854775808 → wrap64 lo = lo := by intro h; unfold wrap64; omega
    by_cases c1 : lo ≤ 9223372036854775808
    · have d1 : decide (lo ≤ 9223372036854775808) = true := decide_eq_true c1
      rw [if_pos c1] at h
      have E1 := Aside0.mk (e1 c1)
      by_cases c2 : lo < 9223372036854775808
      · have d2 : decide (lo < 9223372036854775808) = true := decide_eq_true c2
        rw [if_pos c2] at h
        have E2 := Aside0.mk (e2 c2)
        clear c1 c2 e1 e2
        cases s0 <;> cases s1 <;> simp only [bne_self_eq_false, Bool.false_eq_true, if_false, if_true, Bool.bne_true, Bool.bne_false, Bool.not_true, Bool.not_false, Prod.mk.injEq] at h <;> obtain ⟨rfl, rfl⟩ := h
        all_goals
          go_enter Try.func25, Try.ntmps25
          go_wp2_with (first | (go_at_call 31; ((with_reducible refine (calc_size.calls a0 u _ HU.out).mono ?_); rintro e w' ⟨rfl, ⟨nd, rfl⟩⟩)) | (go_at_call 31; ((with_reducible refine (calc_size.calls a1 v _ HV.out).mono ?_); rintro e w' ⟨rfl, ⟨nd, rfl⟩⟩)) | (go_at_call 30; ((with_reducible refine (bits_Mul64.calls u v 0 lo _ HM.out).mono ?_); rintro e w' ⟨rfl, ⟨nd, rfl⟩⟩)))
          go_ret2
          first | exact ⟨ret2_eq E1.out, ⟨_, rfl⟩⟩ | exact ⟨ret2_eq E2.out, ⟨_, rfl⟩⟩ | exact ⟨rfl, ⟨_, rfl⟩⟩
      · have d2 : decide (lo < 9223372036854775808) = false := decide_eq_false c2
        rw [if_neg c2] at h
        clear c1 c2 e1 e2
        cases s0 <;> cases s1 <;> simp only [bne_self_eq_false, Bool.false_eq_true, if_false, if_true, Bool.bne_true, Bool.bne_false, Bool.not_true, Bool.not_false, Prod.mk.injEq] at h <;> obtain ⟨rfl, rfl⟩ := h
        all_goals
          go_enter Try.func25, Try.ntmps25
          go_wp2_with (first | (go_at_call 31; ((with_reducible refine (calc_size.calls a0 u _ HU.out).mono ?_); rintro e w' ⟨rfl, ⟨nd, rfl⟩⟩)) | (go_at_call 31; ((with_reducible refine (calc_size.calls a1 v _ HV.out).mono ?_); rintro e w' ⟨rfl, ⟨nd, rfl⟩⟩)) | (go_at_call 30; ((with_reducible refine (bits_Mul64.calls u v 0 lo _ HM.out).mono ?_); rintro e w' ⟨rfl, ⟨nd, rfl⟩⟩)))
          go_ret2
          first | exact ⟨ret2_eq E1.out, ⟨_, rfl⟩⟩ | exact ⟨rfl, ⟨_, rfl⟩⟩
    · have d1 : decide (lo ≤ 9223372036854775808) = false := decide_eq_false c1
      have d2 : decide (lo < 9223372036854775808) = false := decide_eq_false (by omega)
      rw [if_neg c1, if_neg (by omega : ¬ lo < 9223372036854775808)] at h
      clear c1 e1 e2
      cases s0 <;> cases s1 <;> simp only [ite_self, Prod.mk.injEq] at h <;> obtain ⟨rfl, rfl⟩ := h
      all_goals
        go_enter Try.func25, Try.ntmps25
        go_wp2_with (first | (go_at_call 31; ((with_reducible refine (calc_size.calls a0 u _ HU.out).mono ?_); rintro e w' ⟨rfl, ⟨nd, rfl⟩⟩)) | (go_at_call 31; ((with_reducible refine (calc_size.calls a1 v _ HV.out).mono ?_); rintro e w' ⟨rfl, ⟨nd, rfl⟩⟩)) | (go_at_call 30; ((with_reducible refine (bits_Mul64.calls u v 0 lo _ HM.out).mono ?_); rintro e w' ⟨rfl, ⟨nd, rfl⟩⟩)))
        go_ret2
        exact ⟨rfl, ⟨_, rfl⟩⟩
  · rw [if_neg c0, Prod.mk.injEq] at h
    obtain ⟨rfl, rfl⟩ := h
    have d0 : (hi != 0) = true := bne_iff_ne.mpr c0
    clear c0
    cases s0 <;> cases s1
    all_goals
      go_enter Try.func25, Try.ntmps25
      go_wp2_with (first | (go_at_call 31; ((with_reducible refine (calc_size.calls a0 u _ HU.out).mono ?_); rintro e w' ⟨rfl, ⟨nd, rfl⟩⟩)) | (go_at_call 31; ((with_reducible refine (calc_size.calls a1 v _ HV.out).mono ?_); rintro e w' ⟨rfl, ⟨nd, rfl⟩⟩)) | (go_at_call 30; ((with_reducible refine (bits_Mul64.calls u v hi lo _ HM.out).mono ?_); rintro e w' ⟨rfl, ⟨nd, rfl⟩⟩)))
      go_ret2
      exact ⟨rfl, ⟨_, rfl⟩⟩
theorem calc_Mul.calls (a0 : Int) (a1 : Int) (r1 : Int) (r2 : Bool) (w : World) (h : calc_Mul.f a0 a1 = some (r1, r2)) :
    Calls Try.prog 25 #[.int .i64 a0, .int .i64 a1] w fun e w' => e = .returned (.tuple #[.int .i64 r1, .bool r2]) ∧ Drawn0 w w' := by
  unfold calc_Mul.f at h
  split at h
  case isFalse => simp at h
  case isTrue hb =>
  have b0 := absI_bound a0 hb.1 hb.2.1
  have b1 := absI_bound a1 hb.2.2.1 hb.2.2.2
  refine calc_Mul.run a0 a1 _ _ _ _ r1 r2 w (calc_size_abs a0 hb.1 hb.2.1) (calc_size_abs a1 hb.2.2.1 hb.2.2.2) (bits_Mul64_eq _ _ b0.1 (by omega) b1.1 (by omega)) _ _ rfl rfl (by omega) (by omega) ?_
  have p0 : 0 ≤ absI a0 * absI a1 := Int.mul_nonneg b0.1 b1.1
  by_cases c0 : a0 < 0 <;> by_cases c1 : a1 < 0
  · have e := abs_mul_same a0 a1 (.inl ⟨c0, c1⟩)
    rw [e] at p0 ⊢
    rw [decide_eq_true c0, decide_eq_true c1]
    generalize a0 * a1 = p at *
    have hp : (if -9223372036854775808 ≤ p ∧ p ≤ 9223372036854775807 then some (p, true) else some (0, false)) = some (r1, r2) := h
    split at hp <;> simp only [Option.some.injEq] at hp <;> rw [← hp]
    · rw [if_pos (by omega), if_neg (by decide), if_pos (by omega)]; congr 1; omega
    · by_cases z : p / 18446744073709551616 = 0
      · rw [if_pos z, if_neg (by decide), if_neg (by omega)]
      · rw [if_neg z]
  · have e := abs_mul_other a0 a1 (.inl ⟨c0, c1⟩)
    rw [e] at p0 ⊢
    rw [decide_eq_true c0, decide_eq_false c1]
    generalize a0 * a1 = p at *
    have hp : (if -9223372036854775808 ≤ p ∧ p ≤ 9223372036854775807 then some (p, true) else some (0, false)) = some (r1, r2) := h
    split at hp <;> simp only [Option.some.injEq] at hp <;> rw [← hp]
    · rw [if_pos (by omega), if_pos (by decide), if_pos (by omega)]; congr 1; omega
    · by_cases z : (-p) / 18446744073709551616 = 0
      · rw [if_pos z, if_pos (by decide), if_neg (by omega)]
      · rw [if_neg z]
  · have e := abs_mul_other a0 a1 (.inr ⟨c0, c1⟩)
    rw [e] at p0 ⊢
    rw [decide_eq_false c0, decide_eq_true c1]
    generalize a0 * a1 = p at *
    have hp : (if -9223372036854775808 ≤ p ∧ p ≤ 9223372036854775807 then some (p, true) else some (0, false)) = some (r1, r2) := h
    split at hp <;> simp only [Option.some.injEq] at hp <;> rw [← hp]
    · rw [if_pos (by omega), if_pos (by decide), if_pos (by omega)]; congr 1; omega
    · by_cases z : (-p) / 18446744073709551616 = 0
      · rw [if_pos z, if_pos (by decide), if_neg (by omega)]
      · rw [if_neg z]
  · have e := abs_mul_same a0 a1 (.inr ⟨c0, c1⟩)
    rw [e] at p0 ⊢
    rw [decide_eq_false c0, decide_eq_false c1]
    generalize a0 * a1 = p at *
    have hp : (if -9223372036854775808 ≤ p ∧ p ≤ 9223372036854775807 then some (p, true) else some (0, false)) = some (r1, r2) := h
    split at hp <;> simp only [Option.some.injEq] at hp <;> rw [← hp]
    · rw [if_pos (by omega), if_neg (by decide), if_pos (by omega)]; congr 1; omega
    · by_cases z : p / 18446744073709551616 = 0
      · rw [if_pos z, if_neg (by decide), if_neg (by omega)]
      · rw [if_neg z]


end Go.Proofs.Ytdlkmnpipneonaa.G
