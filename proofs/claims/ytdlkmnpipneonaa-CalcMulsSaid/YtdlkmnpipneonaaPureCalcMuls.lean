/- Of any two numbers the product is the reference's, or it is told not to fit. -/
import Derived.Test.YtdlkmnpipneonaaGx19
import Derived.Test.YtdlkmnpipneonaaMul
namespace Go.Proofs.Ytdlkmnpipneonaa.Pure
open Go.RowKit Go.Proofs.Ytdlkmnpipneonaa.G Go.Proofs.YtdlkmnpipneonaaW.PrintWords Go.Proofs.YtdlkmnpipneonaaW.PrintLast Go.Proofs.YtdlkmnpipneonaaW.PrintMore

theorem ref_add2 (a b : Int) (ha : -9223372036854775808 ≤ a ∧ a ≤ 9223372036854775807) (hb : -9223372036854775808 ≤ b ∧ b ≤ 9223372036854775807) (k : Nat) (hk : 10 < k) : pledgeref01_Add.f k a b = some (fit (a + b)) := by
  unfold pledgeref01_Add.f
  rw [ref_sum [a, b] (by intro x hx; simp at hx; rcases hx with rfl | rfl <;> assumption) (by simp) k (by simp; omega)]
  simp
/-- A product with a smaller number lies nearer to 0. -/
theorem nearer (m n x : Int) (h0 : 0 ≤ m) (h1 : m ≤ n) (h : -9223372036854775808 ≤ n * x ∧ n * x ≤ 9223372036854775807) : -9223372036854775808 ≤ m * x ∧ m * x ≤ 9223372036854775807 := by
  by_cases hx : 0 ≤ x
  · have p := Int.mul_le_mul_of_nonneg_right h1 hx
    have q := Int.mul_nonneg h0 hx
    omega
  · have p := Int.mul_le_mul_of_nonpos_right h1 (show x ≤ 0 by omega)
    have q := Int.mul_nonpos_of_nonneg_of_nonpos h0 (show x ≤ 0 by omega)
    omega
theorem mul_from (n x : Int) (h0 : 0 ≤ n) (hn : n < 18446744073709551616) (hx : -9223372036854775808 ≤ x ∧ x ≤ 9223372036854775807) (i : Nat) :
    ∀ (k : Nat) (t : Int), i ≤ 64 → i + 20 < k → t = n / 2 ^ i * x → (-9223372036854775808 ≤ t ∧ t ≤ 9223372036854775807) → pledgeref01_Mul.l0 k t n x ((i : Int) - 1) = some (fit (n * x)) := by
  induction i with
  | zero =>
    intro k t hi hk ht hb
    obtain ⟨k, rfl⟩ : ∃ q, k = q + 1 := ⟨k - 1, by omega⟩
    rw [Int.pow_zero, Int.ediv_one] at ht
    have q0 : ((((0 : Nat) : Int) - 1) ≥ 0) = False := eq_false (by omega)
    simp only [pledgeref01_Mul.l0, q0, if_false]
    rw [← ht, fit_in hb]
  | succ i ih =>
    intro k t hi hk ht hb
    obtain ⟨k, rfl⟩ : ∃ q, k = q + 1 := ⟨k - 1, by omega⟩
    have e1 : (((i + 1 : Nat) : Int) - 1) = (i : Int) := by omega
    have e2 : wrap64 ((i : Int) - 1) = (i : Int) - 1 := by unfold wrap64; omega
    have e3 : IntKind.u64.wrap (i : Int) = (i : Int) := by rw [IntKind.wrap_u64]; omega
    have e4 : shr .u64 n (i : Int) = n / 2 ^ i := by unfold shr; rw [Int.toNat_natCast, Nat.min_eq_left (show i ≤ IntKind.u64.bits by show i ≤ 64; omega)]
    have q0 : ((i : Int) ≥ 0) = True := eq_true (by omega)
    have q1 : (0 ≤ (i : Int)) = True := eq_true (by omega)
    rw [e1]
    simp only [pledgeref01_Mul.l0, q0, if_true]
    rw [ref_add2 t t hb hb k (by omega), e2, e3, e4]
    have e5 : n / 2 ^ (i + 1) = n / 2 ^ i / 2 := by rw [Int.pow_succ, Int.ediv_ediv_of_nonneg (Int.pow_nonneg (by decide))]
    rw [e5] at ht
    have p0 : 0 ≤ n / 2 ^ i := Int.ediv_nonneg h0 (Int.pow_nonneg (by decide))
    have p1 : n / 2 ^ i ≤ n := Int.ediv_le_self _ h0
    have ih' := ih k
    clear ih e1 e2 e3 e4 e5
    generalize n / 2 ^ i = m at *
    have e6 : Int.tmod m 2 = m % 2 := Int.tmod_eq_emod_of_nonneg p0
    rw [e6]
    have e7 : t + t = m / 2 * 2 * x := by rw [ht, Int.mul_right_comm]; omega
    by_cases c : -9223372036854775808 ≤ t + t ∧ t + t ≤ 9223372036854775807
    · rw [fit_in c]
      simp only [Option.bind_some, if_true, q1]
      by_cases c2 : m % 2 = 1
      · rw [if_pos c2, ref_add2 (t + t) x c hx k (by omega)]
        have e8 : t + t + x = m * x := by
          have : m = m / 2 * 2 + 1 := by omega
          rw [e7]; conv => rhs; rw [this]
          rw [Int.add_mul, Int.one_mul]
        by_cases c3 : -9223372036854775808 ≤ t + t + x ∧ t + t + x ≤ 9223372036854775807
        · rw [fit_in c3]
          simp only [Option.bind_some, if_true]
          exact ih' _ (by omega) (by omega) e8 c3
        · rw [fit_out c3]
          simp only [Option.bind_some, Bool.false_eq_true, if_false]
          rw [fit_out (fun h => c3 (by rw [e8]; exact nearer m n x p0 p1 h))]
      · rw [if_neg c2]
        have e8 : t + t = m * x := by
          have : m = m / 2 * 2 := by omega
          rw [e7, ← this]
        exact ih' _ (by omega) (by omega) e8 c
    · rw [fit_out c]
      simp only [Option.bind_some, Bool.false_eq_true, if_false]
      rw [fit_out (fun h => c (by rw [e7]; exact nearer (m / 2 * 2) n x (by omega) (by omega) h))]
theorem mul_j1 (n x : Int) (h0 : 0 ≤ n) (hn : n < 18446744073709551616) (hx : -9223372036854775808 ≤ x ∧ x ≤ 9223372036854775807) (k : Nat) (hk : 100 < k) : pledgeref01_Mul.j1 k 0 n x = some (fit (n * x)) := by
  obtain ⟨k, rfl⟩ : ∃ q, k = q + 1 := ⟨k - 1, by omega⟩
  simp only [pledgeref01_Mul.j1]
  exact mul_from n x h0 hn hx 64 k 0 (by omega) (by omega) (by rw [Int.ediv_eq_zero_of_lt h0 (by exact hn), Int.zero_mul]) (by omega)
theorem ref_size (b : Int) (hb : -9223372036854775808 ≤ b ∧ b ≤ 9223372036854775807) : pledgeref01_Size.f b = some (if b < 0 then -b else b) := by
  unfold pledgeref01_Size.f
  by_cases c : b < 0
  · rw [if_pos c, if_pos c]; congr 1; simp only [IntKind.wrap_u64]; unfold wrap64; omega
  · rw [if_neg c, if_neg c]; congr 1; simp only [IntKind.wrap_u64]; omega
theorem ref_mul (a b : Int) (ha : -9223372036854775808 ≤ a ∧ a ≤ 9223372036854775807) (hb : -9223372036854775808 ≤ b ∧ b ≤ 9223372036854775807) (k : Nat) (hk : 200 < k) : pledgeref01_Mul.f k a b = some (fit (a * b)) := by
  obtain ⟨k, rfl⟩ : ∃ q, k = q + 1 := ⟨k - 1, by omega⟩
  have zero : a = 0 ∨ b = 0 → pledgeref01_Mul.j0 (k + 1) a b true = some (fit (a * b)) := by
    intro h
    have e : a * b = 0 := by rcases h with rfl | rfl <;> simp
    simp only [pledgeref01_Mul.j0, if_true]
    rw [e, fit_in (by omega)]
  unfold pledgeref01_Mul.f
  by_cases c0 : a = 0
  · rw [if_pos c0]; exact zero (.inl c0)
  rw [if_neg c0]
  by_cases c1 : b = 0
  · rw [beq_iff_eq.mpr c1]; exact zero (.inr c1)
  rw [beq_eq_false_iff_ne.mpr c1]
  simp only [pledgeref01_Mul.j0, Bool.false_eq_true, if_false]
  rw [ref_size b hb]
  simp only [Option.bind_some]
  by_cases c2 : b < 0
  · have q : (b < 0) = True := eq_true c2
    simp only [q, if_true]
    unfold pledgeref01_Neg.f
    by_cases c3 : a < -9223372036854775807
    · rw [if_pos c3]
      simp only [Option.bind_some, Bool.false_eq_true, if_false]
      obtain rfl : a = -9223372036854775808 := by omega
      rw [fit_out (by omega)]
    · rw [if_neg c3]
      have e : wrap64 (-a) = -a := by unfold wrap64; omega
      rw [e]
      simp only [Option.bind_some, if_true]
      rw [mul_j1 (-b) (-a) (by omega) (by omega) (by omega) k (by omega), Int.neg_mul_neg, Int.mul_comm]
  · have q : (b < 0) = False := eq_false c2
    simp only [q, if_false]
    rw [mul_j1 b a (by omega) (by omega) ha k (by omega), Int.mul_comm]
theorem CalcMuls : pledgelaw01_CalcMuls.Pure := by
  intro a b ha hb
  replace ha := wf64 ha
  replace hb := wf64 hb
  refine ⟨300, ?_⟩
  unfold pledgelaw01_CalcMuls.f
  rw [mul_fit a b ha hb, ref_mul a b ha hb 300 (by omega)]
  simp only [Option.bind_some, same_self, if_true, works]

end Go.Proofs.Ytdlkmnpipneonaa.Pure
