/- Plain lemmas on what the printed functions tell: the worked examples are true; the reference's sum is the sum where that fits. -/
import Derived.Test.YtdlkmnpipneonaaGx3
import Derived.Test.YtdlkmnpipneonaaGx5
namespace Go.Proofs.Ytdlkmnpipneonaa.Pure
open Go.RowKit Go.Proofs.Ytdlkmnpipneonaa.G Go.Proofs.YtdlkmnpipneonaaW.PrintWords Go.Proofs.YtdlkmnpipneonaaW.PrintLast

theorem wf64 {a : Int} (h : (Lit.int .i64 a).wf = true) : -9223372036854775808 ≤ a ∧ a ≤ 9223372036854775807 := by
  simp [Lit.wf, IntKind.min, IntKind.max, IntKind.signed, IntKind.bits] at h
  omega
theorem wf8 {a : Int} (h : (Lit.int .u8 a).wf = true) : 0 ≤ a ∧ a ≤ 255 := by
  simp [Lit.wf, IntKind.min, IntKind.max, IntKind.signed, IntKind.bits] at h
  omega

theorem works : pledgelaw01_works.f = some true := by decide +kernel

/-- What fits in 64 bits, or nothing. -/
def fit (s : Int) : Int × Bool := if -9223372036854775808 ≤ s ∧ s ≤ 9223372036854775807 then (s, true) else (0, false)
theorem fit_in {s : Int} (h : -9223372036854775808 ≤ s ∧ s ≤ 9223372036854775807) : fit s = (s, true) := if_pos h
theorem fit_out {s : Int} (h : ¬ (-9223372036854775808 ≤ s ∧ s ≤ 9223372036854775807)) : fit s = (0, false) := if_neg h

theorem sum_fit (l : List Int) (h : ∀ x ∈ l, -9223372036854775808 ≤ x ∧ x ≤ 9223372036854775807) (hn : l.length ≤ 1000) : calc_Sum.f l = some (fit l.sum) := by
  unfold calc_Sum.f fit
  rw [if_pos ⟨h, by omega⟩]
  split <;> rfl

theorem same_self (a : Int) (b : Bool) : pledgelaw01_same.f a b a b = some true := by
  unfold pledgelaw01_same.f; rw [if_pos rfl]; simp

theorem halves_eq (a : Int) (h : -9223372036854775808 ≤ a ∧ a ≤ 9223372036854775807) (k : Nat) : pledgeref01_halves.f (k + 2) a = some (a / 4294967296, a % 4294967296) := by
  have pos : ∀ (b : Int) (k : Nat), 0 ≤ b → b ≤ 9223372036854775807 → pledgeref01_halves.f (k + 1) b = some (b / 4294967296, b % 4294967296) := by
    intro b k h0 h1
    simp only [pledgeref01_halves.f]
    rw [if_neg (by omega), Int.tdiv_eq_ediv_of_nonneg h0, Int.tmod_eq_emod_of_nonneg h0]
    unfold wrap64; congr 2; omega
  by_cases hn : a < 0
  · simp only [pledgeref01_halves.f]
    rw [if_pos hn]
    have e : wrap64 (-(wrap64 (a + 1))) = -(a + 1) := by unfold wrap64; omega
    rw [e]
    have := pos (-(a + 1)) k (by omega) (by omega)
    simp only [pledgeref01_halves.f] at this
    rw [this]
    simp only [Option.bind_some]
    unfold wrap64
    congr 2 <;> omega
  · exact pos a (k + 1) (by omega) h.2

theorem ref_sum_from (l : List Int) (h : ∀ x ∈ l, -9223372036854775808 ≤ x ∧ x ≤ 9223372036854775807) (hn : l.length ≤ 1000) (d : Nat) :
    ∀ (k : Nat) (i : Nat) (hi lo : Int), i + d = l.length → d + 2 < k → 0 ≤ lo → lo < 4294967296 → hi * 4294967296 + lo = (l.take i).sum →
      pledgeref01_Sum.l0 k l i hi lo = some (fit l.sum) := by
  induction d with
  | zero =>
    intro k i hi lo hd hk h0 h1 hs
    obtain ⟨k, rfl⟩ : ∃ m, k = m + 1 := ⟨k - 1, by omega⟩
    simp only [pledgeref01_Sum.l0]
    rw [if_neg (by omega)]
    rw [List.take_of_length_le (by omega)] at hs
    unfold fit
    rw [← hs]
    by_cases c1 : hi < -2147483648
    · rw [if_pos c1, if_neg (by omega)]
    · rw [if_neg c1]
      by_cases c2 : hi > 2147483647
      · rw [if_pos c2, if_neg (by omega)]
      · rw [if_neg c2, if_pos (by omega)]
        unfold wrap64; congr 2; omega
  | succ d ih =>
    intro k i hi lo hd hk h0 h1 hs
    obtain ⟨k, rfl⟩ : ∃ m, k = m + 3 := ⟨k - 3, by omega⟩
    have hlt : i < l.length := by omega
    have q1 : ((i : Int) < (l.length : Int)) = True := eq_true (by omega)
    have q2 : (0 ≤ (i : Int)) = True := eq_true (by omega)
    have e1 : wrap64 ((i : Int) + 1) = ((i + 1 : Nat) : Int) := by unfold wrap64; omega
    have ih' := fun hi lo => ih (k + 2) (i + 1) hi lo (by omega) (by omega)
    have hl : (l.take i).length ≤ 1000 := by rw [List.length_take]; omega
    have hb := h _ (rd_mem l i hlt)
    have ht := take_sum l i hlt
    have hsb := sum_bounds (l.take i) (fun x hx => h x (List.mem_of_mem_take hx))
    rw [ht] at ih'
    clear ht ih hn h hd hk hlt
    simp only [pledgeref01_Sum.l0, q1, q2, if_true]
    rw [halves_eq _ hb k, e1]
    simp only [Option.bind_some]
    clear q1 q2 e1
    generalize hT : (l.take i).length = n at *
    clear hT
    generalize hS : (l.take i).sum = S at *
    clear hS
    generalize hA : rd l i = a at *
    clear hA
    have e2 : wrap64 (lo + a % 4294967296) = lo + a % 4294967296 := by unfold wrap64; omega
    have e3 : wrap64 (hi + a / 4294967296) = hi + a / 4294967296 := by unfold wrap64; omega
    rw [e2, e3]
    by_cases c : lo + a % 4294967296 ≥ 4294967296
    · rw [if_pos c]
      have e4 : wrap64 (hi + a / 4294967296 + 1) = hi + a / 4294967296 + 1 := by unfold wrap64; omega
      have e5 : wrap64 (lo + a % 4294967296 - 4294967296) = lo + a % 4294967296 - 4294967296 := by unfold wrap64; omega
      rw [e4, e5]
      exact ih' _ _ (by omega) (by omega) (by omega)
    · rw [if_neg c]
      exact ih' _ _ (by omega) (by omega) (by omega)

theorem ref_sum (l : List Int) (h : ∀ x ∈ l, -9223372036854775808 ≤ x ∧ x ≤ 9223372036854775807) (hn : l.length ≤ 1000) (k : Nat) (hk : l.length + 2 < k) : pledgeref01_Sum.f k l = some (fit l.sum) :=
  ref_sum_from l h hn l.length k 0 0 0 (by omega) hk (by omega) (by omega) (by simp)

end Go.Proofs.Ytdlkmnpipneonaa.Pure
