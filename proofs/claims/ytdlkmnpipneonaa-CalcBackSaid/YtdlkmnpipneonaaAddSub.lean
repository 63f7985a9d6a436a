/- calc.Add and calc.Sub answer the sum and the difference where these fit, else that they do not. -/
import Derived.Test.YtdlkmnpipneonaaGx11
import Derived.Test.YtdlkmnpipneonaaBase
import Derived.Laws.BitsAllLaws
namespace Go.Proofs.Ytdlkmnpipneonaa.Pure
open Go.RowKit Go.Proofs.Ytdlkmnpipneonaa.G Go.Proofs.YtdlkmnpipneonaaW.PrintWords Go.Proofs.YtdlkmnpipneonaaW.PrintLast

theorem wrap_i64_toInt (x : BitVec 64) : IntKind.i64.wrap (x.toNat : Int) = x.toInt := by
  rw [IntKind.wrap_i64, BitVec.toInt_eq_toNat_cond]
  have := x.isLt
  split <;> omega
theorem xor_i64 (a b : Int) : bits .xor .i64 a b = (BitVec.ofInt 64 a ^^^ BitVec.ofInt 64 b).toInt := by
  show IntKind.i64.wrap _ = _
  exact wrap_i64_toInt _
theorem and_i64 (a b : Int) : bits .and .i64 a b = (BitVec.ofInt 64 a &&& BitVec.ofInt 64 b).toInt := by
  show IntKind.i64.wrap _ = _
  exact wrap_i64_toInt _
theorem msb_ofInt (a : Int) (ha : -9223372036854775808 ≤ a ∧ a ≤ 9223372036854775807) : (BitVec.ofInt 64 a).msb = decide (a < 0) := by
  rw [BitVec.msb_eq_toInt, BitVec.toInt_ofInt]
  congr 1
  simp only [Int.bmod]
  split <;> simp <;> omega
/-- The sign of (a ^ b) & (c ^ d). -/
theorem sign_of (a b c d : Int) (ha : -9223372036854775808 ≤ a ∧ a ≤ 9223372036854775807) (hb : -9223372036854775808 ≤ b ∧ b ≤ 9223372036854775807) (hc : -9223372036854775808 ≤ c ∧ c ≤ 9223372036854775807) (hd : -9223372036854775808 ≤ d ∧ d ≤ 9223372036854775807) :
    (bits .and .i64 (bits .xor .i64 a b) (bits .xor .i64 c d) < 0) ↔ ((decide (a < 0) != decide (b < 0)) && (decide (c < 0) != decide (d < 0))) = true := by
  rw [and_i64, xor_i64, xor_i64, BitVec.ofInt_toInt, BitVec.ofInt_toInt]
  have e : ∀ x : BitVec 64, x.toInt < 0 ↔ x.msb = true := fun x => by rw [BitVec.msb_eq_toInt]; simp
  rw [e, BitVec.msb_and, BitVec.msb_xor, BitVec.msb_xor, msb_ofInt a ha, msb_ofInt b hb, msb_ofInt c hc, msb_ofInt d hd]

theorem add_fit (a b : Int) (ha : -9223372036854775808 ≤ a ∧ a ≤ 9223372036854775807) (hb : -9223372036854775808 ≤ b ∧ b ≤ 9223372036854775807) : calc_Add.f a b = some (fit (a + b)) := by
  have hs : -9223372036854775808 ≤ wrap64 (a + b) ∧ wrap64 (a + b) ≤ 9223372036854775807 := by unfold wrap64; omega
  have h := sign_of a (wrap64 (a + b)) b (wrap64 (a + b)) ha hs hb hs
  unfold calc_Add.f fit
  by_cases c : -9223372036854775808 ≤ a + b ∧ a + b ≤ 9223372036854775807
  · have e : wrap64 (a + b) = a + b := by unfold wrap64; omega
    rw [if_pos c, if_neg, e]
    rw [h, e]
    by_cases c1 : a < 0 <;> by_cases c2 : b < 0 <;> by_cases c3 : a + b < 0 <;> simp [c1, c2, c3] <;> omega
  · rw [if_neg c, if_pos]
    rw [h]
    have e : (a < 0 ∧ b < 0 ∧ ¬ wrap64 (a + b) < 0) ∨ (¬ a < 0 ∧ ¬ b < 0 ∧ wrap64 (a + b) < 0) := by unfold wrap64; omega
    rcases e with ⟨e1, e2, e3⟩ | ⟨e1, e2, e3⟩ <;> simp [e1, e2, e3]

theorem sub_fit (a b : Int) (ha : -9223372036854775808 ≤ a ∧ a ≤ 9223372036854775807) (hb : -9223372036854775808 ≤ b ∧ b ≤ 9223372036854775807) : calc_Sub.f a b = some (fit (a - b)) := by
  have hs : -9223372036854775808 ≤ wrap64 (a - b) ∧ wrap64 (a - b) ≤ 9223372036854775807 := by unfold wrap64; omega
  have h := sign_of a b a (wrap64 (a - b)) ha hb ha hs
  unfold calc_Sub.f fit
  by_cases c : -9223372036854775808 ≤ a - b ∧ a - b ≤ 9223372036854775807
  · have e : wrap64 (a - b) = a - b := by unfold wrap64; omega
    rw [if_pos c, if_neg, e]
    rw [h, e]
    by_cases c1 : a < 0 <;> by_cases c2 : b < 0 <;> by_cases c3 : a - b < 0 <;> simp [c1, c2, c3] <;> omega
  · rw [if_neg c, if_pos]
    rw [h]
    have e : (a < 0 ∧ ¬ b < 0 ∧ ¬ wrap64 (a - b) < 0) ∨ (¬ a < 0 ∧ b < 0 ∧ wrap64 (a - b) < 0) := by unfold wrap64; omega
    rcases e with ⟨e1, e2, e3⟩ | ⟨e1, e2, e3⟩ <;> simp [e1, e2, e3]

end Go.Proofs.Ytdlkmnpipneonaa.Pure
