/- What the references of the field layer answer: sums where they fit, the same order, the same grants and moves. -/
import Derived.Test.YtdpbfiifdphpcaaGrants
import Derived.Test.YtdpbfiifdphpcaaGx11
import Derived.Test.YtdpbfiifdphpcaaGx26
import Derived.Test.YtdpbfiifdphpcaaGx29
import Derived.Test.YtdpbfiifdphpcaaGx30
namespace Go.Proofs.Ytdpbfiifdphpcaa.Pure
open Go.RowKit Go.Proofs.Ytdpbfiifdphpcaa.G Go.Proofs.YtdpbfiifdphpcaaW.PrintWords Go.Proofs.YtdpbfiifdphpcaaW.PrintLast Go.Proofs.Ytdpbfiifdphpcaa.Open
theorem sum_bounds (l : List Int) (h : ∀ x ∈ l, -9223372036854775808 ≤ x ∧ x ≤ 9223372036854775807) : -9223372036854775808 * (l.length : Int) ≤ l.sum ∧ l.sum ≤ 9223372036854775807 * (l.length : Int) := by
  induction l with
  | nil => simp
  | cons a t ih =>
    have h1 := h a (List.mem_cons_self)
    have h2 := ih (fun x hx => h x (List.mem_cons_of_mem _ hx))
    simp only [List.sum_cons, List.length_cons]
    omega
theorem take_sum (l : List Int) (k : Nat) (hk : k < l.length) : (l.take (k + 1)).sum = (l.take k).sum + rd l k := by
  rw [List.take_succ_eq_append_getElem hk, List.sum_append]
  simp [rd, hk]
theorem rd_mem (l : List Int) (k : Nat) (hk : k < l.length) : rd l k ∈ l := by
  simp [rd, hk]
theorem halves_eq (a : Int) (h : -9223372036854775808 ≤ a ∧ a ≤ 9223372036854775807) (k : Nat) : pledgeref01_halves.f (k + 2) a = some (a / 4294967296, a % 4294967296) := by
  have pos : ∀ (b : Int) (k : Nat), 0 ≤ b → b ≤ 9223372036854775807 → pledgeref01_halves.f (k + 1) b = some (b / 4294967296, b % 4294967296) := by
    intro b k h0 h1
    simp only [pledgeref01_halves.f]
    rw [if_neg (by omega), Int.tdiv_eq_ediv_of_nonneg h0, Int.tmod_eq_emod_of_nonneg h0]
    unfold wrap64; congr 2; omega
  by_cases hn : a < 0
  · simp only [pledgeref01_halves.f]
    rw [if_pos hn]
    have e : wrap64 (-(wrap64 (a + 1))) = -(a + 1) := by unfold wrap64; omega
    rw [e]
    have := pos (-(a + 1)) k (by omega) (by omega)
    simp only [pledgeref01_halves.f] at this
    rw [this]
    simp only [Option.bind_some]
    unfold wrap64
    congr 2 <;> omega
  · exact pos a (k + 1) (by omega) h.2

theorem ref_sum_from (l : List Int) (h : ∀ x ∈ l, -9223372036854775808 ≤ x ∧ x ≤ 9223372036854775807) (hn : l.length ≤ 1000) (d : Nat) :
    ∀ (k : Nat) (i : Nat) (hi lo : Int), i + d = l.length → d + 2 < k → 0 ≤ lo → lo < 4294967296 → hi * 4294967296 + lo = (l.take i).sum →
      pledgeref01_Sum.l0 k l i hi lo = some (fit l.sum) := by
  induction d with
  | zero =>
    intro k i hi lo hd hk h0 h1 hs
    obtain ⟨k, rfl⟩ : ∃ m, k = m + 1 := ⟨k - 1, by omega⟩
    simp only [pledgeref01_Sum.l0]
    rw [if_neg (by omega)]
    rw [List.take_of_length_le (by omega)] at hs
    unfold fit
    rw [← hs]
    by_cases c1 : hi < -2147483648
    · rw [if_pos c1, if_neg (by omega)]
    · rw [if_neg c1]
      by_cases c2 : hi > 2147483647
      · rw [if_pos c2, if_neg (by omega)]
      · rw [if_neg c2, if_pos (by omega)]
        unfold wrap64; congr 2; omega
  | succ d ih =>
    intro k i hi lo hd hk h0 h1 hs
    obtain ⟨k, rfl⟩ : ∃ m, k = m + 3 := ⟨k - 3, by omega⟩
    have hlt : i < l.length := by omega
    have q1 : ((i : Int) < (l.length : Int)) = True := eq_true (by omega)
    have q2 : (0 ≤ (i : Int)) = True := eq_true (by omega)
    have e1 : wrap64 ((i : Int) + 1) = ((i + 1 : Nat) : Int) := by unfold wrap64; omega
    have ih' := fun hi lo => ih (k + 2) (i + 1) hi lo (by omega) (by omega)
    have hl : (l.take i).length ≤ 1000 := by rw [List.length_take]; omega
    have hb := h _ (rd_mem l i hlt)
    have ht := take_sum l i hlt
    have hsb := sum_bounds (l.take i) (fun x hx => h x (List.mem_of_mem_take hx))
    rw [ht] at ih'
    clear ht ih hn h hd hk hlt
    simp only [pledgeref01_Sum.l0, q1, q2, if_true]
    rw [halves_eq _ hb k, e1]
    simp only [Option.bind_some]
    clear q1 q2 e1
    generalize hT : (l.take i).length = n at *
    clear hT
    generalize hS : (l.take i).sum = S at *
    clear hS
    generalize hA : rd l i = a at *
    clear hA
    have e2 : wrap64 (lo + a % 4294967296) = lo + a % 4294967296 := by unfold wrap64; omega
    have e3 : wrap64 (hi + a / 4294967296) = hi + a / 4294967296 := by unfold wrap64; omega
    rw [e2, e3]
    by_cases c : lo + a % 4294967296 ≥ 4294967296
    · rw [if_pos c]
      have e4 : wrap64 (hi + a / 4294967296 + 1) = hi + a / 4294967296 + 1 := by unfold wrap64; omega
      have e5 : wrap64 (lo + a % 4294967296 - 4294967296) = lo + a % 4294967296 - 4294967296 := by unfold wrap64; omega
      rw [e4, e5]
      exact ih' _ _ (by omega) (by omega) (by omega)
    · rw [if_neg c]
      exact ih' _ _ (by omega) (by omega) (by omega)

theorem ref_sum (l : List Int) (h : ∀ x ∈ l, -9223372036854775808 ≤ x ∧ x ≤ 9223372036854775807) (hn : l.length ≤ 1000) (k : Nat) (hk : l.length + 2 < k) : pledgeref01_Sum.f k l = some (fit l.sum) :=
  ref_sum_from l h hn l.length k 0 0 0 (by omega) hk (by omega) (by omega) (by simp)

theorem ref_add (a b : Int) (ha : In64 a) (hb : In64 b) (k : Nat) (hk : 10 < k) : pledgeref01_Add.f k a b = some (fit (a + b)) := by
  unfold pledgeref01_Add.f
  rw [ref_sum [a, b] (by intro x hx; simp at hx; rcases hx with rfl | rfl <;> assumption) (by simp) k (by simp; omega)]
  simp
theorem ref_sub (a b : Int) (ha : In64 a) (hb : In64 b) (k : Nat) (hk : 10 < k) : pledgeref01_Sub.f k a b = some (fit (a - b)) := by
  unfold pledgeref01_Sub.f
  unfold In64 at ha hb
  by_cases c : b < -9223372036854775807
  · rw [if_pos c]
    rw [ref_sum [a, 9223372036854775807, 1] (by intro x hx; simp at hx; rcases hx with rfl | rfl | rfl <;> omega) (by simp) k (by simp; omega)]
    obtain rfl : b = -9223372036854775808 := by omega
    simp
  · rw [if_neg c]
    have e : wrap64 (-b) = -b := by unfold wrap64; omega
    rw [e, ref_sum [a, -b] (by intro x hx; simp at hx; rcases hx with rfl | rfl <;> omega) (by simp) k (by simp; omega)]
    simp [Int.sub_eq_add_neg]
/-- A number so many times more. -/
def mv (x d n : Int) : Int := if n = 0 then x else if n > 0 then x + d else x - d
theorem ref_times (x d n : Int) (hx : In64 x) (hd : In64 d) (k : Nat) (hk : 10 < k) : pledgeref17_times.f k x d n = some (fit (mv x d n)) := by
  unfold pledgeref17_times.f mv
  by_cases c : n = 0
  · rw [if_pos c, if_pos c, fit_in hx]
  · rw [if_neg c, if_neg c]
    by_cases c2 : n > 0
    · rw [if_pos c2, if_pos c2, ref_add x d hx hd k hk]; rfl
    · rw [if_neg c2, if_neg c2, ref_sub x d hx hd k hk]; rfl
theorem ref_good (a b c d e f : Int) : pledgeref17_Good.f a b c d e f = some (decide (GoodP a b c d e f)) := by
  unfold pledgeref17_Good.f
  by_cases h1 : a ≤ d
  · rw [if_pos h1]
    by_cases h2 : d ≤ c
    · rw [if_pos h2]
      by_cases h3 : d ≤ f
      · rw [if_pos h3]
        by_cases h4 : c ≤ e
        · rw [if_pos h4]
          by_cases h5 : f ≤ e
          · rw [if_pos h5]; congr 1
            by_cases h6 : e ≤ b
            · rw [decide_eq_true h6]; exact (decide_eq_true (⟨h1, h2, h3, h4, h5, h6⟩ : GoodP a b c d e f)).symm
            · rw [decide_eq_false h6]; exact (decide_eq_false (fun z : GoodP a b c d e f => h6 z.2.2.2.2.2)).symm
          · rw [if_neg h5]; congr 1; exact (decide_eq_false (fun z : GoodP a b c d e f => h5 z.2.2.2.2.1)).symm
        · rw [if_neg h4]; congr 1; exact (decide_eq_false (fun z : GoodP a b c d e f => h4 z.2.2.2.1)).symm
      · rw [if_neg h3]; congr 1; exact (decide_eq_false (fun z : GoodP a b c d e f => h3 z.2.2.1)).symm
    · rw [if_neg h2]; congr 1; exact (decide_eq_false (fun z : GoodP a b c d e f => h2 z.2.1)).symm
  · rw [if_neg h1]; congr 1; exact (decide_eq_false (fun z : GoodP a b c d e f => h1 z.1)).symm
theorem ref_first (a b c d e f x : Int) (hx : In64 x) : pledgeref17_first.f a b c d e f x = some (if ¬ GoodP a b c d e f then 12 else if x = 0 ∨ x = -9223372036854775808 then 1 else 0) := by
  unfold pledgeref17_first.f
  unfold In64 at hx
  rw [ref_good, Option.bind_some]
  by_cases h : GoodP a b c d e f
  · rw [decide_eq_true h, if_pos rfl, if_neg (show ¬¬ GoodP a b c d e f from fun z => z h)]
    by_cases h1 : x = 0
    · rw [if_pos h1, if_pos (Or.inl h1)]
    · rw [if_neg h1]
      by_cases h2 : x < -9223372036854775807
      · rw [if_pos h2, if_pos (Or.inr (by omega))]
      · rw [if_neg h2, if_neg (by omega)]
  · rw [decide_eq_false h, if_neg Bool.false_ne_true, if_pos h]
theorem ref_do (lo hi base inf sup val d m0 m1 m2 m3 : Int) (h : In7 lo hi base inf sup val d) (k : Nat) (hk : 20 < k) :
    pledgeref17_Do.f k lo hi base inf sup val d m0 m1 m2 m3 = some (moveP lo hi base inf sup val d (mv val d m0) (mv base d m1) (mv inf d (if d < 0 then m3 else m2)) (mv sup d (if d < 0 then m2 else m3))) := by
  obtain ⟨i0, i1, i2, i3, i4, i5, i6⟩ := h
  unfold pledgeref17_Do.f moveP
  rw [ref_first _ _ _ _ _ _ _ i6, Option.bind_some]
  by_cases g : GoodP lo hi base inf sup val
  · have gg : ¬¬ GoodP lo hi base inf sup val := fun z => z g
    rw [if_neg gg, if_neg gg]
    by_cases c : d = 0 ∨ d = -9223372036854775808
    · rw [if_pos c, if_pos c, if_neg (by decide)]
    · rw [if_neg c, if_neg c, if_pos rfl]
      have step : ∀ n0 n1, pledgeref17_Do.j0 k d n0 n1 lo hi base inf sup val m0 m1 m2 m3 lo hi base inf sup val =
          some (if In64 (mv val d m0) ∧ In64 (mv base d m1) ∧ In64 (mv inf d n0) ∧ In64 (mv sup d n1) ∧ GoodP lo hi (mv base d m1) (mv inf d n0) (mv sup d n1) (mv val d m0) then (lo, hi, mv base d m1, mv inf d n0, mv sup d n1, mv val d m0, 0) else (lo, hi, base, inf, sup, val, 12)) := by
        intro n0 n1
        obtain ⟨k, rfl⟩ : ∃ q, k = q + 1 := ⟨k - 1, by omega⟩
        simp only [pledgeref17_Do.j0]
        rw [ref_times _ _ _ i5 i6 k (by omega), ref_times _ _ _ i2 i6 k (by omega), ref_times _ _ _ i3 i6 k (by omega), ref_times _ _ _ i4 i6 k (by omega)]
        generalize mv val d m0 = v
        generalize mv base d m1 = b
        generalize mv inf d n0 = i
        generalize mv sup d n1 = s
        simp only [Option.bind_some, fit_snd]
        by_cases h1 : In64 v
        · by_cases h2 : In64 b
          · by_cases h3 : In64 i
            · by_cases h4 : In64 s
              · simp only [h1, h2, h3, h4, decide_true, if_true, true_and, fit_fst, ref_good, Option.bind_some]
                by_cases h5 : GoodP lo hi b i s v
                · rw [decide_eq_true h5, if_pos rfl, if_pos h5]
                · rw [decide_eq_false h5, if_neg Bool.false_ne_true, if_neg h5]
              · simp only [h1, h2, h3, h4, decide_true, decide_false, Bool.false_eq_true, if_true, if_false, false_and, and_false]
            · simp only [h1, h2, h3, decide_true, decide_false, Bool.false_eq_true, if_true, if_false, false_and, and_false]
          · simp only [h1, h2, decide_true, decide_false, Bool.false_eq_true, if_true, if_false, false_and, and_false]
        · simp only [h1, decide_false, Bool.false_eq_true, if_false, false_and]
      by_cases cd : d < 0
      · rw [if_pos cd, if_pos cd, if_pos cd]; exact step m3 m2
      · rw [if_neg cd, if_neg cd, if_neg cd]; exact step m2 m3
  · rw [if_pos g, if_pos g, if_neg (by decide)]
theorem ref_grant (lo hi base inf sup val d : Int) (h : In7 lo hi base inf sup val d) (k : Nat) (hk : 20 < k) :
    pledgeref17_Grant.f k lo hi base inf sup val d = some (grantP lo hi base inf sup val d) := by
  obtain ⟨i0, i1, i2, i3, i4, i5, i6⟩ := h
  unfold pledgeref17_Grant.f grantP
  rw [ref_first _ _ _ _ _ _ _ i6, Option.bind_some]
  by_cases g : GoodP lo hi base inf sup val
  · have gg : ¬¬ GoodP lo hi base inf sup val := fun z => z g
    rw [if_neg gg, if_neg gg]
    by_cases c : d = 0 ∨ d = -9223372036854775808
    · rw [if_pos c, if_pos c, if_neg (by decide)]
    · rw [if_neg c, if_neg c, if_pos rfl]
      obtain ⟨k, rfl⟩ : ∃ q, k = q + 2 := ⟨k - 2, by omega⟩
      have ev : ∀ x, (x = inf ∨ x = sup) → In64 x → pledgeref17_Grant.j0 (k + 2) d x lo hi base inf sup val lo hi base inf sup val =
          some (if ¬ In64 (x + d) then (lo, hi, base, inf, sup, val, 2) else if x + d < lo ∨ x + d > hi then (lo, hi, base, inf, sup, val, 3) else if d > 0 then (lo, hi, base, inf, x + d, wrap64 (val + d), 0) else (lo, hi, base, x + d, sup, wrap64 (val + d), 0)) := by
        intro x _ hx
        simp only [pledgeref17_Grant.j0, pledgeref17_Grant.j1]
        rw [ref_add x d hx i6 (k + 1) (by omega)]
        simp only [Option.bind_some, fit_snd]
        by_cases h1 : In64 (x + d)
        · have n1 : ¬¬ In64 (x + d) := fun z => z h1
          rw [if_neg n1]
          simp only [h1, decide_true, if_true, fit_fst]
          by_cases h2 : x + d < lo
          · simp only [h2, if_true, true_or]
          · by_cases h3 : x + d > hi
            · simp only [h2, h3, if_true, if_false, decide_true, or_true]
            · by_cases h4 : d > 0
              · simp only [h2, h3, h4, if_true, if_false, decide_false, Bool.false_eq_true, or_self]
              · simp only [h2, h3, h4, if_false, decide_false, Bool.false_eq_true, or_self]
        · rw [if_pos h1]
          simp only [h1, decide_false, Bool.false_eq_true, if_false]
      unfold GoodP at g
      by_cases cd : d < 0
      · rw [if_pos cd, if_pos cd, ev inf (.inl rfl) i3]
        unfold In64 at *
        congr 1
        by_cases c1 : inf + d < -9223372036854775808
        · rw [if_pos (by omega), if_pos c1]
        · rw [if_neg (by omega), if_neg c1]
          by_cases c2 : inf + d < lo
          · rw [if_pos (by omega), if_pos c2]
          · rw [if_neg (by omega), if_neg c2, if_neg (by omega)]
            have e : wrap64 (val + d) = val + d := by unfold wrap64; omega
            rw [e]
      · rw [if_neg cd, if_neg cd, ev sup (.inr rfl) i4]
        unfold In64 at *
        congr 1
        by_cases c1 : sup + d > 9223372036854775807
        · rw [if_pos (by omega), if_pos c1]
        · rw [if_neg (by omega), if_neg c1]
          by_cases c2 : sup + d > hi
          · rw [if_pos (by omega), if_pos c2]
          · rw [if_neg (by omega), if_neg c2, if_pos (by omega)]
            have e : wrap64 (val + d) = val + d := by unfold wrap64; omega
            rw [e]
  · rw [if_pos g, if_pos g, if_neg (by decide)]
end Go.Proofs.Ytdpbfiifdphpcaa.Pure
