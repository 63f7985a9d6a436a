/- What functions of the program answer, for all inputs of which their Lean functions tell an answer; printed by a program of this session with the kit's printer, over contracts that this session proved by hand. -/
import Derived.Test.YtnipjfciphgfjaaGx0
import Derived.Test.YtnipjfciphgfjaaGx2
import Derived.Test.YtnipjfciphgfjaaGx3
import Derived.Test.YtnipjfciphgfjaaGx4
namespace Go.Proofs.Ytnipjfciphgfjaa.G
open Go.RowKit Go.Proofs.YtnipjfciphgfjaaW.PrintWords Go.Proofs.YtnipjfciphgfjaaW.PrintLast Go.Proofs.YtnipjfciphgfjaaW.PrintMore
attribute [local go_sem] max2_int min2_int max_two min_two max_three min_three max_four min_four   -- for this text's walks alone
set_option linter.unusedVariables false
set_option linter.unusedSimpArgs false

/-! ### field_Grant: function 26 -/
def fit (s : Int) : Int × Bool := if -9223372036854775808 ≤ s ∧ s ≤ 9223372036854775807 then (s, true) else (0, false)
theorem fit_in {s : Int} (h : -9223372036854775808 ≤ s ∧ s ≤ 9223372036854775807) : fit s = (s, true) := if_pos h
theorem fit_out {s : Int} (h : ¬ (-9223372036854775808 ≤ s ∧ s ≤ 9223372036854775807)) : fit s = (0, false) := if_neg h
theorem wrap_i64_toInt (x : BitVec 64) : IntKind.i64.wrap (x.toNat : Int) = x.toInt := by
  rw [IntKind.wrap_i64, BitVec.toInt_eq_toNat_cond]
  have := x.isLt
  split <;> omega
theorem xor_i64 (a b : Int) : bits .xor .i64 a b = (BitVec.ofInt 64 a ^^^ BitVec.ofInt 64 b).toInt := by
  show IntKind.i64.wrap _ = _
  exact wrap_i64_toInt _
theorem and_i64 (a b : Int) : bits .and .i64 a b = (BitVec.ofInt 64 a &&& BitVec.ofInt 64 b).toInt := by
  show IntKind.i64.wrap _ = _
  exact wrap_i64_toInt _
theorem msb_ofInt (a : Int) (ha : -9223372036854775808 ≤ a ∧ a ≤ 9223372036854775807) : (BitVec.ofInt 64 a).msb = decide (a < 0) := by
  rw [BitVec.msb_eq_toInt, BitVec.toInt_ofInt]
  congr 1
  simp only [Int.bmod]
  split <;> simp <;> omega
/-- The sign of (a ^ b) & (c ^ d). -/
theorem sign_of (a b c d : Int) (ha : -9223372036854775808 ≤ a ∧ a ≤ 9223372036854775807) (hb : -9223372036854775808 ≤ b ∧ b ≤ 9223372036854775807) (hc : -9223372036854775808 ≤ c ∧ c ≤ 9223372036854775807) (hd : -9223372036854775808 ≤ d ∧ d ≤ 9223372036854775807) :
    (bits .and .i64 (bits .xor .i64 a b) (bits .xor .i64 c d) < 0) ↔ ((decide (a < 0) != decide (b < 0)) && (decide (c < 0) != decide (d < 0))) = true := by
  rw [and_i64, xor_i64, xor_i64, BitVec.ofInt_toInt, BitVec.ofInt_toInt]
  have e : ∀ x : BitVec 64, x.toInt < 0 ↔ x.msb = true := fun x => by rw [BitVec.msb_eq_toInt]; simp
  rw [e, BitVec.msb_and, BitVec.msb_xor, BitVec.msb_xor, msb_ofInt a ha, msb_ofInt b hb, msb_ofInt c hc, msb_ofInt d hd]

theorem add_fit (a b : Int) (ha : -9223372036854775808 ≤ a ∧ a ≤ 9223372036854775807) (hb : -9223372036854775808 ≤ b ∧ b ≤ 9223372036854775807) : calc_Add.f a b = some (fit (a + b)) := by
  have hs : -9223372036854775808 ≤ wrap64 (a + b) ∧ wrap64 (a + b) ≤ 9223372036854775807 := by unfold wrap64; omega
  have h := sign_of a (wrap64 (a + b)) b (wrap64 (a + b)) ha hs hb hs
  unfold calc_Add.f fit
  by_cases c : -9223372036854775808 ≤ a + b ∧ a + b ≤ 9223372036854775807
  · have e : wrap64 (a + b) = a + b := by unfold wrap64; omega
    rw [if_pos c, if_neg, e]
    rw [h, e]
    by_cases c1 : a < 0 <;> by_cases c2 : b < 0 <;> by_cases c3 : a + b < 0 <;> simp [c1, c2, c3] <;> omega
  · rw [if_neg c, if_pos]
    rw [h]
    have e : (a < 0 ∧ b < 0 ∧ ¬ wrap64 (a + b) < 0) ∨ (¬ a < 0 ∧ ¬ b < 0 ∧ wrap64 (a + b) < 0) := by unfold wrap64; omega
    rcases e with ⟨e1, e2, e3⟩ | ⟨e1, e2, e3⟩ <;> simp [e1, e2, e3]


/-- All numbers of a field fit in 64 bits. -/
def In64 (a : Int) : Prop := -9223372036854775808 ≤ a ∧ a ≤ 9223372036854775807
instance (a : Int) : Decidable (In64 a) := inferInstanceAs (Decidable (_ ∧ _))
/-- A field in order. -/
def GoodP (lo hi base inf sup val : Int) : Prop := lo ≤ inf ∧ inf ≤ base ∧ inf ≤ val ∧ base ≤ sup ∧ val ≤ sup ∧ sup ≤ hi
instance (a b c d e f : Int) : Decidable (GoodP a b c d e f) := inferInstanceAs (Decidable (_ ∧ _))
/-- What Grant makes of a field. -/
def grantP (lo hi base inf sup val d : Int) : Int × Int × Int × Int × Int × Int × Int :=
  if ¬ GoodP lo hi base inf sup val then (lo, hi, base, inf, sup, val, 12)
  else if d = 0 ∨ d = -9223372036854775808 then (lo, hi, base, inf, sup, val, 1)
  else if d < 0 then
    (if inf + d < -9223372036854775808 then (lo, hi, base, inf, sup, val, 2) else if inf + d < lo then (lo, hi, base, inf, sup, val, 3) else (lo, hi, base, inf + d, sup, val + d, 0))
  else (if sup + d > 9223372036854775807 then (lo, hi, base, inf, sup, val, 2) else if sup + d > hi then (lo, hi, base, inf, sup, val, 3) else (lo, hi, base, inf, sup + d, val + d, 0))
def field_Grant.f (a0_0 : Int) (a0_1 : Int) (a0_2 : Int) (a0_3 : Int) (a0_4 : Int) (a0_5 : Int) (a1 : Int) : Option (Int × Int × Int × Int × Int × Int × Int) :=
  if In64 a0_0 ∧ In64 a0_1 ∧ In64 a0_2 ∧ In64 a0_3 ∧ In64 a0_4 ∧ In64 a0_5 ∧ In64 a1 then some (grantP a0_0 a0_1 a0_2 a0_3 a0_4 a0_5 a1) else none
theorem bset0 {w w' : World} {o : Nat} {v : Value} (h : Below w.heap.size w w') : Below w.heap.size w (w'.setCell ⟨w.heap.size, o, none⟩ v) := h.setCell (Nat.le_refl _) _
theorem bset1 {w w' : World} {o : Nat} {v : Value} (h : Below w.heap.size w w') : Below w.heap.size w (w'.setCell ⟨w.heap.size + 1, o, none⟩ v) := h.setCell (Nat.le_succ _) _
theorem bcell {W w1 : World} (hb : Below W.heap.size W w1) : (∀ b o, b < W.heap.size → w1.cell? ⟨b, o, none⟩ = W.cell? ⟨b, o, none⟩) ∧ (∀ b o, b < W.heap.size → w1.frozen? ⟨b, o, none⟩ = W.frozen? ⟨b, o, none⟩) :=
  ⟨fun b o h => hb.cell (p := ⟨b, o, none⟩) h, fun b o h => hb.frozen (p := ⟨b, o, none⟩) h⟩
theorem atCells {w w1 w2 : World} {cs : Array Value} {T : TypeId} {o2 o3 : Obj} (hb : Below ((w.alloc (.cells cs T)).alloc o2).heap.size ((w.alloc (.cells cs T)).alloc o2) w1) (hd : Drawn0 (w1.alloc o3) w2) (i : Nat) : w2.cell? ⟨w.heap.size, i, none⟩ = cs[i]? := by
  have hz : w.heap.size < w1.heap.size := by have := hb.size; simp at this; omega
  obtain ⟨n, rfl⟩ := hd
  have h1 : (w1.alloc o3).cell? ⟨w.heap.size, i, none⟩ = w1.cell? ⟨w.heap.size, i, none⟩ := World.cell?_alloc_lt _ _ _ hz
  have h2 : ((w1.alloc o3).drewN n).cell? ⟨w.heap.size, i, none⟩ = (w1.alloc o3).cell? ⟨w.heap.size, i, none⟩ := rfl
  rw [h2, h1, (bcell hb).1 _ _ (by simp; omega), World.cell?_alloc_lt _ _ _ (by simp)]
  exact World.cell?_alloc_new w cs T i
theorem atFrozen {w w1 w2 : World} {cs : Array Value} {T : TypeId} {o2 o3 : Obj} (hb : Below ((w.alloc (.cells cs T)).alloc o2).heap.size ((w.alloc (.cells cs T)).alloc o2) w1) (hd : Drawn0 (w1.alloc o3) w2) (i : Nat) : w2.frozen? ⟨w.heap.size, i, none⟩ = false := by
  have hz : w.heap.size < w1.heap.size := by have := hb.size; simp at this; omega
  obtain ⟨n, rfl⟩ := hd
  have h1 : (w1.alloc o3).frozen? ⟨w.heap.size, i, none⟩ = w1.frozen? ⟨w.heap.size, i, none⟩ := World.frozen?_alloc_past _ _ _ hz
  have h2 : ((w1.alloc o3).drewN n).frozen? ⟨w.heap.size, i, none⟩ = (w1.alloc o3).frozen? ⟨w.heap.size, i, none⟩ := rfl
  rw [h2, h1, (bcell hb).2 _ _ (by simp; omega)]
  simp [go_sem]
theorem atCells1 {w w1 w2 : World} {cs : Array Value} {T : TypeId} {o1 o3 : Obj} (hb : Below ((w.alloc o1).alloc (.cells cs T)).heap.size ((w.alloc o1).alloc (.cells cs T)) w1) (hd : Drawn0 (w1.alloc o3) w2) (i : Nat) : w2.cell? ⟨w.heap.size + 1, i, none⟩ = cs[i]? := by
  have hz : w.heap.size + 1 < w1.heap.size := by have := hb.size; simp at this; omega
  obtain ⟨n, rfl⟩ := hd
  have h1 : (w1.alloc o3).cell? ⟨w.heap.size + 1, i, none⟩ = w1.cell? ⟨w.heap.size + 1, i, none⟩ := World.cell?_alloc_lt _ _ _ hz
  have h2 : ((w1.alloc o3).drewN n).cell? ⟨w.heap.size + 1, i, none⟩ = (w1.alloc o3).cell? ⟨w.heap.size + 1, i, none⟩ := rfl
  rw [h2, h1, (bcell hb).1 _ _ (by simp)]
  exact World.cell?_alloc_at cs T _ i (by simp)
theorem atFrozen1 {w w1 w2 : World} {cs : Array Value} {T : TypeId} {o1 o3 : Obj} (hb : Below ((w.alloc o1).alloc (.cells cs T)).heap.size ((w.alloc o1).alloc (.cells cs T)) w1) (hd : Drawn0 (w1.alloc o3) w2) (i : Nat) : w2.frozen? ⟨w.heap.size + 1, i, none⟩ = false := by
  have hz : w.heap.size + 1 < w1.heap.size := by have := hb.size; simp at this; omega
  obtain ⟨n, rfl⟩ := hd
  have h1 : (w1.alloc o3).frozen? ⟨w.heap.size + 1, i, none⟩ = w1.frozen? ⟨w.heap.size + 1, i, none⟩ := World.frozen?_alloc_past _ _ _ hz
  have h2 : ((w1.alloc o3).drewN n).frozen? ⟨w.heap.size + 1, i, none⟩ = (w1.alloc o3).frozen? ⟨w.heap.size + 1, i, none⟩ := rfl
  rw [h2, h1, (bcell hb).2 _ _ (by simp)]
  exact World.frozen?_alloc_at cs T _ i (by simp)
theorem atBelow {w w1 w2 : World} {o1 o2 o3 : Obj} (hb : Below ((w.alloc o1).alloc o2).heap.size ((w.alloc o1).alloc o2) w1) (hd : Drawn0 (w1.alloc o3) w2) : Below w.heap.size w w2 := by
  have hz : w.heap.size + 1 < w1.heap.size := by have := hb.size; simp at this; omega
  obtain ⟨n, rfl⟩ := hd
  refine pw_below_drewN ?_ n
  exact (((Below.refl _ _).alloc (Nat.le_refl _) _ |>.alloc (by simp) _).trans (hb.mono (by simp; omega))).alloc (by omega) _
theorem below_drewN' {n : Nat} {w w' : World} (h : Below n w w') (k : Nat) : Below n w (w'.drewN k) := pw_below_drewN h k
theorem field_Good_eq (a b c d e f : Int) : field_Good.f a b c d e f = some (decide (GoodP a b c d e f)) := by
  unfold field_Good.f mn mx
  by_cases h1 : a ≤ d
  · rw [if_pos h1]
    by_cases h2 : d ≤ (if f < c then f else c)
    · rw [if_pos h2]
      by_cases h3 : (if f > c then f else c) ≤ e
      · rw [if_pos h3]; congr 1
        by_cases h4 : e ≤ b
        · rw [decide_eq_true h4]; symm; refine decide_eq_true ?_; unfold GoodP; split at h2 <;> split at h3 <;> omega
        · rw [decide_eq_false h4]; symm; refine decide_eq_false ?_; unfold GoodP; omega
      · rw [if_neg h3]; congr 1; symm; refine decide_eq_false ?_; unfold GoodP; split at h3 <;> omega
    · rw [if_neg h2]; congr 1; symm; refine decide_eq_false ?_; unfold GoodP; split at h2 <;> omega
  · rw [if_neg h1]; congr 1; symm; refine decide_eq_false ?_; unfold GoodP; omega
theorem field_wrong_eq (a b c d e f x : Int) : field_wrong.f a b c d e f x = some (if ¬ GoodP a b c d e f then 12 else if x = 0 ∨ x = -9223372036854775808 then 1 else 0) := by
  unfold field_wrong.f
  rw [field_Good_eq, Option.bind_some]
  by_cases h : GoodP a b c d e f
  · rw [decide_eq_true h, if_pos rfl, if_neg (show ¬¬ GoodP a b c d e f from fun z => z h)]
    by_cases h1 : x = 0
    · rw [if_pos h1, if_pos (Or.inl h1)]
    · rw [if_neg h1]
      by_cases h2 : x = -9223372036854775808
      · rw [if_pos h2, if_pos (Or.inr h2)]
      · rw [if_neg h2, if_neg (by omega)]
  · rw [decide_eq_false h, if_neg Bool.false_ne_true, if_pos h]
set_option maxHeartbeats 2000000 in
set_option maxRecDepth 100000 in
/-- What is wrong is told first. -/
theorem field_Grant.wrong (a0_0 : Int) (a0_1 : Int) (a0_2 : Int) (a0_3 : Int) (a0_4 : Int) (a0_5 : Int) (a1 : Int) (x : Int) (w : World) (hw : field_wrong.f a0_0 a0_1 a0_2 a0_3 a0_4 a0_5 a1 = some x) (hx : (x != 0) = true) :
    Calls Try.prog 26 #[.agg #[.int .i64 a0_0, .int .i64 a0_1, .int .i64 a0_2, .int .i64 a0_3, .int .i64 a0_4, .int .i64 a0_5], .int .i64 a1] w fun e w' => e = .returned (.tuple #[.agg #[.int .i64 a0_0, .int .i64 a0_1, .int .i64 a0_2, .int .i64 a0_3, .int .i64 a0_4, .int .i64 a0_5], .int .i64 x]) ∧ Below w.heap.size w w' := by
  have HW := Aside0.mk hw
  clear hw
  go_enter Try.func26, Try.ntmps26
  go_wp2_with (go_at_call 42; ((with_reducible refine (field_wrong.calls _ _ _ _ _ _ _ _ _ HW.out).mono ?_); rintro e w1 ⟨rfl, hb⟩; obtain ⟨hc, hf⟩ := bcell hb; have hz : w.heap.size + 1 < w1.heap.size := (by have := hb.size; simp at this; omega); have hz0 : w.heap.size < w1.heap.size := Nat.lt_of_succ_lt hz))
  refine bodyPost_ret (v := .tuple #[.agg #[.int .i64 a0_0, .int .i64 a0_1, .int .i64 a0_2, .int .i64 a0_3, .int .i64 a0_4, .int .i64 a0_5], .int .i64 x]) (by simp [results, Try.results26, go_sem, hc, hz]) rfl ⟨rfl, ?_⟩
  (with_reducible repeat (first | refine bset0 ?_ | refine bset1 ?_))
  exact ((Below.refl _ _).alloc (Nat.le_refl _) _ |>.alloc (by simp) _).trans (hb.mono (by simp; omega))
set_option maxHeartbeats 2000000 in
set_option maxRecDepth 100000 in
theorem field_Grant.down_over (a0_0 : Int) (a0_1 : Int) (a0_2 : Int) (a0_3 : Int) (a0_4 : Int) (a0_5 : Int) (a1 : Int) (w : World) (hw : field_wrong.f a0_0 a0_1 a0_2 a0_3 a0_4 a0_5 a1 = some 0) (hd : decide (a1 < 0) = true) (ha : calc_Add.f a0_3 a1 = some (0, false)) :
    Calls Try.prog 26 #[.agg #[.int .i64 a0_0, .int .i64 a0_1, .int .i64 a0_2, .int .i64 a0_3, .int .i64 a0_4, .int .i64 a0_5], .int .i64 a1] w fun e w' => e = .returned (.tuple #[.agg #[.int .i64 a0_0, .int .i64 a0_1, .int .i64 a0_2, .int .i64 a0_3, .int .i64 a0_4, .int .i64 a0_5], .int .i64 2]) ∧ Below w.heap.size w w' := by
  have HW := Aside0.mk hw
  have HA := Aside0.mk ha
  clear hw ha
  go_enter Try.func26, Try.ntmps26
  go_wp2_with (first | (go_at_call 42; ((with_reducible refine (field_wrong.calls _ _ _ _ _ _ _ _ _ HW.out).mono ?_); rintro e w1 ⟨rfl, hb⟩; obtain ⟨hc, hf⟩ := bcell hb; have hz : w.heap.size + 1 < w1.heap.size := (by have := hb.size; simp at this; omega); have hz0 : w.heap.size < w1.heap.size := Nat.lt_of_succ_lt hz)) | (go_at_call 43; ((with_reducible refine (calc_Add.calls _ _ _ _ _ HA.out).mono ?_); rintro e w2 ⟨rfl, ⟨nd, rfl⟩⟩)))
  refine bodyPost_ret (v := .tuple #[.agg #[.int .i64 a0_0, .int .i64 a0_1, .int .i64 a0_2, .int .i64 a0_3, .int .i64 a0_4, .int .i64 a0_5], .int .i64 2]) (by simp [results, Try.results26, go_sem, hc, hz]) rfl ⟨rfl, ?_⟩
  (with_reducible repeat (first | refine bset0 ?_ | refine bset1 ?_ | refine below_drewN' ?_ _))
  (try (refine Below.alloc ?_ (Nat.le_of_lt hz0) _))
  exact ((Below.refl _ _).alloc (Nat.le_refl _) _ |>.alloc (by simp) _).trans (hb.mono (by simp; omega))
set_option maxHeartbeats 2000000 in
set_option maxRecDepth 100000 in
theorem field_Grant.down_bounds1 (a0_0 : Int) (a0_1 : Int) (a0_2 : Int) (a0_3 : Int) (a0_4 : Int) (a0_5 : Int) (a1 : Int) (n : Int) (w : World) (hw : field_wrong.f a0_0 a0_1 a0_2 a0_3 a0_4 a0_5 a1 = some 0) (hd : decide (a1 < 0) = true) (ha : calc_Add.f a0_3 a1 = some (n, true)) (h1 : decide (n < a0_0) = true) :
    Calls Try.prog 26 #[.agg #[.int .i64 a0_0, .int .i64 a0_1, .int .i64 a0_2, .int .i64 a0_3, .int .i64 a0_4, .int .i64 a0_5], .int .i64 a1] w fun e w' => e = .returned (.tuple #[.agg #[.int .i64 a0_0, .int .i64 a0_1, .int .i64 a0_2, .int .i64 a0_3, .int .i64 a0_4, .int .i64 a0_5], .int .i64 3]) ∧ Below w.heap.size w w' := by
  have HW := Aside0.mk hw
  have HA := Aside0.mk ha
  clear hw ha
  go_enter Try.func26, Try.ntmps26
  go_wp2_with (first | (go_at_call 42; ((with_reducible refine (field_wrong.calls _ _ _ _ _ _ _ _ _ HW.out).mono ?_); rintro e w1 ⟨rfl, hb⟩; obtain ⟨hc, hf⟩ := bcell hb; have hz : w.heap.size + 1 < w1.heap.size := (by have := hb.size; simp at this; omega); have hz0 : w.heap.size < w1.heap.size := Nat.lt_of_succ_lt hz)) | (go_at_call 43; ((with_reducible refine (calc_Add.calls _ _ _ _ _ HA.out).mono ?_); rintro e w2 ⟨rfl, ⟨nd, rfl⟩⟩)))
  refine bodyPost_ret (v := .tuple #[.agg #[.int .i64 a0_0, .int .i64 a0_1, .int .i64 a0_2, .int .i64 a0_3, .int .i64 a0_4, .int .i64 a0_5], .int .i64 3]) (by simp [results, Try.results26, go_sem, hc, hz]) rfl ⟨rfl, ?_⟩
  (with_reducible repeat (first | refine bset0 ?_ | refine bset1 ?_ | refine below_drewN' ?_ _))
  (try (refine Below.alloc ?_ (Nat.le_of_lt hz0) _))
  exact ((Below.refl _ _).alloc (Nat.le_refl _) _ |>.alloc (by simp) _).trans (hb.mono (by simp; omega))
set_option maxHeartbeats 2000000 in
set_option maxRecDepth 100000 in
theorem field_Grant.down_fine (a0_0 : Int) (a0_1 : Int) (a0_2 : Int) (a0_3 : Int) (a0_4 : Int) (a0_5 : Int) (a1 : Int) (n : Int) (vv : Int) (w : World) (hw : field_wrong.f a0_0 a0_1 a0_2 a0_3 a0_4 a0_5 a1 = some 0) (hd : decide (a1 < 0) = true) (ha : calc_Add.f a0_3 a1 = some (n, true)) (h1 : decide (n < a0_0) = false) (h2 : decide (a0_1 < n) = false) (h3 : wrap64 (a0_5 + a1) = vv) :
    Calls Try.prog 26 #[.agg #[.int .i64 a0_0, .int .i64 a0_1, .int .i64 a0_2, .int .i64 a0_3, .int .i64 a0_4, .int .i64 a0_5], .int .i64 a1] w fun e w' => e = .returned (.tuple #[.agg #[.int .i64 a0_0, .int .i64 a0_1, .int .i64 a0_2, .int .i64 n, .int .i64 a0_4, .int .i64 vv], .int .i64 0]) ∧ Below w.heap.size w w' := by
  have HW := Aside0.mk hw
  have HA := Aside0.mk ha
  clear hw ha
  go_enter Try.func26, Try.ntmps26
  go_wp2_with (first | (go_at_call 42; ((with_reducible refine (field_wrong.calls _ _ _ _ _ _ _ _ _ HW.out).mono ?_); rintro e w1 ⟨rfl, hb⟩; obtain ⟨hc, hf⟩ := bcell hb; have hz : w.heap.size + 1 < w1.heap.size := (by have := hb.size; simp at this; omega); have hz0 : w.heap.size < w1.heap.size := Nat.lt_of_succ_lt hz)) | (go_at_call 43; ((with_reducible refine (calc_Add.calls _ _ _ _ _ HA.out).mono ?_); rintro e w2 ⟨rfl, hdr⟩; have k0 : w2.cell? ⟨w.heap.size, 0, none⟩ = some (.int .i64 a0_0) := (atCells hb hdr 0).trans rfl; have m0 : w2.cell? ⟨w.heap.size + 1, 0, none⟩ = some (.int .i64 0) := (atCells1 hb hdr 0).trans rfl; have q0 := atFrozen hb hdr 0; have p0 := atFrozen1 hb hdr 0; have k1 : w2.cell? ⟨w.heap.size, 1, none⟩ = some (.int .i64 a0_1) := (atCells hb hdr 1).trans rfl; have m1 : w2.cell? ⟨w.heap.size + 1, 1, none⟩ = some (.int .i64 0) := (atCells1 hb hdr 1).trans rfl; have q1 := atFrozen hb hdr 1; have p1 := atFrozen1 hb hdr 1; have k2 : w2.cell? ⟨w.heap.size, 2, none⟩ = some (.int .i64 a0_2) := (atCells hb hdr 2).trans rfl; have m2 : w2.cell? ⟨w.heap.size + 1, 2, none⟩ = some (.int .i64 0) := (atCells1 hb hdr 2).trans rfl; have q2 := atFrozen hb hdr 2; have p2 := atFrozen1 hb hdr 2; have k3 : w2.cell? ⟨w.heap.size, 3, none⟩ = some (.int .i64 a0_3) := (atCells hb hdr 3).trans rfl; have m3 : w2.cell? ⟨w.heap.size + 1, 3, none⟩ = some (.int .i64 0) := (atCells1 hb hdr 3).trans rfl; have q3 := atFrozen hb hdr 3; have p3 := atFrozen1 hb hdr 3; have k4 : w2.cell? ⟨w.heap.size, 4, none⟩ = some (.int .i64 a0_4) := (atCells hb hdr 4).trans rfl; have m4 : w2.cell? ⟨w.heap.size + 1, 4, none⟩ = some (.int .i64 0) := (atCells1 hb hdr 4).trans rfl; have q4 := atFrozen hb hdr 4; have p4 := atFrozen1 hb hdr 4; have k5 : w2.cell? ⟨w.heap.size, 5, none⟩ = some (.int .i64 a0_5) := (atCells hb hdr 5).trans rfl; have m5 : w2.cell? ⟨w.heap.size + 1, 5, none⟩ = some (.int .i64 0) := (atCells1 hb hdr 5).trans rfl; have q5 := atFrozen hb hdr 5; have p5 := atFrozen1 hb hdr 5; have hbw := Aside0.mk (atBelow hb hdr); clear hb hdr hc hf hz hz0)))
  refine bodyPost_ret (v := .tuple #[.agg #[.int .i64 a0_0, .int .i64 a0_1, .int .i64 a0_2, .int .i64 n, .int .i64 a0_4, .int .i64 vv], .int .i64 0]) (by simp [results, Try.results26, go_sem, m0, m1, m2, m3, m4, m5]) rfl ⟨rfl, ?_⟩
  (with_reducible repeat (first | refine bset0 ?_ | refine bset1 ?_))
  exact hbw.out
set_option maxHeartbeats 2000000 in
set_option maxRecDepth 100000 in
theorem field_Grant.up_over (a0_0 : Int) (a0_1 : Int) (a0_2 : Int) (a0_3 : Int) (a0_4 : Int) (a0_5 : Int) (a1 : Int) (w : World) (hw : field_wrong.f a0_0 a0_1 a0_2 a0_3 a0_4 a0_5 a1 = some 0) (hd : decide (a1 < 0) = false) (ha : calc_Add.f a0_4 a1 = some (0, false)) :
    Calls Try.prog 26 #[.agg #[.int .i64 a0_0, .int .i64 a0_1, .int .i64 a0_2, .int .i64 a0_3, .int .i64 a0_4, .int .i64 a0_5], .int .i64 a1] w fun e w' => e = .returned (.tuple #[.agg #[.int .i64 a0_0, .int .i64 a0_1, .int .i64 a0_2, .int .i64 a0_3, .int .i64 a0_4, .int .i64 a0_5], .int .i64 2]) ∧ Below w.heap.size w w' := by
  have HW := Aside0.mk hw
  have HA := Aside0.mk ha
  clear hw ha
  go_enter Try.func26, Try.ntmps26
  go_wp2_with (first | (go_at_call 42; ((with_reducible refine (field_wrong.calls _ _ _ _ _ _ _ _ _ HW.out).mono ?_); rintro e w1 ⟨rfl, hb⟩; obtain ⟨hc, hf⟩ := bcell hb; have hz : w.heap.size + 1 < w1.heap.size := (by have := hb.size; simp at this; omega); have hz0 : w.heap.size < w1.heap.size := Nat.lt_of_succ_lt hz)) | (go_at_call 43; ((with_reducible refine (calc_Add.calls _ _ _ _ _ HA.out).mono ?_); rintro e w2 ⟨rfl, ⟨nd, rfl⟩⟩)))
  refine bodyPost_ret (v := .tuple #[.agg #[.int .i64 a0_0, .int .i64 a0_1, .int .i64 a0_2, .int .i64 a0_3, .int .i64 a0_4, .int .i64 a0_5], .int .i64 2]) (by simp [results, Try.results26, go_sem, hc, hz]) rfl ⟨rfl, ?_⟩
  (with_reducible repeat (first | refine bset0 ?_ | refine bset1 ?_ | refine below_drewN' ?_ _))
  (try (refine Below.alloc ?_ (Nat.le_of_lt hz0) _))
  exact ((Below.refl _ _).alloc (Nat.le_refl _) _ |>.alloc (by simp) _).trans (hb.mono (by simp; omega))
set_option maxHeartbeats 2000000 in
set_option maxRecDepth 100000 in
theorem field_Grant.up_bounds2 (a0_0 : Int) (a0_1 : Int) (a0_2 : Int) (a0_3 : Int) (a0_4 : Int) (a0_5 : Int) (a1 : Int) (n : Int) (w : World) (hw : field_wrong.f a0_0 a0_1 a0_2 a0_3 a0_4 a0_5 a1 = some 0) (hd : decide (a1 < 0) = false) (ha : calc_Add.f a0_4 a1 = some (n, true)) (h1 : decide (n < a0_0) = false) (h2 : decide (a0_1 < n) = true) :
    Calls Try.prog 26 #[.agg #[.int .i64 a0_0, .int .i64 a0_1, .int .i64 a0_2, .int .i64 a0_3, .int .i64 a0_4, .int .i64 a0_5], .int .i64 a1] w fun e w' => e = .returned (.tuple #[.agg #[.int .i64 a0_0, .int .i64 a0_1, .int .i64 a0_2, .int .i64 a0_3, .int .i64 a0_4, .int .i64 a0_5], .int .i64 3]) ∧ Below w.heap.size w w' := by
  have HW := Aside0.mk hw
  have HA := Aside0.mk ha
  clear hw ha
  go_enter Try.func26, Try.ntmps26
  go_wp2_with (first | (go_at_call 42; ((with_reducible refine (field_wrong.calls _ _ _ _ _ _ _ _ _ HW.out).mono ?_); rintro e w1 ⟨rfl, hb⟩; obtain ⟨hc, hf⟩ := bcell hb; have hz : w.heap.size + 1 < w1.heap.size := (by have := hb.size; simp at this; omega); have hz0 : w.heap.size < w1.heap.size := Nat.lt_of_succ_lt hz)) | (go_at_call 43; ((with_reducible refine (calc_Add.calls _ _ _ _ _ HA.out).mono ?_); rintro e w2 ⟨rfl, ⟨nd, rfl⟩⟩)))
  refine bodyPost_ret (v := .tuple #[.agg #[.int .i64 a0_0, .int .i64 a0_1, .int .i64 a0_2, .int .i64 a0_3, .int .i64 a0_4, .int .i64 a0_5], .int .i64 3]) (by simp [results, Try.results26, go_sem, hc, hz]) rfl ⟨rfl, ?_⟩
  (with_reducible repeat (first | refine bset0 ?_ | refine bset1 ?_ | refine below_drewN' ?_ _))
  (try (refine Below.alloc ?_ (Nat.le_of_lt hz0) _))
  exact ((Below.refl _ _).alloc (Nat.le_refl _) _ |>.alloc (by simp) _).trans (hb.mono (by simp; omega))
set_option maxHeartbeats 2000000 in
set_option maxRecDepth 100000 in
theorem field_Grant.up_fine (a0_0 : Int) (a0_1 : Int) (a0_2 : Int) (a0_3 : Int) (a0_4 : Int) (a0_5 : Int) (a1 : Int) (n : Int) (vv : Int) (w : World) (hw : field_wrong.f a0_0 a0_1 a0_2 a0_3 a0_4 a0_5 a1 = some 0) (hd : decide (a1 < 0) = false) (ha : calc_Add.f a0_4 a1 = some (n, true)) (h1 : decide (n < a0_0) = false) (h2 : decide (a0_1 < n) = false) (h3 : wrap64 (a0_5 + a1) = vv) :
    Calls Try.prog 26 #[.agg #[.int .i64 a0_0, .int .i64 a0_1, .int .i64 a0_2, .int .i64 a0_3, .int .i64 a0_4, .int .i64 a0_5], .int .i64 a1] w fun e w' => e = .returned (.tuple #[.agg #[.int .i64 a0_0, .int .i64 a0_1, .int .i64 a0_2, .int .i64 a0_3, .int .i64 n, .int .i64 vv], .int .i64 0]) ∧ Below w.heap.size w w' := by
  have HW := Aside0.mk hw
  have HA := Aside0.mk ha
  clear hw ha
  go_enter Try.func26, Try.ntmps26
  go_wp2_with (first | (go_at_call 42; ((with_reducible refine (field_wrong.calls _ _ _ _ _ _ _ _ _ HW.out).mono ?_); rintro e w1 ⟨rfl, hb⟩; obtain ⟨hc, hf⟩ := bcell hb; have hz : w.heap.size + 1 < w1.heap.size := (by have := hb.size; simp at this; omega); have hz0 : w.heap.size < w1.heap.size := Nat.lt_of_succ_lt hz)) | (go_at_call 43; ((with_reducible refine (calc_Add.calls _ _ _ _ _ HA.out).mono ?_); rintro e w2 ⟨rfl, hdr⟩; have k0 : w2.cell? ⟨w.heap.size, 0, none⟩ = some (.int .i64 a0_0) := (atCells hb hdr 0).trans rfl; have m0 : w2.cell? ⟨w.heap.size + 1, 0, none⟩ = some (.int .i64 0) := (atCells1 hb hdr 0).trans rfl; have q0 := atFrozen hb hdr 0; have p0 := atFrozen1 hb hdr 0; have k1 : w2.cell? ⟨w.heap.size, 1, none⟩ = some (.int .i64 a0_1) := (atCells hb hdr 1).trans rfl; have m1 : w2.cell? ⟨w.heap.size + 1, 1, none⟩ = some (.int .i64 0) := (atCells1 hb hdr 1).trans rfl; have q1 := atFrozen hb hdr 1; have p1 := atFrozen1 hb hdr 1; have k2 : w2.cell? ⟨w.heap.size, 2, none⟩ = some (.int .i64 a0_2) := (atCells hb hdr 2).trans rfl; have m2 : w2.cell? ⟨w.heap.size + 1, 2, none⟩ = some (.int .i64 0) := (atCells1 hb hdr 2).trans rfl; have q2 := atFrozen hb hdr 2; have p2 := atFrozen1 hb hdr 2; have k3 : w2.cell? ⟨w.heap.size, 3, none⟩ = some (.int .i64 a0_3) := (atCells hb hdr 3).trans rfl; have m3 : w2.cell? ⟨w.heap.size + 1, 3, none⟩ = some (.int .i64 0) := (atCells1 hb hdr 3).trans rfl; have q3 := atFrozen hb hdr 3; have p3 := atFrozen1 hb hdr 3; have k4 : w2.cell? ⟨w.heap.size, 4, none⟩ = some (.int .i64 a0_4) := (atCells hb hdr 4).trans rfl; have m4 : w2.cell? ⟨w.heap.size + 1, 4, none⟩ = some (.int .i64 0) := (atCells1 hb hdr 4).trans rfl; have q4 := atFrozen hb hdr 4; have p4 := atFrozen1 hb hdr 4; have k5 : w2.cell? ⟨w.heap.size, 5, none⟩ = some (.int .i64 a0_5) := (atCells hb hdr 5).trans rfl; have m5 : w2.cell? ⟨w.heap.size + 1, 5, none⟩ = some (.int .i64 0) := (atCells1 hb hdr 5).trans rfl; have q5 := atFrozen hb hdr 5; have p5 := atFrozen1 hb hdr 5; have hbw := Aside0.mk (atBelow hb hdr); clear hb hdr hc hf hz hz0)))
  refine bodyPost_ret (v := .tuple #[.agg #[.int .i64 a0_0, .int .i64 a0_1, .int .i64 a0_2, .int .i64 a0_3, .int .i64 n, .int .i64 vv], .int .i64 0]) (by simp [results, Try.results26, go_sem, m0, m1, m2, m3, m4, m5]) rfl ⟨rfl, ?_⟩
  (with_reducible repeat (first | refine bset0 ?_ | refine bset1 ?_))
  exact hbw.out
set_option maxHeartbeats 2000000 in
set_option maxRecDepth 100000 in
theorem field_Grant.calls (a0_0 : Int) (a0_1 : Int) (a0_2 : Int) (a0_3 : Int) (a0_4 : Int) (a0_5 : Int) (a1 : Int) (r1 : Int) (r2 : Int) (r3 : Int) (r4 : Int) (r5 : Int) (r6 : Int) (r7 : Int) (w : World) (h : field_Grant.f a0_0 a0_1 a0_2 a0_3 a0_4 a0_5 a1 = some (r1, r2, r3, r4, r5, r6, r7)) :
    Calls Try.prog 26 #[.agg #[.int .i64 a0_0, .int .i64 a0_1, .int .i64 a0_2, .int .i64 a0_3, .int .i64 a0_4, .int .i64 a0_5], .int .i64 a1] w fun e w' => e = .returned (.tuple #[.agg #[.int .i64 r1, .int .i64 r2, .int .i64 r3, .int .i64 r4, .int .i64 r5, .int .i64 r6], .int .i64 r7]) ∧ Below w.heap.size w w' := by
  unfold field_Grant.f at h
  split at h
  case isFalse => simp at h
  case isTrue hh =>
  obtain ⟨i0, i1, i2, i3, i4, i5, i6⟩ := hh
  simp only [Option.some.injEq] at h
  have hw := field_wrong_eq a0_0 a0_1 a0_2 a0_3 a0_4 a0_5 a1
  unfold grantP at h
  by_cases g : GoodP a0_0 a0_1 a0_2 a0_3 a0_4 a0_5
  · rw [if_neg (fun z => z g)] at h hw
    by_cases g1 : a1 = 0 ∨ a1 = -9223372036854775808
    · rw [if_pos g1] at h hw
      simp only [Prod.mk.injEq] at h
      obtain ⟨rfl, rfl, rfl, rfl, rfl, rfl, rfl⟩ := h
      exact field_Grant.wrong _ _ _ _ _ _ _ 1 w hw (by decide)
    · rw [if_neg g1] at h hw
      obtain ⟨g2, g3, g4, g5, g6, g7⟩ := g
      unfold In64 at i0 i1 i2 i3 i4 i5 i6
      by_cases c : a1 < 0
      · rw [if_pos c] at h
        have ha := add_fit a0_3 a1 i3 i6
        have hd : decide (a1 < 0) = true := decide_eq_true c
        by_cases c1 : a0_3 + a1 < -9223372036854775808
        · rw [if_pos c1] at h
          rw [fit_out (by omega)] at ha
          simp only [Prod.mk.injEq] at h
          obtain ⟨rfl, rfl, rfl, rfl, rfl, rfl, rfl⟩ := h
          exact field_Grant.down_over _ _ _ _ _ _ _ w hw hd ha
        · rw [if_neg c1] at h
          rw [fit_in (by omega)] at ha
          by_cases c2 : a0_3 + a1 < a0_0
          · rw [if_pos c2] at h
            simp only [Prod.mk.injEq] at h
            obtain ⟨rfl, rfl, rfl, rfl, rfl, rfl, rfl⟩ := h
            exact field_Grant.down_bounds1 _ _ _ _ _ _ _ _ w hw hd ha (decide_eq_true c2)
          · rw [if_neg c2] at h
            simp only [Prod.mk.injEq] at h
            obtain ⟨rfl, rfl, rfl, rfl, rfl, rfl, rfl⟩ := h
            exact field_Grant.down_fine _ _ _ _ _ _ _ _ _ w hw hd ha (decide_eq_false c2) (decide_eq_false (by omega)) (by unfold wrap64; omega)
      · rw [if_neg c] at h
        have ha := add_fit a0_4 a1 i4 i6
        have hd : decide (a1 < 0) = false := decide_eq_false c
        by_cases c1 : a0_4 + a1 > 9223372036854775807
        · rw [if_pos c1] at h
          rw [fit_out (by omega)] at ha
          simp only [Prod.mk.injEq] at h
          obtain ⟨rfl, rfl, rfl, rfl, rfl, rfl, rfl⟩ := h
          exact field_Grant.up_over _ _ _ _ _ _ _ w hw hd ha
        · rw [if_neg c1] at h
          rw [fit_in (by omega)] at ha
          by_cases c2 : a0_4 + a1 > a0_1
          · rw [if_pos c2] at h
            simp only [Prod.mk.injEq] at h
            obtain ⟨rfl, rfl, rfl, rfl, rfl, rfl, rfl⟩ := h
            exact field_Grant.up_bounds2 _ _ _ _ _ _ _ _ w hw hd ha (decide_eq_false (by omega)) (decide_eq_true c2)
          · rw [if_neg c2] at h
            simp only [Prod.mk.injEq] at h
            obtain ⟨rfl, rfl, rfl, rfl, rfl, rfl, rfl⟩ := h
            exact field_Grant.up_fine _ _ _ _ _ _ _ _ _ w hw hd ha (decide_eq_false (by omega)) (decide_eq_false c2) (by unfold wrap64; omega)
  · rw [if_pos g] at h hw
    simp only [Prod.mk.injEq] at h
    obtain ⟨rfl, rfl, rfl, rfl, rfl, rfl, rfl⟩ := h
    exact field_Grant.wrong _ _ _ _ _ _ _ 12 w hw (by decide)


end Go.Proofs.Ytnipjfciphgfjaa.G
