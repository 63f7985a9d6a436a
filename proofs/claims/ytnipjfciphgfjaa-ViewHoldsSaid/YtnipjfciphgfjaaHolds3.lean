/- Several texts of this seat put together, each as it stands: Gx5, Gx6, FundGet, FundPut, FundBy, FundChange, FundGrant, FundTell, FundNew, FundSpans. -/
import Derived.Test.YtnipjfciphgfjaaHolds2
import Derived.Laws.Cover3
/- What functions of the program answer, for all inputs of which their Lean functions tell an answer; printed by a program of this session with the kit's printer, over contracts that this session proved by hand. -/
namespace Go.Proofs.Ytnipjfciphgfjaa.G
open Go.RowKit Go.Proofs.YtnipjfciphgfjaaW.PrintWords Go.Proofs.YtnipjfciphgfjaaW.PrintLast Go.Proofs.YtnipjfciphgfjaaW.PrintMore
attribute [local go_sem] max2_int min2_int max_two min_two max_three min_three max_four min_four   -- for this text's walks alone
set_option linter.unusedVariables false
set_option linter.unusedSimpArgs false

/-! ### field_Grant: function 26 -/
def fit (s : Int) : Int × Bool := if -9223372036854775808 ≤ s ∧ s ≤ 9223372036854775807 then (s, true) else (0, false)
theorem fit_in {s : Int} (h : -9223372036854775808 ≤ s ∧ s ≤ 9223372036854775807) : fit s = (s, true) := if_pos h
theorem fit_out {s : Int} (h : ¬ (-9223372036854775808 ≤ s ∧ s ≤ 9223372036854775807)) : fit s = (0, false) := if_neg h
theorem wrap_i64_toInt (x : BitVec 64) : IntKind.i64.wrap (x.toNat : Int) = x.toInt := by
  rw [IntKind.wrap_i64, BitVec.toInt_eq_toNat_cond]
  have := x.isLt
  split <;> omega
theorem xor_i64 (a b : Int) : bits .xor .i64 a b = (BitVec.ofInt 64 a ^^^ BitVec.ofInt 64 b).toInt := by
  show IntKind.i64.wrap _ = _
  exact wrap_i64_toInt _
theorem and_i64 (a b : Int) : bits .and .i64 a b = (BitVec.ofInt 64 a &&& BitVec.ofInt 64 b).toInt := by
  show IntKind.i64.wrap _ = _
  exact wrap_i64_toInt _
theorem msb_ofInt (a : Int) (ha : -9223372036854775808 ≤ a ∧ a ≤ 9223372036854775807) : (BitVec.ofInt 64 a).msb = decide (a < 0) := by
  rw [BitVec.msb_eq_toInt, BitVec.toInt_ofInt]
  congr 1
  simp only [Int.bmod]
  split <;> simp <;> omega
/-- The sign of (a ^ b) & (c ^ d). -/
theorem sign_of (a b c d : Int) (ha : -9223372036854775808 ≤ a ∧ a ≤ 9223372036854775807) (hb : -9223372036854775808 ≤ b ∧ b ≤ 9223372036854775807) (hc : -9223372036854775808 ≤ c ∧ c ≤ 9223372036854775807) (hd : -9223372036854775808 ≤ d ∧ d ≤ 9223372036854775807) :
    (bits .and .i64 (bits .xor .i64 a b) (bits .xor .i64 c d) < 0) ↔ ((decide (a < 0) != decide (b < 0)) && (decide (c < 0) != decide (d < 0))) = true := by
  rw [and_i64, xor_i64, xor_i64, BitVec.ofInt_toInt, BitVec.ofInt_toInt]
  have e : ∀ x : BitVec 64, x.toInt < 0 ↔ x.msb = true := fun x => by rw [BitVec.msb_eq_toInt]; simp
  rw [e, BitVec.msb_and, BitVec.msb_xor, BitVec.msb_xor, msb_ofInt a ha, msb_ofInt b hb, msb_ofInt c hc, msb_ofInt d hd]

theorem add_fit (a b : Int) (ha : -9223372036854775808 ≤ a ∧ a ≤ 9223372036854775807) (hb : -9223372036854775808 ≤ b ∧ b ≤ 9223372036854775807) : calc_Add.f a b = some (fit (a + b)) := by
  have hs : -9223372036854775808 ≤ wrap64 (a + b) ∧ wrap64 (a + b) ≤ 9223372036854775807 := by unfold wrap64; omega
  have h := sign_of a (wrap64 (a + b)) b (wrap64 (a + b)) ha hs hb hs
  unfold calc_Add.f fit
  by_cases c : -9223372036854775808 ≤ a + b ∧ a + b ≤ 9223372036854775807
  · have e : wrap64 (a + b) = a + b := by unfold wrap64; omega
    rw [if_pos c, if_neg, e]
    rw [h, e]
    by_cases c1 : a < 0 <;> by_cases c2 : b < 0 <;> by_cases c3 : a + b < 0 <;> simp [c1, c2, c3] <;> omega
  · rw [if_neg c, if_pos]
    rw [h]
    have e : (a < 0 ∧ b < 0 ∧ ¬ wrap64 (a + b) < 0) ∨ (¬ a < 0 ∧ ¬ b < 0 ∧ wrap64 (a + b) < 0) := by unfold wrap64; omega
    rcases e with ⟨e1, e2, e3⟩ | ⟨e1, e2, e3⟩ <;> simp [e1, e2, e3]


/-- All numbers of a field fit in 64 bits. -/
def In64 (a : Int) : Prop := -9223372036854775808 ≤ a ∧ a ≤ 9223372036854775807
instance (a : Int) : Decidable (In64 a) := inferInstanceAs (Decidable (_ ∧ _))
/-- A field in order. -/
def GoodP (lo hi base inf sup val : Int) : Prop := lo ≤ inf ∧ inf ≤ base ∧ inf ≤ val ∧ base ≤ sup ∧ val ≤ sup ∧ sup ≤ hi
instance (a b c d e f : Int) : Decidable (GoodP a b c d e f) := inferInstanceAs (Decidable (_ ∧ _))
/-- What Grant makes of a field. -/
def grantP (lo hi base inf sup val d : Int) : Int × Int × Int × Int × Int × Int × Int :=
  if ¬ GoodP lo hi base inf sup val then (lo, hi, base, inf, sup, val, 12)
  else if d = 0 ∨ d = -9223372036854775808 then (lo, hi, base, inf, sup, val, 1)
  else if d < 0 then
    (if inf + d < -9223372036854775808 then (lo, hi, base, inf, sup, val, 2) else if inf + d < lo then (lo, hi, base, inf, sup, val, 3) else (lo, hi, base, inf + d, sup, val + d, 0))
  else (if sup + d > 9223372036854775807 then (lo, hi, base, inf, sup, val, 2) else if sup + d > hi then (lo, hi, base, inf, sup, val, 3) else (lo, hi, base, inf, sup + d, val + d, 0))
def field_Grant.f (a0_0 : Int) (a0_1 : Int) (a0_2 : Int) (a0_3 : Int) (a0_4 : Int) (a0_5 : Int) (a1 : Int) : Option (Int × Int × Int × Int × Int × Int × Int) :=
  if In64 a0_0 ∧ In64 a0_1 ∧ In64 a0_2 ∧ In64 a0_3 ∧ In64 a0_4 ∧ In64 a0_5 ∧ In64 a1 then some (grantP a0_0 a0_1 a0_2 a0_3 a0_4 a0_5 a1) else none
theorem bset0 {w w' : World} {o : Nat} {v : Value} (h : Below w.heap.size w w') : Below w.heap.size w (w'.setCell ⟨w.heap.size, o, none⟩ v) := h.setCell (Nat.le_refl _) _
theorem bset1 {w w' : World} {o : Nat} {v : Value} (h : Below w.heap.size w w') : Below w.heap.size w (w'.setCell ⟨w.heap.size + 1, o, none⟩ v) := h.setCell (Nat.le_succ _) _
theorem bcell {W w1 : World} (hb : Below W.heap.size W w1) : (∀ b o, b < W.heap.size → w1.cell? ⟨b, o, none⟩ = W.cell? ⟨b, o, none⟩) ∧ (∀ b o, b < W.heap.size → w1.frozen? ⟨b, o, none⟩ = W.frozen? ⟨b, o, none⟩) :=
  ⟨fun b o h => hb.cell (p := ⟨b, o, none⟩) h, fun b o h => hb.frozen (p := ⟨b, o, none⟩) h⟩
theorem atCells {w w1 w2 : World} {cs : Array Value} {T : TypeId} {o2 o3 : Obj} (hb : Below ((w.alloc (.cells cs T)).alloc o2).heap.size ((w.alloc (.cells cs T)).alloc o2) w1) (hd : Drawn0 (w1.alloc o3) w2) (i : Nat) : w2.cell? ⟨w.heap.size, i, none⟩ = cs[i]? := by
  have hz : w.heap.size < w1.heap.size := by have := hb.size; simp at this; omega
  obtain ⟨n, rfl⟩ := hd
  have h1 : (w1.alloc o3).cell? ⟨w.heap.size, i, none⟩ = w1.cell? ⟨w.heap.size, i, none⟩ := World.cell?_alloc_lt _ _ _ hz
  have h2 : ((w1.alloc o3).drewN n).cell? ⟨w.heap.size, i, none⟩ = (w1.alloc o3).cell? ⟨w.heap.size, i, none⟩ := rfl
  rw [h2, h1, (bcell hb).1 _ _ (by simp; omega), World.cell?_alloc_lt _ _ _ (by simp)]
  exact World.cell?_alloc_new w cs T i
theorem atFrozen {w w1 w2 : World} {cs : Array Value} {T : TypeId} {o2 o3 : Obj} (hb : Below ((w.alloc (.cells cs T)).alloc o2).heap.size ((w.alloc (.cells cs T)).alloc o2) w1) (hd : Drawn0 (w1.alloc o3) w2) (i : Nat) : w2.frozen? ⟨w.heap.size, i, none⟩ = false := by
  have hz : w.heap.size < w1.heap.size := by have := hb.size; simp at this; omega
  obtain ⟨n, rfl⟩ := hd
  have h1 : (w1.alloc o3).frozen? ⟨w.heap.size, i, none⟩ = w1.frozen? ⟨w.heap.size, i, none⟩ := World.frozen?_alloc_past _ _ _ hz
  have h2 : ((w1.alloc o3).drewN n).frozen? ⟨w.heap.size, i, none⟩ = (w1.alloc o3).frozen? ⟨w.heap.size, i, none⟩ := rfl
  rw [h2, h1, (bcell hb).2 _ _ (by simp; omega)]
  simp [go_sem]
theorem atCells1 {w w1 w2 : World} {cs : Array Value} {T : TypeId} {o1 o3 : Obj} (hb : Below ((w.alloc o1).alloc (.cells cs T)).heap.size ((w.alloc o1).alloc (.cells cs T)) w1) (hd : Drawn0 (w1.alloc o3) w2) (i : Nat) : w2.cell? ⟨w.heap.size + 1, i, none⟩ = cs[i]? := by
  have hz : w.heap.size + 1 < w1.heap.size := by have := hb.size; simp at this; omega
  obtain ⟨n, rfl⟩ := hd
  have h1 : (w1.alloc o3).cell? ⟨w.heap.size + 1, i, none⟩ = w1.cell? ⟨w.heap.size + 1, i, none⟩ := World.cell?_alloc_lt _ _ _ hz
  have h2 : ((w1.alloc o3).drewN n).cell? ⟨w.heap.size + 1, i, none⟩ = (w1.alloc o3).cell? ⟨w.heap.size + 1, i, none⟩ := rfl
  rw [h2, h1, (bcell hb).1 _ _ (by simp)]
  exact World.cell?_alloc_at cs T _ i (by simp)
theorem atFrozen1 {w w1 w2 : World} {cs : Array Value} {T : TypeId} {o1 o3 : Obj} (hb : Below ((w.alloc o1).alloc (.cells cs T)).heap.size ((w.alloc o1).alloc (.cells cs T)) w1) (hd : Drawn0 (w1.alloc o3) w2) (i : Nat) : w2.frozen? ⟨w.heap.size + 1, i, none⟩ = false := by
  have hz : w.heap.size + 1 < w1.heap.size := by have := hb.size; simp at this; omega
  obtain ⟨n, rfl⟩ := hd
  have h1 : (w1.alloc o3).frozen? ⟨w.heap.size + 1, i, none⟩ = w1.frozen? ⟨w.heap.size + 1, i, none⟩ := World.frozen?_alloc_past _ _ _ hz
  have h2 : ((w1.alloc o3).drewN n).frozen? ⟨w.heap.size + 1, i, none⟩ = (w1.alloc o3).frozen? ⟨w.heap.size + 1, i, none⟩ := rfl
  rw [h2, h1, (bcell hb).2 _ _ (by simp)]
  exact World.frozen?_alloc_at cs T _ i (by simp)
theorem atBelow {w w1 w2 : World} {o1 o2 o3 : Obj} (hb : Below ((w.alloc o1).alloc o2).heap.size ((w.alloc o1).alloc o2) w1) (hd : Drawn0 (w1.alloc o3) w2) : Below w.heap.size w w2 := by
  have hz : w.heap.size + 1 < w1.heap.size := by have := hb.size; simp at this; omega
  obtain ⟨n, rfl⟩ := hd
  refine pw_below_drewN ?_ n
  exact (((Below.refl _ _).alloc (Nat.le_refl _) _ |>.alloc (by simp) _).trans (hb.mono (by simp; omega))).alloc (by omega) _
theorem below_drewN' {n : Nat} {w w' : World} (h : Below n w w') (k : Nat) : Below n w (w'.drewN k) := pw_below_drewN h k
theorem field_Good_eq (a b c d e f : Int) : field_Good.f a b c d e f = some (decide (GoodP a b c d e f)) := by
  unfold field_Good.f mn mx
  by_cases h1 : a ≤ d
  · rw [if_pos h1]
    by_cases h2 : d ≤ (if f < c then f else c)
    · rw [if_pos h2]
      by_cases h3 : (if f > c then f else c) ≤ e
      · rw [if_pos h3]; congr 1
        by_cases h4 : e ≤ b
        · rw [decide_eq_true h4]; symm; refine decide_eq_true ?_; unfold GoodP; split at h2 <;> split at h3 <;> omega
        · rw [decide_eq_false h4]; symm; refine decide_eq_false ?_; unfold GoodP; omega
      · rw [if_neg h3]; congr 1; symm; refine decide_eq_false ?_; unfold GoodP; split at h3 <;> omega
    · rw [if_neg h2]; congr 1; symm; refine decide_eq_false ?_; unfold GoodP; split at h2 <;> omega
  · rw [if_neg h1]; congr 1; symm; refine decide_eq_false ?_; unfold GoodP; omega
theorem field_wrong_eq (a b c d e f x : Int) : field_wrong.f a b c d e f x = some (if ¬ GoodP a b c d e f then 12 else if x = 0 ∨ x = -9223372036854775808 then 1 else 0) := by
  unfold field_wrong.f
  rw [field_Good_eq, Option.bind_some]
  by_cases h : GoodP a b c d e f
  · rw [decide_eq_true h, if_pos rfl, if_neg (show ¬¬ GoodP a b c d e f from fun z => z h)]
    by_cases h1 : x = 0
    · rw [if_pos h1, if_pos (Or.inl h1)]
    · rw [if_neg h1]
      by_cases h2 : x = -9223372036854775808
      · rw [if_pos h2, if_pos (Or.inr h2)]
      · rw [if_neg h2, if_neg (by omega)]
  · rw [decide_eq_false h, if_neg Bool.false_ne_true, if_pos h]
set_option maxHeartbeats 2000000 in
set_option maxRecDepth 100000 in
/-- What is wrong is told first. -/
theorem field_Grant.wrong (a0_0 : Int) (a0_1 : Int) (a0_2 : Int) (a0_3 : Int) (a0_4 : Int) (a0_5 : Int) (a1 : Int) (x : Int) (w : World) (hw : field_wrong.f a0_0 a0_1 a0_2 a0_3 a0_4 a0_5 a1 = some x) (hx : (x != 0) = true) :
    Calls Try.prog 26 #[.agg #[.int .i64 a0_0, .int .i64 a0_1, .int .i64 a0_2, .int .i64 a0_3, .int .i64 a0_4, .int .i64 a0_5], .int .i64 a1] w fun e w' => e = .returned (.tuple #[.agg #[.int .i64 a0_0, .int .i64 a0_1, .int .i64 a0_2, .int .i64 a0_3, .int .i64 a0_4, .int .i64 a0_5], .int .i64 x]) ∧ Below w.heap.size w w' := by
  have HW := Aside0.mk hw
  clear hw
  go_enter Try.func26, Try.ntmps26
  go_wp2_with (go_at_call 42; ((with_reducible refine (field_wrong.calls _ _ _ _ _ _ _ _ _ HW.out).mono ?_); rintro e w1 ⟨rfl, hb⟩; obtain ⟨hc, hf⟩ := bcell hb; have hz : w.heap.size + 1 < w1.heap.size := (by have := hb.size; simp at this; omega); have hz0 : w.heap.size < w1.heap.size := Nat.lt_of_succ_lt hz))
  refine bodyPost_ret (v := .tuple #[.agg #[.int .i64 a0_0, .int .i64 a0_1, .int .i64 a0_2, .int .i64 a0_3, .int .i64 a0_4, .int .i64 a0_5], .int .i64 x]) (by simp [results, Try.results26, go_sem, hc, hz]) rfl ⟨rfl, ?_⟩
  (with_reducible repeat (first | refine bset0 ?_ | refine bset1 ?_))
  exact ((Below.refl _ _).alloc (Nat.le_refl _) _ |>.alloc (by simp) _).trans (hb.mono (by simp; omega))
set_option maxHeartbeats 2000000 in
set_option maxRecDepth 100000 in
theorem field_Grant.down_over (a0_0 : Int) (a0_1 : Int) (a0_2 : Int) (a0_3 : Int) (a0_4 : Int) (a0_5 : Int) (a1 : Int) (w : World) (hw : field_wrong.f a0_0 a0_1 a0_2 a0_3 a0_4 a0_5 a1 = some 0) (hd : decide (a1 < 0) = true) (ha : calc_Add.f a0_3 a1 = some (0, false)) :
    Calls Try.prog 26 #[.agg #[.int .i64 a0_0, .int .i64 a0_1, .int .i64 a0_2, .int .i64 a0_3, .int .i64 a0_4, .int .i64 a0_5], .int .i64 a1] w fun e w' => e = .returned (.tuple #[.agg #[.int .i64 a0_0, .int .i64 a0_1, .int .i64 a0_2, .int .i64 a0_3, .int .i64 a0_4, .int .i64 a0_5], .int .i64 2]) ∧ Below w.heap.size w w' := by
  have HW := Aside0.mk hw
  have HA := Aside0.mk ha
  clear hw ha
  go_enter Try.func26, Try.ntmps26
  go_wp2_with (first | (go_at_call 42; ((with_reducible refine (field_wrong.calls _ _ _ _ _ _ _ _ _ HW.out).mono ?_); rintro e w1 ⟨rfl, hb⟩; obtain ⟨hc, hf⟩ := bcell hb; have hz : w.heap.size + 1 < w1.heap.size := (by have := hb.size; simp at this; omega); have hz0 : w.heap.size < w1.heap.size := Nat.lt_of_succ_lt hz)) | (go_at_call 43; ((with_reducible refine (calc_Add.calls _ _ _ _ _ HA.out).mono ?_); rintro e w2 ⟨rfl, ⟨nd, rfl⟩⟩)))
  refine bodyPost_ret (v := .tuple #[.agg #[.int .i64 a0_0, .int .i64 a0_1, .int .i64 a0_2, .int .i64 a0_3, .int .i64 a0_4, .int .i64 a0_5], .int .i64 2]) (by simp [results, Try.results26, go_sem, hc, hz]) rfl ⟨rfl, ?_⟩
  (with_reducible repeat (first | refine bset0 ?_ | refine bset1 ?_ | refine below_drewN' ?_ _))
  (try (refine Below.alloc ?_ (Nat.le_of_lt hz0) _))
  exact ((Below.refl _ _).alloc (Nat.le_refl _) _ |>.alloc (by simp) _).trans (hb.mono (by simp; omega))
set_option maxHeartbeats 2000000 in
set_option maxRecDepth 100000 in
theorem field_Grant.down_bounds1 (a0_0 : Int) (a0_1 : Int) (a0_2 : Int) (a0_3 : Int) (a0_4 : Int) (a0_5 : Int) (a1 : Int) (n : Int) (w : World) (hw : field_wrong.f a0_0 a0_1 a0_2 a0_3 a0_4 a0_5 a1 = some 0) (hd : decide (a1 < 0) = true) (ha : calc_Add.f a0_3 a1 = some (n, true)) (h1 : decide (n < a0_0) = true) :
    Calls Try.prog 26 #[.agg #[.int .i64 a0_0, .int .i64 a0_1, .int .i64 a0_2, .int .i64 a0_3, .int .i64 a0_4, .int .i64 a0_5], .int .i64 a1] w fun e w' => e = .returned (.tuple #[.agg #[.int .i64 a0_0, .int .i64 a0_1, .int .i64 a0_2, .int .i64 a0_3, .int .i64 a0_4, .int .i64 a0_5], .int .i64 3]) ∧ Below w.heap.size w w' := by
  have HW := Aside0.mk hw
  have HA := Aside0.mk ha
  clear hw ha
  go_enter Try.func26, Try.ntmps26
  go_wp2_with (first | (go_at_call 42; ((with_reducible refine (field_wrong.calls _ _ _ _ _ _ _ _ _ HW.out).mono ?_); rintro e w1 ⟨rfl, hb⟩; obtain ⟨hc, hf⟩ := bcell hb; have hz : w.heap.size + 1 < w1.heap.size := (by have := hb.size; simp at this; omega); have hz0 : w.heap.size < w1.heap.size := Nat.lt_of_succ_lt hz)) | (go_at_call 43; ((with_reducible refine (calc_Add.calls _ _ _ _ _ HA.out).mono ?_); rintro e w2 ⟨rfl, ⟨nd, rfl⟩⟩)))
  refine bodyPost_ret (v := .tuple #[.agg #[.int .i64 a0_0, .int .i64 a0_1, .int .i64 a0_2, .int .i64 a0_3, .int .i64 a0_4, .int .i64 a0_5], .int .i64 3]) (by simp [results, Try.results26, go_sem, hc, hz]) rfl ⟨rfl, ?_⟩
  (with_reducible repeat (first | refine bset0 ?_ | refine bset1 ?_ | refine below_drewN' ?_ _))
  (try (refine Below.alloc ?_ (Nat.le_of_lt hz0) _))
  exact ((Below.refl _ _).alloc (Nat.le_refl _) _ |>.alloc (by simp) _).trans (hb.mono (by simp; omega))
set_option maxHeartbeats 2000000 in
set_option maxRecDepth 100000 in
theorem field_Grant.down_fine (a0_0 : Int) (a0_1 : Int) (a0_2 : Int) (a0_3 : Int) (a0_4 : Int) (a0_5 : Int) (a1 : Int) (n : Int) (vv : Int) (w : World) (hw : field_wrong.f a0_0 a0_1 a0_2 a0_3 a0_4 a0_5 a1 = some 0) (hd : decide (a1 < 0) = true) (ha : calc_Add.f a0_3 a1 = some (n, true)) (h1 : decide (n < a0_0) = false) (h2 : decide (a0_1 < n) = false) (h3 : wrap64 (a0_5 + a1) = vv) :
    Calls Try.prog 26 #[.agg #[.int .i64 a0_0, .int .i64 a0_1, .int .i64 a0_2, .int .i64 a0_3, .int .i64 a0_4, .int .i64 a0_5], .int .i64 a1] w fun e w' => e = .returned (.tuple #[.agg #[.int .i64 a0_0, .int .i64 a0_1, .int .i64 a0_2, .int .i64 n, .int .i64 a0_4, .int .i64 vv], .int .i64 0]) ∧ Below w.heap.size w w' := by
  have HW := Aside0.mk hw
  have HA := Aside0.mk ha
  clear hw ha
  go_enter Try.func26, Try.ntmps26
  go_wp2_with (first | (go_at_call 42; ((with_reducible refine (field_wrong.calls _ _ _ _ _ _ _ _ _ HW.out).mono ?_); rintro e w1 ⟨rfl, hb⟩; obtain ⟨hc, hf⟩ := bcell hb; have hz : w.heap.size + 1 < w1.heap.size := (by have := hb.size; simp at this; omega); have hz0 : w.heap.size < w1.heap.size := Nat.lt_of_succ_lt hz)) | (go_at_call 43; ((with_reducible refine (calc_Add.calls _ _ _ _ _ HA.out).mono ?_); rintro e w2 ⟨rfl, hdr⟩; have k0 : w2.cell? ⟨w.heap.size, 0, none⟩ = some (.int .i64 a0_0) := (atCells hb hdr 0).trans rfl; have m0 : w2.cell? ⟨w.heap.size + 1, 0, none⟩ = some (.int .i64 0) := (atCells1 hb hdr 0).trans rfl; have q0 := atFrozen hb hdr 0; have p0 := atFrozen1 hb hdr 0; have k1 : w2.cell? ⟨w.heap.size, 1, none⟩ = some (.int .i64 a0_1) := (atCells hb hdr 1).trans rfl; have m1 : w2.cell? ⟨w.heap.size + 1, 1, none⟩ = some (.int .i64 0) := (atCells1 hb hdr 1).trans rfl; have q1 := atFrozen hb hdr 1; have p1 := atFrozen1 hb hdr 1; have k2 : w2.cell? ⟨w.heap.size, 2, none⟩ = some (.int .i64 a0_2) := (atCells hb hdr 2).trans rfl; have m2 : w2.cell? ⟨w.heap.size + 1, 2, none⟩ = some (.int .i64 0) := (atCells1 hb hdr 2).trans rfl; have q2 := atFrozen hb hdr 2; have p2 := atFrozen1 hb hdr 2; have k3 : w2.cell? ⟨w.heap.size, 3, none⟩ = some (.int .i64 a0_3) := (atCells hb hdr 3).trans rfl; have m3 : w2.cell? ⟨w.heap.size + 1, 3, none⟩ = some (.int .i64 0) := (atCells1 hb hdr 3).trans rfl; have q3 := atFrozen hb hdr 3; have p3 := atFrozen1 hb hdr 3; have k4 : w2.cell? ⟨w.heap.size, 4, none⟩ = some (.int .i64 a0_4) := (atCells hb hdr 4).trans rfl; have m4 : w2.cell? ⟨w.heap.size + 1, 4, none⟩ = some (.int .i64 0) := (atCells1 hb hdr 4).trans rfl; have q4 := atFrozen hb hdr 4; have p4 := atFrozen1 hb hdr 4; have k5 : w2.cell? ⟨w.heap.size, 5, none⟩ = some (.int .i64 a0_5) := (atCells hb hdr 5).trans rfl; have m5 : w2.cell? ⟨w.heap.size + 1, 5, none⟩ = some (.int .i64 0) := (atCells1 hb hdr 5).trans rfl; have q5 := atFrozen hb hdr 5; have p5 := atFrozen1 hb hdr 5; have hbw := Aside0.mk (atBelow hb hdr); clear hb hdr hc hf hz hz0)))
  refine bodyPost_ret (v := .tuple #[.agg #[.int .i64 a0_0, .int .i64 a0_1, .int .i64 a0_2, .int .i64 n, .int .i64 a0_4, .int .i64 vv], .int .i64 0]) (by simp [results, Try.results26, go_sem, m0, m1, m2, m3, m4, m5]) rfl ⟨rfl, ?_⟩
  (with_reducible repeat (first | refine bset0 ?_ | refine bset1 ?_))
  exact hbw.out
set_option maxHeartbeats 2000000 in
set_option maxRecDepth 100000 in
theorem field_Grant.up_over (a0_0 : Int) (a0_1 : Int) (a0_2 : Int) (a0_3 : Int) (a0_4 : Int) (a0_5 : Int) (a1 : Int) (w : World) (hw : field_wrong.f a0_0 a0_1 a0_2 a0_3 a0_4 a0_5 a1 = some 0) (hd : decide (a1 < 0) = false) (ha : calc_Add.f a0_4 a1 = some (0, false)) :
    Calls Try.prog 26 #[.agg #[.int .i64 a0_0, .int .i64 a0_1, .int .i64 a0_2, .int .i64 a0_3, .int .i64 a0_4, .int .i64 a0_5], .int .i64 a1] w fun e w' => e = .returned (.tuple #[.agg #[.int .i64 a0_0, .int .i64 a0_1, .int .i64 a0_2, .int .i64 a0_3, .int .i64 a0_4, .int .i64 a0_5], .int .i64 2]) ∧ Below w.heap.size w w' := by
  have HW := Aside0.mk hw
  have HA := Aside0.mk ha
  clear hw ha
  go_enter Try.func26, Try.ntmps26
  go_wp2_with (first | (go_at_call 42; ((with_reducible refine (field_wrong.calls _ _ _ _ _ _ _ _ _ HW.out).mono ?_); rintro e w1 ⟨rfl, hb⟩; obtain ⟨hc, hf⟩ := bcell hb; have hz : w.heap.size + 1 < w1.heap.size := (by have := hb.size; simp at this; omega); have hz0 : w.heap.size < w1.heap.size := Nat.lt_of_succ_lt hz)) | (go_at_call 43; ((with_reducible refine (calc_Add.calls _ _ _ _ _ HA.out).mono ?_); rintro e w2 ⟨rfl, ⟨nd, rfl⟩⟩)))
  refine bodyPost_ret (v := .tuple #[.agg #[.int .i64 a0_0, .int .i64 a0_1, .int .i64 a0_2, .int .i64 a0_3, .int .i64 a0_4, .int .i64 a0_5], .int .i64 2]) (by simp [results, Try.results26, go_sem, hc, hz]) rfl ⟨rfl, ?_⟩
  (with_reducible repeat (first | refine bset0 ?_ | refine bset1 ?_ | refine below_drewN' ?_ _))
  (try (refine Below.alloc ?_ (Nat.le_of_lt hz0) _))
  exact ((Below.refl _ _).alloc (Nat.le_refl _) _ |>.alloc (by simp) _).trans (hb.mono (by simp; omega))
set_option maxHeartbeats 2000000 in
set_option maxRecDepth 100000 in
theorem field_Grant.up_bounds2 (a0_0 : Int) (a0_1 : Int) (a0_2 : Int) (a0_3 : Int) (a0_4 : Int) (a0_5 : Int) (a1 : Int) (n : Int) (w : World) (hw : field_wrong.f a0_0 a0_1 a0_2 a0_3 a0_4 a0_5 a1 = some 0) (hd : decide (a1 < 0) = false) (ha : calc_Add.f a0_4 a1 = some (n, true)) (h1 : decide (n < a0_0) = false) (h2 : decide (a0_1 < n) = true) :
    Calls Try.prog 26 #[.agg #[.int .i64 a0_0, .int .i64 a0_1, .int .i64 a0_2, .int .i64 a0_3, .int .i64 a0_4, .int .i64 a0_5], .int .i64 a1] w fun e w' => e = .returned (.tuple #[.agg #[.int .i64 a0_0, .int .i64 a0_1, .int .i64 a0_2, .int .i64 a0_3, .int .i64 a0_4, .int .i64 a0_5], .int .i64 3]) ∧ Below w.heap.size w w' := by
  have HW := Aside0.mk hw
  have HA := Aside0.mk ha
  clear hw ha
  go_enter Try.func26, Try.ntmps26
  go_wp2_with (first | (go_at_call 42; ((with_reducible refine (field_wrong.calls _ _ _ _ _ _ _ _ _ HW.out).mono ?_); rintro e w1 ⟨rfl, hb⟩; obtain ⟨hc, hf⟩ := bcell hb; have hz : w.heap.size + 1 < w1.heap.size := (by have := hb.size; simp at this; omega); have hz0 : w.heap.size < w1.heap.size := Nat.lt_of_succ_lt hz)) | (go_at_call 43; ((with_reducible refine (calc_Add.calls _ _ _ _ _ HA.out).mono ?_); rintro e w2 ⟨rfl, ⟨nd, rfl⟩⟩)))
  refine bodyPost_ret (v := .tuple #[.agg #[.int .i64 a0_0, .int .i64 a0_1, .int .i64 a0_2, .int .i64 a0_3, .int .i64 a0_4, .int .i64 a0_5], .int .i64 3]) (by simp [results, Try.results26, go_sem, hc, hz]) rfl ⟨rfl, ?_⟩
  (with_reducible repeat (first | refine bset0 ?_ | refine bset1 ?_ | refine below_drewN' ?_ _))
  (try (refine Below.alloc ?_ (Nat.le_of_lt hz0) _))
  exact ((Below.refl _ _).alloc (Nat.le_refl _) _ |>.alloc (by simp) _).trans (hb.mono (by simp; omega))
set_option maxHeartbeats 2000000 in
set_option maxRecDepth 100000 in
theorem field_Grant.up_fine (a0_0 : Int) (a0_1 : Int) (a0_2 : Int) (a0_3 : Int) (a0_4 : Int) (a0_5 : Int) (a1 : Int) (n : Int) (vv : Int) (w : World) (hw : field_wrong.f a0_0 a0_1 a0_2 a0_3 a0_4 a0_5 a1 = some 0) (hd : decide (a1 < 0) = false) (ha : calc_Add.f a0_4 a1 = some (n, true)) (h1 : decide (n < a0_0) = false) (h2 : decide (a0_1 < n) = false) (h3 : wrap64 (a0_5 + a1) = vv) :
    Calls Try.prog 26 #[.agg #[.int .i64 a0_0, .int .i64 a0_1, .int .i64 a0_2, .int .i64 a0_3, .int .i64 a0_4, .int .i64 a0_5], .int .i64 a1] w fun e w' => e = .returned (.tuple #[.agg #[.int .i64 a0_0, .int .i64 a0_1, .int .i64 a0_2, .int .i64 a0_3, .int .i64 n, .int .i64 vv], .int .i64 0]) ∧ Below w.heap.size w w' := by
  have HW := Aside0.mk hw
  have HA := Aside0.mk ha
  clear hw ha
  go_enter Try.func26, Try.ntmps26
  go_wp2_with (first | (go_at_call 42; ((with_reducible refine (field_wrong.calls _ _ _ _ _ _ _ _ _ HW.out).mono ?_); rintro e w1 ⟨rfl, hb⟩; obtain ⟨hc, hf⟩ := bcell hb; have hz : w.heap.size + 1 < w1.heap.size := (by have := hb.size; simp at this; omega); have hz0 : w.heap.size < w1.heap.size := Nat.lt_of_succ_lt hz)) | (go_at_call 43; ((with_reducible refine (calc_Add.calls _ _ _ _ _ HA.out).mono ?_); rintro e w2 ⟨rfl, hdr⟩; have k0 : w2.cell? ⟨w.heap.size, 0, none⟩ = some (.int .i64 a0_0) := (atCells hb hdr 0).trans rfl; have m0 : w2.cell? ⟨w.heap.size + 1, 0, none⟩ = some (.int .i64 0) := (atCells1 hb hdr 0).trans rfl; have q0 := atFrozen hb hdr 0; have p0 := atFrozen1 hb hdr 0; have k1 : w2.cell? ⟨w.heap.size, 1, none⟩ = some (.int .i64 a0_1) := (atCells hb hdr 1).trans rfl; have m1 : w2.cell? ⟨w.heap.size + 1, 1, none⟩ = some (.int .i64 0) := (atCells1 hb hdr 1).trans rfl; have q1 := atFrozen hb hdr 1; have p1 := atFrozen1 hb hdr 1; have k2 : w2.cell? ⟨w.heap.size, 2, none⟩ = some (.int .i64 a0_2) := (atCells hb hdr 2).trans rfl; have m2 : w2.cell? ⟨w.heap.size + 1, 2, none⟩ = some (.int .i64 0) := (atCells1 hb hdr 2).trans rfl; have q2 := atFrozen hb hdr 2; have p2 := atFrozen1 hb hdr 2; have k3 : w2.cell? ⟨w.heap.size, 3, none⟩ = some (.int .i64 a0_3) := (atCells hb hdr 3).trans rfl; have m3 : w2.cell? ⟨w.heap.size + 1, 3, none⟩ = some (.int .i64 0) := (atCells1 hb hdr 3).trans rfl; have q3 := atFrozen hb hdr 3; have p3 := atFrozen1 hb hdr 3; have k4 : w2.cell? ⟨w.heap.size, 4, none⟩ = some (.int .i64 a0_4) := (atCells hb hdr 4).trans rfl; have m4 : w2.cell? ⟨w.heap.size + 1, 4, none⟩ = some (.int .i64 0) := (atCells1 hb hdr 4).trans rfl; have q4 := atFrozen hb hdr 4; have p4 := atFrozen1 hb hdr 4; have k5 : w2.cell? ⟨w.heap.size, 5, none⟩ = some (.int .i64 a0_5) := (atCells hb hdr 5).trans rfl; have m5 : w2.cell? ⟨w.heap.size + 1, 5, none⟩ = some (.int .i64 0) := (atCells1 hb hdr 5).trans rfl; have q5 := atFrozen hb hdr 5; have p5 := atFrozen1 hb hdr 5; have hbw := Aside0.mk (atBelow hb hdr); clear hb hdr hc hf hz hz0)))
  refine bodyPost_ret (v := .tuple #[.agg #[.int .i64 a0_0, .int .i64 a0_1, .int .i64 a0_2, .int .i64 a0_3, .int .i64 n, .int .i64 vv], .int .i64 0]) (by simp [results, Try.results26, go_sem, m0, m1, m2, m3, m4, m5]) rfl ⟨rfl, ?_⟩
  (with_reducible repeat (first | refine bset0 ?_ | refine bset1 ?_))
  exact hbw.out
set_option maxHeartbeats 2000000 in
set_option maxRecDepth 100000 in
theorem field_Grant.calls (a0_0 : Int) (a0_1 : Int) (a0_2 : Int) (a0_3 : Int) (a0_4 : Int) (a0_5 : Int) (a1 : Int) (r1 : Int) (r2 : Int) (r3 : Int) (r4 : Int) (r5 : Int) (r6 : Int) (r7 : Int) (w : World) (h : field_Grant.f a0_0 a0_1 a0_2 a0_3 a0_4 a0_5 a1 = some (r1, r2, r3, r4, r5, r6, r7)) :
    Calls Try.prog 26 #[.agg #[.int .i64 a0_0, .int .i64 a0_1, .int .i64 a0_2, .int .i64 a0_3, .int .i64 a0_4, .int .i64 a0_5], .int .i64 a1] w fun e w' => e = .returned (.tuple #[.agg #[.int .i64 r1, .int .i64 r2, .int .i64 r3, .int .i64 r4, .int .i64 r5, .int .i64 r6], .int .i64 r7]) ∧ Below w.heap.size w w' := by
  unfold field_Grant.f at h
  split at h
  case isFalse => simp at h
  case isTrue hh =>
  obtain ⟨i0, i1, i2, i3, i4, i5, i6⟩ := hh
  simp only [Option.some.injEq] at h
  have hw := field_wrong_eq a0_0 a0_1 a0_2 a0_3 a0_4 a0_5 a1
  unfold grantP at h
  by_cases g : GoodP a0_0 a0_1 a0_2 a0_3 a0_4 a0_5
  · rw [if_neg (fun z => z g)] at h hw
    by_cases g1 : a1 = 0 ∨ a1 = -9223372036854775808
    · rw [if_pos g1] at h hw
      simp only [Prod.mk.injEq] at h
      obtain ⟨rfl, rfl, rfl, rfl, rfl, rfl, rfl⟩ := h
      exact field_Grant.wrong _ _ _ _ _ _ _ 1 w hw (by decide)
    · rw [if_neg g1] at h hw
      obtain ⟨g2, g3, g4, g5, g6, g7⟩ := g
      unfold In64 at i0 i1 i2 i3 i4 i5 i6
      by_cases c : a1 < 0
      · rw [if_pos c] at h
        have ha := add_fit a0_3 a1 i3 i6
        have hd : decide (a1 < 0) = true := decide_eq_true c
        by_cases c1 : a0_3 + a1 < -9223372036854775808
        · rw [if_pos c1] at h
          rw [fit_out (by omega)] at ha
          simp only [Prod.mk.injEq] at h
          obtain ⟨rfl, rfl, rfl, rfl, rfl, rfl, rfl⟩ := h
          exact field_Grant.down_over _ _ _ _ _ _ _ w hw hd ha
        · rw [if_neg c1] at h
          rw [fit_in (by omega)] at ha
          by_cases c2 : a0_3 + a1 < a0_0
          · rw [if_pos c2] at h
            simp only [Prod.mk.injEq] at h
            obtain ⟨rfl, rfl, rfl, rfl, rfl, rfl, rfl⟩ := h
            exact field_Grant.down_bounds1 _ _ _ _ _ _ _ _ w hw hd ha (decide_eq_true c2)
          · rw [if_neg c2] at h
            simp only [Prod.mk.injEq] at h
            obtain ⟨rfl, rfl, rfl, rfl, rfl, rfl, rfl⟩ := h
            exact field_Grant.down_fine _ _ _ _ _ _ _ _ _ w hw hd ha (decide_eq_false c2) (decide_eq_false (by omega)) (by unfold wrap64; omega)
      · rw [if_neg c] at h
        have ha := add_fit a0_4 a1 i4 i6
        have hd : decide (a1 < 0) = false := decide_eq_false c
        by_cases c1 : a0_4 + a1 > 9223372036854775807
        · rw [if_pos c1] at h
          rw [fit_out (by omega)] at ha
          simp only [Prod.mk.injEq] at h
          obtain ⟨rfl, rfl, rfl, rfl, rfl, rfl, rfl⟩ := h
          exact field_Grant.up_over _ _ _ _ _ _ _ w hw hd ha
        · rw [if_neg c1] at h
          rw [fit_in (by omega)] at ha
          by_cases c2 : a0_4 + a1 > a0_1
          · rw [if_pos c2] at h
            simp only [Prod.mk.injEq] at h
            obtain ⟨rfl, rfl, rfl, rfl, rfl, rfl, rfl⟩ := h
            exact field_Grant.up_bounds2 _ _ _ _ _ _ _ _ w hw hd ha (decide_eq_false (by omega)) (decide_eq_true c2)
          · rw [if_neg c2] at h
            simp only [Prod.mk.injEq] at h
            obtain ⟨rfl, rfl, rfl, rfl, rfl, rfl, rfl⟩ := h
            exact field_Grant.up_fine _ _ _ _ _ _ _ _ _ w hw hd ha (decide_eq_false (by omega)) (decide_eq_false c2) (by unfold wrap64; omega)
  · rw [if_pos g] at h hw
    simp only [Prod.mk.injEq] at h
    obtain ⟨rfl, rfl, rfl, rfl, rfl, rfl, rfl⟩ := h
    exact field_Grant.wrong _ _ _ _ _ _ _ 12 w hw (by decide)


end Go.Proofs.Ytnipjfciphgfjaa.G
/- What functions of the program answer, for all inputs of which their Lean functions tell an answer; printed by a program of this session with the kit's printer, over contracts that this session proved by hand. -/
namespace Go.Proofs.Ytnipjfciphgfjaa.G
open Go.RowKit Go.Proofs.YtnipjfciphgfjaaW.PrintWords Go.Proofs.YtnipjfciphgfjaaW.PrintLast Go.Proofs.YtnipjfciphgfjaaW.PrintMore
attribute [local go_sem] max2_int min2_int max_two min_two max_three min_three max_four min_four   -- for this text's walks alone
set_option linter.unusedVariables false
set_option linter.unusedSimpArgs false

-- NOT PRINTED: function 8 (fund_Fund_Grant)

/-! ### calc_Fits: function 46 -/
def calc_Fits.f (a0 : Int) : Option (Int × Bool) := if a0 ≥ 9223372036854775808 then (some (0, false)) else (some (wrap64 (a0), true))
set_option maxHeartbeats 8000000 in
set_option maxRecDepth 100000 in
theorem calc_Fits.calls (a0 : Int) (r1 : Int) (r2 : Bool) (w : World) (h : calc_Fits.f a0 = some (r1, r2)) :
    Calls Try.prog 46 #[.int .u64 a0] w fun e w' => e = .returned (.tuple #[.int .i64 r1, .bool r2]) ∧ Drawn0 w w' := by
  have H : (if a0 ≥ 9223372036854775808 then (some (0, false)) else (some (wrap64 (a0), true))) = some (r1, r2) := h
  clear h
  by_cases c2 : a0 ≥ 9223372036854775808
  · rw [if_pos c2] at H
    have c2b0 : decide (9223372036854775808 ≤ a0) = true := decide_eq_true c2
    clear c2
    simp only [Option.some.injEq, Prod.mk.injEq] at H
    obtain ⟨rfl, rfl⟩ := H
    go_enter Try.func46, Try.ntmps46
    go_wp2
    go_ret2
    exact ⟨by first | rfl | (simp; done) | (simp [*]; done), by repeat (first | exact Drawn0.refl _ | apply Drawn0.step)⟩
  · rw [if_neg c2] at H
    have c2b0 : decide (9223372036854775808 ≤ a0) = false := decide_eq_false c2
    clear c2
    simp only [Option.some.injEq, Prod.mk.injEq] at H
    obtain ⟨rfl, rfl⟩ := H
    go_enter Try.func46, Try.ntmps46
    go_wp2
    go_ret2
    exact ⟨by first | rfl | (simp; done) | (simp [*]; done), by repeat (first | exact Drawn0.refl _ | apply Drawn0.step)⟩

/-! ### calc_Dist: function 47 -/
def calc_Dist.f (a0 : Int) (a1 : Int) : Option (Int) := if a1 < a0 then (some 0) else (some (IntKind.u64.wrap ((IntKind.u64.wrap (a1)) - (IntKind.u64.wrap (a0)))))
set_option maxHeartbeats 8000000 in
set_option maxRecDepth 100000 in
theorem calc_Dist.calls (a0 : Int) (a1 : Int) (r : Int) (w : World) (h : calc_Dist.f a0 a1 = some r) :
    Calls Try.prog 47 #[.int .i64 a0, .int .i64 a1] w fun e w' => e = .returned (.int .u64 r) ∧ Drawn0 w w' := by
  have H : (if a1 < a0 then (some 0) else (some (IntKind.u64.wrap ((IntKind.u64.wrap (a1)) - (IntKind.u64.wrap (a0)))))) = some r := h
  clear h
  by_cases c3 : a1 < a0
  · rw [if_pos c3] at H
    have c3b0 : decide (a1 < a0) = true := decide_eq_true c3
    clear c3
    obtain rfl := Option.some.inj H
    go_enter Try.func47, Try.ntmps47
    go_wp2
    go_ret
    exact ⟨by first | rfl | (simp; done) | (simp [*]; done), by repeat (first | exact Drawn0.refl _ | apply Drawn0.step)⟩
  · rw [if_neg c3] at H
    have c3b0 : decide (a1 < a0) = false := decide_eq_false c3
    clear c3
    obtain rfl := Option.some.inj H
    go_enter Try.func47, Try.ntmps47
    go_wp2
    go_ret
    exact ⟨by first | rfl | (simp; done) | (simp [*]; done), by repeat (first | exact Drawn0.refl _ | apply Drawn0.step)⟩

/-! ### view_far: function 28 -/
def view_far.f (a0 : Int) (a1 : Int) : Option (Int) := (calc_Dist.f a0 a1).bind fun t108 => ((calc_Fits.f t108).bind fun bt109 => (if bt109.2 = true then (some bt109.1) else (some 9223372036854775807)))
set_option maxHeartbeats 8000000 in
set_option maxRecDepth 100000 in
theorem view_far.calls (a0 : Int) (a1 : Int) (r : Int) (w : World) (h : view_far.f a0 a1 = some r) :
    Calls Try.prog 28 #[.int .i64 a0, .int .i64 a1] w fun e w' => e = .returned (.int .i64 r) ∧ Drawn0 w w' := by
  have H : ((calc_Dist.f a0 a1).bind fun t108 => ((calc_Fits.f t108).bind fun bt109 => (if bt109.2 = true then (some bt109.1) else (some 9223372036854775807)))) = some r := h
  clear h
  replace H := Option.bind_eq_some_iff.mp H
  obtain ⟨t108, A30, H⟩ := H
  replace H : ((calc_Fits.f t108).bind fun bt109 => (if bt109.2 = true then (some bt109.1) else (some 9223372036854775807))) = some r := H
  have A3 := Aside0.mk A30
  clear A30
  replace H := Option.bind_eq_some_iff.mp H
  obtain ⟨⟨t109, t110⟩, A40, H⟩ := H
  replace H : (if t110 = true then (some t109) else (some 9223372036854775807)) = some r := H
  have A4 := Aside0.mk A40
  clear A40
  by_cases c5 : t110 = true
  · subst c5
    have H1 : (some t109) = some r := by rw [if_pos rfl] at H; exact H
    clear H
    have H := H1
    clear H1
    obtain rfl := Option.some.inj H
    go_enter Try.func28, Try.ntmps28
    go_wp2_with (first | ((with_reducible refine gate_callee (f := 47) rfl ?_); refine goesL_ (some 10) rfl rfl Try.func47 (by kernel_rfl) rfl #[.int .i64 a0, .int .i64 a1] rfl (by (try simp only [List.map_toArray, List.map_cons, List.map_nil]); first | done | rfl | (simp only [List.length_drop, List.length_take]; rfl)) ?_; (with_reducible refine (calc_Dist.calls a0 a1 t108 _ A3.out).mono ?_); rintro e w' ⟨rfl, ⟨nd, rfl⟩⟩; refine ⟨_, rfl, ?_⟩) | ((with_reducible refine gate_callee (f := 46) rfl ?_); refine goesL_ (some 11) rfl rfl Try.func46 (by kernel_rfl) rfl #[.int .u64 t108] rfl (by (try simp only [List.map_toArray, List.map_cons, List.map_nil]); first | done | rfl | (simp only [List.length_drop, List.length_take]; rfl)) ?_; (with_reducible refine (calc_Fits.calls t108 t109 true _ A4.out).mono ?_); rintro e w' ⟨rfl, ⟨nd, rfl⟩⟩; refine ⟨_, rfl, ?_⟩))
    go_ret
    exact ⟨by first | rfl | (simp; done) | (simp [*]; done), by repeat (first | exact Drawn0.refl _ | apply Drawn0.step)⟩
  · replace c5 := Bool.eq_false_iff.mpr c5
    subst c5
    have H1 : (some 9223372036854775807) = some r := by rw [if_neg (show ¬ (false = true) by decide)] at H; exact H
    clear H
    have H := H1
    clear H1
    obtain rfl := Option.some.inj H
    go_enter Try.func28, Try.ntmps28
    go_wp2_with (first | ((with_reducible refine gate_callee (f := 47) rfl ?_); refine goesL_ (some 10) rfl rfl Try.func47 (by kernel_rfl) rfl #[.int .i64 a0, .int .i64 a1] rfl (by (try simp only [List.map_toArray, List.map_cons, List.map_nil]); first | done | rfl | (simp only [List.length_drop, List.length_take]; rfl)) ?_; (with_reducible refine (calc_Dist.calls a0 a1 t108 _ A3.out).mono ?_); rintro e w' ⟨rfl, ⟨nd, rfl⟩⟩; refine ⟨_, rfl, ?_⟩) | ((with_reducible refine gate_callee (f := 46) rfl ?_); refine goesL_ (some 11) rfl rfl Try.func46 (by kernel_rfl) rfl #[.int .u64 t108] rfl (by (try simp only [List.map_toArray, List.map_cons, List.map_nil]); first | done | rfl | (simp only [List.length_drop, List.length_take]; rfl)) ?_; (with_reducible refine (calc_Fits.calls t108 t109 false _ A4.out).mono ?_); rintro e w' ⟨rfl, ⟨nd, rfl⟩⟩; refine ⟨_, rfl, ?_⟩))
    go_ret
    exact ⟨by first | rfl | (simp; done) | (simp [*]; done), by repeat (first | exact Drawn0.refl _ | apply Drawn0.step)⟩

-- NOT PRINTED: function 9 (view_Free)

-- NOT PRINTED: function 10 (view_Room)

/-! ### view_stock: function 35 -/
def view_stock.f (a0 : Int) (a1 : Int) : Option (Int × Int × Int) := some (1, (a0) % 256, (a1) % 256)
set_option maxHeartbeats 8000000 in
set_option maxRecDepth 100000 in
theorem view_stock.calls (a0 : Int) (a1 : Int) (r1 : Int) (r2 : Int) (r3 : Int) (w : World) (h : view_stock.f a0 a1 = some (r1, r2, r3)) :
    Calls Try.prog 35 #[.int .i64 a0, .int .i64 a1] w fun e w' => e = .returned (.agg #[.int .u8 r1, .int .u8 r2, .int .u8 r3]) ∧ Below w.heap.size w w' := by
  have hu25 := Try.underlying25
  have HB := Aside0.mk (Below.refl w.heap.size w)
  have H : (some (1, (a0) % 256, (a1) % 256)) = some (r1, r2, r3) := h
  clear h
  simp only [Option.some.injEq, Prod.mk.injEq] at H
  obtain ⟨rfl, rfl, rfl⟩ := H
  go_enter Try.func35, Try.ntmps35
  go_wp2_with (first | ((with_reducible refine gate_dst (N := 4) rfl ?_); refine box_event ?hg (N := 4) ?hd (cs := #[.int .u8 0, .int .u8 0, .int .u8 0]) (t := 25) ?hr ?_; (case hd => rfl); (case hg => rfl); (case hr => first | (go_simp; done) | (go_simp; rfl)); intro gb111 hg w3 hbox hb; have n0_ := Aside0.mk (below_step (by repeat (first | (with_reducible first | exact HB.out | apply below_alloc | apply pw_below_drewN | apply below_drew1) | exact HB.out)) hb); have n1_ := Aside0.mk (hbox); have n2_ := Aside0.mk ((by rw [hg]; exact (below_size (by repeat (first | (with_reducible first | exact HB.out | apply below_alloc | apply pw_below_drewN | apply below_drew1) | exact HB.out))) : w.heap.size ≤ gb111)); have n3_ := Aside0.mk ((by rw [hg]; exact (below_size (by repeat (first | (with_reducible first | exact HB.out | apply below_alloc | apply pw_below_drewN | apply below_drew1) | exact HB.out))) : w.heap.size ≤ gb111)); clear HB; have HB := n0_; have BK111 := n1_; have GW111 := n2_; have GE111 := n3_; clear n0_ n1_ n2_ n3_; clear hb hbox hg; have hcz4_0 : w3.cell? ⟨gb111, 0, none⟩ = some (.int .u8 0) := (blk_cell BK111.out 0).trans rfl; have hcz4_1 : w3.cell? ⟨gb111, 1, none⟩ = some (.int .u8 0) := (blk_cell BK111.out 1).trans rfl; have hcz4_2 : w3.cell? ⟨gb111, 2, none⟩ = some (.int .u8 0) := (blk_cell BK111.out 2).trans rfl; have hfz4_0 := blk_frozen BK111.out 0; have hfz4_1 := blk_frozen BK111.out 1; have hfz4_2 := blk_frozen BK111.out 2))
  refine bodyPost_ret (results_cell_row rfl _ _ gb111 25 #[.int .u8 1, .int .u8 ((a0) % 256), .int .u8 ((a1) % 256)] (0, 0) _ rfl (by (with_reducible repeat (first | refine blk_drewN ?_ _ | refine blk_drew ?_ | refine blk_alloc ?_ _)); refine blk_put (cs := #[.int .u8 1, .int .u8 ((a0) % 256), .int .u8 0]) ?_ 2 _ rfl; (with_reducible repeat (first | refine blk_drewN ?_ _ | refine blk_drew ?_ | refine blk_alloc ?_ _)); refine blk_put (cs := #[.int .u8 1, .int .u8 0, .int .u8 0]) ?_ 1 _ rfl; (with_reducible repeat (first | refine blk_drewN ?_ _ | refine blk_drew ?_ | refine blk_alloc ?_ _)); refine blk_put (cs := #[.int .u8 0, .int .u8 0, .int .u8 0]) ?_ 0 _ rfl; (with_reducible repeat (first | refine blk_drewN ?_ _ | refine blk_drew ?_ | refine blk_alloc ?_ _)); exact BK111.out) Try.underlying25 rfl (by kernel_rfl)) rfl ?_
  exact ⟨by first | rfl | (simp [errW_none, errW_some] <;> rfl) | (simp [*, errW_none, errW_some] <;> rfl), by repeat (first | (with_reducible first | exact HB.out | apply below_alloc | apply pw_below_drewN | apply below_drew1 | refine below_set ?_ GE111.out) | exact HB.out)⟩

-- NOT PRINTED: function 13 (view_Spans)

-- NOT PRINTED: function 6 (pledgelaw32_works)

-- NOT PRINTED: function 3 (pledgelaw32_ViewSharp)

end Go.Proofs.Ytnipjfciphgfjaa.G
/- The walks of a table's functions. -/
namespace Go.Proofs.Ytnipjfciphgfjaa.V
open Go.RowKit Go.Proofs.Ytnipjfciphgfjaa.G Go.Proofs.YtnipjfciphgfjaaW.PrintWords Go.Proofs.YtnipjfciphgfjaaW.PrintLast Go.Proofs.YtnipjfciphgfjaaW.PrintMore
set_option linter.unusedVariables false
set_option linter.unusedSimpArgs false
set_option maxHeartbeats 2000000
set_option maxRecDepth 100000
theorem table_New.calls (w : World) :
    Calls Try.prog 21 #[] w fun e w' => e = .returned (.pointer (some ⟨w.heap.size + 1, 0, none⟩)) ∧ w' = (w.alloc (.map #[] 0)).alloc (.cells #[.map (some w.heap.size)] 92 (0, 0)) := by
  have hmm := @run_makeMap Try.prog
  go_enter Try.func21, Try.ntmps21
  go_wp2
  refine bodyPost_ret (v := .pointer (some ⟨w.heap.size + 1, 0, none⟩)) (by simp [results, Try.results21, go_sem]) rfl ⟨rfl, rfl⟩
theorem fund_all.calls (w : World) (f t : Nat) (hf : w.heap[f]? = some (.cells #[.pointer (some ⟨t, 0, none⟩)] 66 (0, 0))) :
    Calls Try.prog 44 #[.pointer (some ⟨f, 0, none⟩)] w fun e w' => e = .returned (.pointer (some ⟨t, 0, none⟩)) ∧ w' = w := by
  have hc : w.cell? ⟨f, 0, none⟩ = some (.pointer (some ⟨t, 0, none⟩)) := blk_cell hf 0
  clear hf
  go_enter Try.func44, Try.ntmps44
  go_wp2
  refine bodyPost_ret (v := .pointer (some ⟨t, 0, none⟩)) (by simp [results, Try.results44, go_sem]) rfl ⟨rfl, rfl⟩
theorem table_Get.calls (w : World) (t b n : Nat) (M : Rowmap) (k0 k1 k2 x0 x1 x2 x3 x4 x5 : Int) (s : Bool) (ht : w.heap[t]? = some (.cells #[.map (some b)] 92 (0, 0))) (hM : Tab w b n M)
    (u0 : U8 k0) (u1 : U8 k1) (u2 : U8 k2) (hv : (M (k0, k1, k2)).getD F6.zero = (x0, x1, x2, x3, x4, x5)) (hs : (M (k0, k1, k2)).isSome = s) :
    Calls Try.prog 45 #[.pointer (some ⟨t, 0, none⟩), .agg #[.int .u8 k0, .int .u8 k1, .int .u8 k2]] w fun e w' =>
      e = .returned (.tuple #[.agg #[.int .i64 x0, .int .i64 x1, .int .i64 x2, .int .i64 x3, .int .i64 x4, .int .i64 x5], .bool s]) ∧ Below w.heap.size w w' := by
  have hc : w.cell? ⟨t, 0, none⟩ = some (.map (some b)) := blk_cell ht 0
  have hlt := World.block_lt_of_cell? _ _ hc
  have hl : ∀ c1 c2 t1 t2, (Instr.lookup 90 (.map (some b)) (.agg #[.int .u8 k0, .int .u8 k1, .int .u8 k2]) true).run Try.prog ((w.alloc (.cells c1 t1)).alloc (.cells c2 t2)).drew =
      .ok (.tuple #[.agg #[.int .i64 x0, .int .i64 x1, .int .i64 x2, .int .i64 x3, .int .i64 x4, .int .i64 x5], .bool s]) ((w.alloc (.cells c1 t1)).alloc (.cells c2 t2)).drew := fun c1 c2 t1 t2 => by
    have q : Tab ((w.alloc (.cells c1 t1)).alloc (.cells c2 t2)).drew b n M := hM.kept (by
      show ((w.alloc (.cells c1 t1)).alloc (.cells c2 t2)).heap[b]? = _
      have := hM.lt
      rw [Below.heap_alloc _ _ _ (by simp; omega), Below.heap_alloc _ _ _ this])
    exact run_look q u0 u1 u2 hv hs
  clear ht hM hv hs u0 u1 u2
  go_enter Try.func45, Try.ntmps45
  go_wp2
  go_region
  all_goals go_wp2
  all_goals refine bodyPost_ret (v := .tuple #[.agg #[.int .i64 x0, .int .i64 x1, .int .i64 x2, .int .i64 x3, .int .i64 x4, .int .i64 x5], .bool s]) (by simp [results, Try.results45, go_sem]) rfl ⟨rfl, ?_⟩
  all_goals (with_reducible repeat (first | exact Below.refl _ _ | apply below_alloc | apply below_drew1 | refine below_set ?_ (by simp)))
theorem fund_Get.calls (w : World) (f t b n : Nat) (M : Rowmap) (k0 k1 k2 x0 x1 x2 x3 x4 x5 : Int) (s : Bool) (hf : w.heap[f]? = some (.cells #[.pointer (some ⟨t, 0, none⟩)] 66 (0, 0))) (ht : w.heap[t]? = some (.cells #[.map (some b)] 92 (0, 0))) (hM : Tab w b n M)
    (u0 : U8 k0) (u1 : U8 k1) (u2 : U8 k2) (hv : (M (k0, k1, k2)).getD F6.zero = (x0, x1, x2, x3, x4, x5)) (hs : (M (k0, k1, k2)).isSome = s) :
    Calls Try.prog 27 #[.pointer (some ⟨f, 0, none⟩), .agg #[.int .u8 k0, .int .u8 k1, .int .u8 k2]] w fun e w' =>
      e = .returned (.tuple #[.agg #[.int .i64 x0, .int .i64 x1, .int .i64 x2, .int .i64 x3, .int .i64 x4, .int .i64 x5], .bool s]) ∧ Below w.heap.size w w' := by
  have hc : w.cell? ⟨f, 0, none⟩ = some (.pointer (some ⟨t, 0, none⟩)) := blk_cell hf 0
  have hlt := World.block_lt_of_cell? _ _ hc
  have hg : ∀ W, Below w.heap.size w W → Calls Try.prog 45 #[.pointer (some ⟨t, 0, none⟩), .agg #[.int .u8 k0, .int .u8 k1, .int .u8 k2]] W fun e w' =>
      e = .returned (.tuple #[.agg #[.int .i64 x0, .int .i64 x1, .int .i64 x2, .int .i64 x3, .int .i64 x4, .int .i64 x5], .bool s]) ∧ Below W.heap.size W w' :=
    fun W hW => table_Get.calls W t b n M k0 k1 k2 x0 x1 x2 x3 x4 x5 s (blk_below ht hW) (hM.kept (hW.block b hM.lt)) u0 u1 u2 hv hs
  have HG := Aside0.mk hg
  have HF := Aside0.mk hf
  clear ht hM hv hs u0 u1 u2 hg hf
  go_enter Try.func27, Try.ntmps27
  go_wp2
  go_region_with (first | (go_at_call 44; ((with_reducible refine (fund_all.calls _ f t (blk_drew (blk_alloc (blk_alloc HF.out _) _))).mono ?_); rintro e w' ⟨rfl, rfl⟩)) | (go_at_call 45; ((with_reducible refine (HG.out _ (below_drew1 (below_alloc (below_alloc (Below.refl _ _) _) _))).mono ?_); rintro e w1 ⟨rfl, hb⟩; obtain ⟨hcc, hff⟩ := bcell hb)))
  all_goals go_wp2
  all_goals (try refine bodyPost_ret (v := .tuple #[.agg #[.int .i64 x0, .int .i64 x1, .int .i64 x2, .int .i64 x3, .int .i64 x4, .int .i64 x5], .bool s]) (by simp [results, Try.results27, go_sem, hcc]) rfl ⟨rfl, ?_⟩)
  all_goals (have h3 : Below w.heap.size w w1 := below_step (below_drew1 (below_alloc (below_alloc (Below.refl _ _) _) _)) hb)
  all_goals (with_reducible repeat (first | exact h3 | apply below_alloc | apply below_drew1 | refine below_set ?_ (by simp)))
end Go.Proofs.Ytnipjfciphgfjaa.V
/- The walks of a table's Put and of a fund's grants. -/
namespace Go.Proofs.Ytnipjfciphgfjaa.V
open Go.RowKit Go.Proofs.Ytnipjfciphgfjaa.G Go.Proofs.YtnipjfciphgfjaaW.PrintWords Go.Proofs.YtnipjfciphgfjaaW.PrintLast Go.Proofs.YtnipjfciphgfjaaW.PrintMore
set_option linter.unusedVariables false
set_option linter.unusedSimpArgs false
set_option maxHeartbeats 2000000
set_option maxRecDepth 100000
theorem map_made (b : Nat) (W : World) : (binOp BinOp.eql 90 (.map (some b)) (.map none)).run Try.prog W = .ok (.bool false) W := by
  have h := run_equal_map_nil (P := Try.prog) W 90 25 64 (some b) Try.underlying90
  simp [binOp, Result.andThen, h]
theorem grown_turned {w W W' : World} {b : Nat} (h : Below w.heap.size w W) (ht : W.mapTurned W' b) : w.grownBy W' (some b) := by
  have g := ht.grown
  exact ⟨g.os.trans h.os, g.tape.trans h.tape, g.output.trans h.output, Nat.le_trans h.size g.size, fun i hi hr => (g.block i (Nat.lt_of_lt_of_le hi h.size) hr).trans (h.block i hi)⟩
theorem table_Put.calls (w : World) (t b n : Nat) (M : Rowmap) (k0 k1 k2 x0 x1 x2 x3 x4 x5 : Int) (ht : w.heap[t]? = some (.cells #[.map (some b)] 92 (0, 0))) (hM : Tab w b n M) (hn : n < maxLen)
    (u0 : U8 k0) (u1 : U8 k1) (u2 : U8 k2) :
    Calls Try.prog 23 #[.pointer (some ⟨t, 0, none⟩), .agg #[.int .u8 k0, .int .u8 k1, .int .u8 k2], .agg #[.int .i64 x0, .int .i64 x1, .int .i64 x2, .int .i64 x3, .int .i64 x4, .int .i64 x5]] w fun e w' =>
      e = .returned (.tuple #[]) ∧ w.grownBy w' (some b) ∧ Tab w' b (n + 1) (M.put (k0, k1, k2) (x0, x1, x2, x3, x4, x5)) := by
  have hc : w.cell? ⟨t, 0, none⟩ = some (.map (some b)) := blk_cell ht 0
  have hlt := World.block_lt_of_cell? _ _ hc
  have q : ∀ c1 c2 t1 t2, Tab ((w.alloc (.cells c1 t1)).alloc (.cells c2 t2)).drew b n M := fun c1 c2 t1 t2 => hM.kept (by
    show ((w.alloc (.cells c1 t1)).alloc (.cells c2 t2)).heap[b]? = _
    have := hM.lt
    rw [Below.heap_alloc _ _ _ (by simp; omega), Below.heap_alloc _ _ _ this])
  have hl : ∀ c1 c2 t1 t2, (Instr.mapUpdate 90 (.map (some b)) (.agg #[.int .u8 k0, .int .u8 k1, .int .u8 k2]) (.agg #[.int .i64 x0, .int .i64 x1, .int .i64 x2, .int .i64 x3, .int .i64 x4, .int .i64 x5])).run Try.prog ((w.alloc (.cells c1 t1)).alloc (.cells c2 t2)).drew = _ :=
    fun c1 c2 t1 t2 => run_putW (q c1 c2 t1 t2) hn u0 u1 u2 x0 x1 x2 x3 x4 x5
  have hp := fun c1 c2 t1 t2 => putW_tab (q c1 c2 t1 t2) hn u0 u1 u2 x0 x1 x2 x3 x4 x5
  have HP := Aside0.mk hp
  have hmm := map_made b
  clear ht hM u0 u1 u2 q hp
  go_enter Try.func23, Try.ntmps23
  go_wp2
  go_region
  all_goals go_wp2
  all_goals (obtain ⟨h1, h2⟩ := HP.out #[.int .u8 k0, .int .u8 k1, .int .u8 k2] #[.int .i64 x0, .int .i64 x1, .int .i64 x2, .int .i64 x3, .int .i64 x4, .int .i64 x5] 25 64)
  all_goals refine bodyPost_end (v := .tuple #[]) (by simp [results, Try.results23, go_sem]) rfl ⟨rfl, ?_, h1⟩
  all_goals exact grown_turned (below_drew1 (below_alloc (below_alloc (Below.refl _ _) _) _)) h2
end Go.Proofs.Ytnipjfciphgfjaa.V
/- The walks of a fund's grants. -/
namespace Go.Proofs.Ytnipjfciphgfjaa.V
open Go.RowKit Go.Proofs.Ytnipjfciphgfjaa.G Go.Proofs.YtnipjfciphgfjaaW.PrintWords Go.Proofs.YtnipjfciphgfjaaW.PrintLast Go.Proofs.YtnipjfciphgfjaaW.PrintMore
set_option linter.unusedVariables false
set_option linter.unusedSimpArgs false
set_option maxHeartbeats 2000000
set_option maxRecDepth 100000
theorem fund_by.calls (w : World) (g : FuncId) (d : Int) :
    Calls Try.prog 25 #[.func (.func g) #[] #[], .int .i64 d] w fun e w' =>
      e = .returned (.func (.func 41) #[] #[.pointer (some ⟨w.heap.size, 0, none⟩), .pointer (some ⟨w.heap.size + 1, 0, none⟩)]) ∧ w' = (w.alloc (.cells #[.func (.func g) #[] #[]] 73 (0, 0))).alloc (.cells #[.int .i64 d] 2 (0, 0)) := by
  go_enter Try.func25, Try.ntmps25
  go_wp2
  refine bodyPost_ret (v := .func (.func 41) #[] #[.pointer (some ⟨w.heap.size, 0, none⟩), .pointer (some ⟨w.heap.size + 1, 0, none⟩)]) (by simp [results, Try.results25, go_sem]) rfl ⟨rfl, rfl⟩
/-- What a field's call makes, whatever the world. -/
def Makes (g : FuncId) (x : F6) (d : Int) (y : F6) (c : Int) : Prop :=
  ∀ w, Calls Try.prog g #[fv x, .int .i64 d] w fun e w' => e = .returned (.tuple #[fv y, .int .i64 c]) ∧ Below w.heap.size w w'
theorem by_one.calls (w : World) (g : FuncId) (hg : g = 26 ∨ g = 38 ∨ g = 39) (p q : Nat) (x0 x1 x2 x3 x4 x5 d y0 y1 y2 y3 y4 y5 c : Int) (hp : w.heap[p]? = some (.cells #[.func (.func g) #[] #[]] 73 (0, 0))) (hq : w.heap[q]? = some (.cells #[.int .i64 d] 2 (0, 0)))
    (hm : Makes g (x0, x1, x2, x3, x4, x5) d (y0, y1, y2, y3, y4, y5) c) :
    Calls Try.prog 41 #[.agg #[.int .i64 x0, .int .i64 x1, .int .i64 x2, .int .i64 x3, .int .i64 x4, .int .i64 x5], .pointer (some ⟨p, 0, none⟩), .pointer (some ⟨q, 0, none⟩)] w fun e w' =>
      e = .returned (.tuple #[.agg #[.int .i64 y0, .int .i64 y1, .int .i64 y2, .int .i64 y3, .int .i64 y4, .int .i64 y5], .int .i64 c]) ∧ Below w.heap.size w w' := by
  have c1 : w.cell? ⟨p, 0, none⟩ = some (.func (.func g) #[] #[]) := blk_cell hp 0
  have c2 : w.cell? ⟨q, 0, none⟩ = some (.int .i64 d) := blk_cell hq 0
  have l1 := World.block_lt_of_cell? _ _ c1
  have l2 := World.block_lt_of_cell? _ _ c2
  have HM : Aside0 (∀ W : World, Calls Try.prog g #[.agg #[.int .i64 x0, .int .i64 x1, .int .i64 x2, .int .i64 x3, .int .i64 x4, .int .i64 x5], .int .i64 d] W fun e w' => e = .returned (.tuple #[.agg #[.int .i64 y0, .int .i64 y1, .int .i64 y2, .int .i64 y3, .int .i64 y4, .int .i64 y5], .int .i64 c]) ∧ Below W.heap.size W w') := ⟨hm⟩
  clear hm hp hq
  rcases hg with rfl | rfl | rfl
  all_goals
    go_enter Try.func41, Try.ntmps41
    go_wp2_with (first | (go_at_call 26; ((with_reducible refine (HM.out _).mono ?_); rintro e w1 ⟨rfl, hb⟩; obtain ⟨hcc, hff⟩ := bcell hb; have hz : w.heap.size + 1 < w1.heap.size := (by have := hb.size; simp at this; omega))) | (go_at_call 38; ((with_reducible refine (HM.out _).mono ?_); rintro e w1 ⟨rfl, hb⟩; obtain ⟨hcc, hff⟩ := bcell hb; have hz : w.heap.size + 1 < w1.heap.size := (by have := hb.size; simp at this; omega))) | (go_at_call 39; ((with_reducible refine (HM.out _).mono ?_); rintro e w1 ⟨rfl, hb⟩; obtain ⟨hcc, hff⟩ := bcell hb; have hz : w.heap.size + 1 < w1.heap.size := (by have := hb.size; simp at this; omega))))
    refine bodyPost_ret (v := .tuple #[.agg #[.int .i64 y0, .int .i64 y1, .int .i64 y2, .int .i64 y3, .int .i64 y4, .int .i64 y5], .int .i64 c]) (by simp [results, Try.results41, go_sem, hcc, hz]) rfl ⟨rfl, ?_⟩
    have h3 : Below w.heap.size w w1 := below_step (below_alloc (below_alloc (Below.refl _ _) _) _) hb
    (with_reducible repeat (first | exact h3 | apply below_alloc | apply below_drew1 | refine below_set ?_ (by simp)))
end Go.Proofs.Ytnipjfciphgfjaa.V
/- The walk of a fund's change. -/
namespace Go.Proofs.Ytnipjfciphgfjaa.V
open Go.RowKit Go.Proofs.Ytnipjfciphgfjaa.G Go.Proofs.YtnipjfciphgfjaaW.PrintWords Go.Proofs.YtnipjfciphgfjaaW.PrintLast Go.Proofs.YtnipjfciphgfjaaW.PrintMore
set_option linter.unusedVariables false
set_option linter.unusedSimpArgs false
set_option maxHeartbeats 2000000
set_option maxRecDepth 100000
/-- A fund: its block, its table's, the map's. -/
structure IsFund (w : World) (f t b n : Nat) (M : Rowmap) : Prop where
  fund : w.heap[f]? = some (.cells #[.pointer (some ⟨t, 0, none⟩)] 66 (0, 0))
  table : w.heap[t]? = some (.cells #[.map (some b)] 92 (0, 0))
  map : Tab w b n M
theorem IsFund.below {w W : World} {f t b n : Nat} {M : Rowmap} (h : IsFund w f t b n M) (hb : Below w.heap.size w W) : IsFund W f t b n M :=
  ⟨blk_below h.fund hb, blk_below h.table hb, h.map.kept (hb.block b h.map.lt)⟩
theorem IsFund.mono {w : World} {f t b n m : Nat} {M : Rowmap} (h : IsFund w f t b n M) (hn : n ≤ m) : IsFund w f t b m M := ⟨h.fund, h.table, h.map.mono hn⟩
theorem IsFund.apart {w : World} {f t b n : Nat} {M : Rowmap} (h : IsFund w f t b n M) : f ≠ b ∧ t ≠ b := by
  obtain ⟨D, ⟨es, clock, hb, _⟩, _⟩ := h.map
  refine ⟨?_, ?_⟩ <;> rintro rfl
  · have := h.fund.symm.trans hb; simp at this
  · have := h.table.symm.trans hb; simp at this
theorem IsFund.grown {w W : World} {f t b n m : Nat} {M M' : Rowmap} (h : IsFund w f t b n M) (hg : w.grownBy W (some b)) (ht : Tab W b m M') : IsFund W f t b m M' :=
  ⟨blk_grown h.fund hg (by simpa using h.apart.1), blk_grown h.table hg (by simpa using h.apart.2), ht⟩
theorem grown_of_below {w W : World} (h : Below w.heap.size w W) (b : Nat) : w.grownBy W (some b) := ⟨h.os, h.tape, h.output, h.size, fun i hi _ => h.block i hi⟩
/-- A key of which there is no field. -/
theorem change_none (w : World) (f t b n p q : Nat) (M : Rowmap) (k0 k1 k2 : Int) (hF : IsFund w f t b n M) (u0 : U8 k0) (u1 : U8 k1) (u2 : U8 k2) (hM : M (k0, k1, k2) = none) :
    Calls Try.prog 24 #[.pointer (some ⟨f, 0, none⟩), .agg #[.int .u8 k0, .int .u8 k1, .int .u8 k2], .func (.func 41) #[] #[.pointer (some ⟨p, 0, none⟩), .pointer (some ⟨q, 0, none⟩)]] w fun e w' =>
      e = .returned (.int .i64 10) ∧ Below w.heap.size w w' := by
  have hg : ∀ W, Below w.heap.size w W → Calls Try.prog 27 #[.pointer (some ⟨f, 0, none⟩), .agg #[.int .u8 k0, .int .u8 k1, .int .u8 k2]] W fun e w' =>
      e = .returned (.tuple #[.agg #[.int .i64 0, .int .i64 0, .int .i64 0, .int .i64 0, .int .i64 0, .int .i64 0], .bool false]) ∧ Below W.heap.size W w' :=
    fun W hW => fund_Get.calls W f t b n M k0 k1 k2 0 0 0 0 0 0 false (hF.below hW).fund (hF.below hW).table (hF.below hW).map u0 u1 u2 (by rw [hM]; rfl) (by rw [hM]; rfl)
  have HG := Aside0.mk hg
  clear hg hF u0 u1 u2 hM
  go_enter Try.func24, Try.ntmps24
  go_wp2_with (go_at_call 27; ((with_reducible refine (HG.out _ (below_alloc (Below.refl _ _) _)).mono ?_); rintro e w1 ⟨rfl, hb⟩; obtain ⟨hcc, hff⟩ := bcell hb))
  refine bodyPost_ret (v := .int .i64 10) (by simp [results, Try.results24, go_sem]) rfl ⟨rfl, ?_⟩
  have h3 : Below w.heap.size w w1 := below_step (below_alloc (Below.refl _ _) _) hb
  have h4 := h3.size
  (with_reducible repeat (first | exact h3 | apply below_alloc | apply below_drew1 | refine below_set ?_ (by simpa using h4)))
/-- A field that is changed. -/
theorem change_some (w : World) (f t b n p q : Nat) (M : Rowmap) (k0 k1 k2 : Int) (g : FuncId) (hg : g = 26 ∨ g = 38 ∨ g = 39) (x0 x1 x2 x3 x4 x5 d y0 y1 y2 y3 y4 y5 c : Int) (hF : IsFund w f t b n M) (hn : n < maxLen) (u0 : U8 k0) (u1 : U8 k1) (u2 : U8 k2)
    (hM : M (k0, k1, k2) = some (x0, x1, x2, x3, x4, x5)) (hp : w.heap[p]? = some (.cells #[.func (.func g) #[] #[]] 73 (0, 0))) (hq : w.heap[q]? = some (.cells #[.int .i64 d] 2 (0, 0))) (hm : Makes g (x0, x1, x2, x3, x4, x5) d (y0, y1, y2, y3, y4, y5) c) :
    Calls Try.prog 24 #[.pointer (some ⟨f, 0, none⟩), .agg #[.int .u8 k0, .int .u8 k1, .int .u8 k2], .func (.func 41) #[] #[.pointer (some ⟨p, 0, none⟩), .pointer (some ⟨q, 0, none⟩)]] w fun e w' =>
      e = .returned (.int .i64 c) ∧ w.grownBy w' (some b) ∧ IsFund w' f t b (n + 1) (if c = 0 then M.put (k0, k1, k2) (y0, y1, y2, y3, y4, y5) else M) := by
  have hget : ∀ W, Below w.heap.size w W → Calls Try.prog 27 #[.pointer (some ⟨f, 0, none⟩), .agg #[.int .u8 k0, .int .u8 k1, .int .u8 k2]] W fun e w' =>
      e = .returned (.tuple #[.agg #[.int .i64 x0, .int .i64 x1, .int .i64 x2, .int .i64 x3, .int .i64 x4, .int .i64 x5], .bool true]) ∧ Below W.heap.size W w' :=
    fun W hW => fund_Get.calls W f t b n M k0 k1 k2 x0 x1 x2 x3 x4 x5 true (hF.below hW).fund (hF.below hW).table (hF.below hW).map u0 u1 u2 (by rw [hM]; rfl) (by rw [hM]; rfl)
  have hby : ∀ W, Below w.heap.size w W → Calls Try.prog 41 #[.agg #[.int .i64 x0, .int .i64 x1, .int .i64 x2, .int .i64 x3, .int .i64 x4, .int .i64 x5], .pointer (some ⟨p, 0, none⟩), .pointer (some ⟨q, 0, none⟩)] W fun e w' =>
      e = .returned (.tuple #[.agg #[.int .i64 y0, .int .i64 y1, .int .i64 y2, .int .i64 y3, .int .i64 y4, .int .i64 y5], .int .i64 c]) ∧ Below W.heap.size W w' :=
    fun W hW => by_one.calls W g hg p q x0 x1 x2 x3 x4 x5 d y0 y1 y2 y3 y4 y5 c (blk_below hp hW) (blk_below hq hW) hm
  have hput : ∀ W, Below w.heap.size w W → Calls Try.prog 23 #[.pointer (some ⟨t, 0, none⟩), .agg #[.int .u8 k0, .int .u8 k1, .int .u8 k2], .agg #[.int .i64 y0, .int .i64 y1, .int .i64 y2, .int .i64 y3, .int .i64 y4, .int .i64 y5]] W fun e w' =>
      e = .returned (.tuple #[]) ∧ w.grownBy w' (some b) ∧ IsFund w' f t b (n + 1) (M.put (k0, k1, k2) (y0, y1, y2, y3, y4, y5)) :=
    fun W hW => (table_Put.calls W t b n M k0 k1 k2 y0 y1 y2 y3 y4 y5 (hF.below hW).table (hF.below hW).map hn u0 u1 u2).mono (fun e w' ⟨e1, e2, e3⟩ => by
      have g : w.grownBy w' (some b) := ⟨e2.os.trans hW.os, e2.tape.trans hW.tape, e2.output.trans hW.output, Nat.le_trans hW.size e2.size, fun i hi hr => (e2.block i (Nat.lt_of_lt_of_le hi hW.size) hr).trans (hW.block i hi)⟩
      exact ⟨e1, g, hF.grown g e3⟩)
  have hc : w.cell? ⟨f, 0, none⟩ = some (.pointer (some ⟨t, 0, none⟩)) := blk_cell hF.fund 0
  have hlt := World.block_lt_of_cell? _ _ hc
  have HGET := Aside0.mk hget
  have HBY := Aside0.mk hby
  have HPUT := Aside0.mk hput
  have HF := Aside0.mk hF
  clear hget hby hput hF hp hq hm hM hg u0 u1 u2
  by_cases h0 : c = 0
  · subst h0
    rw [if_pos rfl]
    go_enter Try.func24, Try.ntmps24
    go_wp2_with (first | (go_at_call 27; ((with_reducible refine (HGET.out _ (below_alloc (Below.refl _ _) _)).mono ?_); rintro e w1 ⟨rfl, hb⟩; have h3 : Below w.heap.size w w1 := below_step (below_alloc (Below.refl _ _) _) hb; obtain ⟨hcc, hff⟩ := bcell hb; have hz1 : w.heap.size < w1.heap.size := (by have := hb.size; simp at this; omega))) | (go_at_call 41; ((with_reducible refine (HBY.out _ (below_alloc h3 _)).mono ?_); rintro e w2 ⟨rfl, hb2⟩; obtain ⟨hcc2, hff2⟩ := bcell hb2; have h4 : Below w.heap.size w w2 := below_step (below_alloc h3 _) hb2; have hz2 : w1.heap.size < w2.heap.size := (by have := hb2.size; simp at this; omega))))
    have kf : w2.cell? ⟨f, 0, none⟩ = some (.pointer (some ⟨t, 0, none⟩)) := (h4.cell hlt).trans hc
    have hz3 : f < w2.heap.size := Nat.lt_of_lt_of_le hlt h4.size
    have hz4 : w.heap.size < w2.heap.size := Nat.lt_trans hz1 hz2
    have j0 : w1.cell? ⟨w.heap.size, 0, none⟩ = some (.int .u8 k0) := by simp [hcc, go_sem]
    have j1 : w1.cell? ⟨w.heap.size, 1, none⟩ = some (.int .u8 k1) := by simp [hcc, go_sem]
    have j2 : w1.cell? ⟨w.heap.size, 2, none⟩ = some (.int .u8 k2) := by simp [hcc, go_sem]
    have i0 : w2.cell? ⟨w.heap.size, 0, none⟩ = some (.int .u8 k0) := by simp [hcc2, go_sem, j0, hz1, Nat.lt_succ_of_lt hz1]
    have i1 : w2.cell? ⟨w.heap.size, 1, none⟩ = some (.int .u8 k1) := by simp [hcc2, go_sem, j1, hz1, Nat.lt_succ_of_lt hz1]
    have i2 : w2.cell? ⟨w.heap.size, 2, none⟩ = some (.int .u8 k2) := by simp [hcc2, go_sem, j2, hz1, Nat.lt_succ_of_lt hz1]
    clear hcc hff hcc2 hff2 hb hb2 j0 j1 j2
    go_region_with (go_at_call 23; ((with_reducible refine (HPUT.out _ (below_drew1 (below_alloc h4 _))).mono ?_); rintro e w3 ⟨rfl, hg3, hF3⟩))
    all_goals go_wp2
    all_goals refine bodyPost_ret (v := .int .i64 0) (by simp [results, Try.results24, go_sem]) rfl ⟨rfl, hg3, hF3⟩
  · rw [if_neg h0]
    have hd : (c == 0) = false := by simpa using h0
    have hd2 : decide (c = 0) = false := decide_eq_false h0
    go_enter Try.func24, Try.ntmps24
    go_wp2_with (first | (go_at_call 27; ((with_reducible refine (HGET.out _ (below_alloc (Below.refl _ _) _)).mono ?_); rintro e w1 ⟨rfl, hb⟩; have h3 : Below w.heap.size w w1 := below_step (below_alloc (Below.refl _ _) _) hb; obtain ⟨hcc, hff⟩ := bcell hb; have hz1 : w.heap.size < w1.heap.size := (by have := hb.size; simp at this; omega))) | (go_at_call 41; ((with_reducible refine (HBY.out _ (below_alloc h3 _)).mono ?_); rintro e w2 ⟨rfl, hb2⟩; obtain ⟨hcc2, hff2⟩ := bcell hb2; have h4 : Below w.heap.size w w2 := below_step (below_alloc h3 _) hb2; have hz2 : w1.heap.size < w2.heap.size := (by have := hb2.size; simp at this; omega))))
    refine bodyPost_ret (v := .int .i64 c) (by simp [results, Try.results24, go_sem]) rfl ⟨rfl, ?_⟩
    have h5 : Below w.heap.size w w2 := h4
    have h6 := h5.size
    have h7 : Below w.heap.size w (w2.alloc (.cells #[.int .i64 y0, .int .i64 y1, .int .i64 y2, .int .i64 y3, .int .i64 y4, .int .i64 y5] 64 (0, 0))) := below_alloc h4 _
    exact ⟨grown_of_below h7 b, (HF.out.below h7).mono (Nat.le_succ n)⟩
end Go.Proofs.Ytnipjfciphgfjaa.V
/- The walks of a fund's Grant, Settle and Undo. -/
namespace Go.Proofs.Ytnipjfciphgfjaa.V
open Go.RowKit Go.Proofs.Ytnipjfciphgfjaa.G Go.Proofs.YtnipjfciphgfjaaW.PrintWords Go.Proofs.YtnipjfciphgfjaaW.PrintLast Go.Proofs.YtnipjfciphgfjaaW.PrintMore
set_option linter.unusedVariables false
set_option linter.unusedSimpArgs false
set_option maxHeartbeats 2000000
set_option maxRecDepth 100000
/-- What a call makes of what a fund holds: the new rows, and the error's number. -/
def stepOf (how : F6 → Int → F6 × Int) (M : Rowmap) (k : Int × Int × Int) (d : Int) : Rowmap × Int :=
  match M k with
  | none => (M, 10)
  | some x => if (how x d).2 = 0 then (M.put k (how x d).1, 0) else (M, (how x d).2)
theorem change.calls (how : F6 → Int → F6 × Int) (w : World) (f t b n p q : Nat) (M : Rowmap) (k0 k1 k2 d : Int) (g : FuncId) (hg : g = 26 ∨ g = 38 ∨ g = 39) (hF : IsFund w f t b n M) (hn : n < maxLen) (u0 : U8 k0) (u1 : U8 k1) (u2 : U8 k2)
    (hp : w.heap[p]? = some (.cells #[.func (.func g) #[] #[]] 73 (0, 0))) (hq : w.heap[q]? = some (.cells #[.int .i64 d] 2 (0, 0))) (hm : ∀ x, M (k0, k1, k2) = some x → Makes g x d (how x d).1 (how x d).2) :
    Calls Try.prog 24 #[.pointer (some ⟨f, 0, none⟩), .agg #[.int .u8 k0, .int .u8 k1, .int .u8 k2], .func (.func 41) #[] #[.pointer (some ⟨p, 0, none⟩), .pointer (some ⟨q, 0, none⟩)]] w fun e w' =>
      e = .returned (.int .i64 (stepOf how M (k0, k1, k2) d).2) ∧ w.grownBy w' (some b) ∧ IsFund w' f t b (n + 1) (stepOf how M (k0, k1, k2) d).1 := by
  unfold stepOf
  cases hM : M (k0, k1, k2) with
  | none => exact (change_none w f t b n p q M k0 k1 k2 hF u0 u1 u2 hM).mono fun e w' ⟨e1, e2⟩ => ⟨e1, grown_of_below e2 b, (hF.below e2).mono (Nat.le_succ n)⟩
  | some x =>
    have h := hm x hM
    obtain ⟨x0, x1, x2, x3, x4, x5⟩ := x
    generalize hy : how (x0, x1, x2, x3, x4, x5) d = yc at h ⊢
    obtain ⟨⟨y0, y1, y2, y3, y4, y5⟩, c⟩ := yc
    refine (change_some w f t b n p q M k0 k1 k2 g hg x0 x1 x2 x3 x4 x5 d y0 y1 y2 y3 y4 y5 c hF hn u0 u1 u2 hM hp hq h).mono fun e w' ⟨e1, e2, e3⟩ => ?_
    by_cases h0 : c = 0
    · rw [if_pos h0] at e3
      simp only [hy, h0, if_true]
      subst h0
      exact ⟨e1, e2, e3⟩
    · rw [if_neg h0] at e3
      simp only [hy, h0, if_false]
      exact ⟨e1, e2, e3⟩
theorem fund_Grant.calls (how : F6 → Int → F6 × Int) (w : World) (f t b n : Nat) (M : Rowmap) (k0 k1 k2 d : Int) (hF : IsFund w f t b n M) (hn : n < maxLen) (u0 : U8 k0) (u1 : U8 k1) (u2 : U8 k2)
    (hm : ∀ x, M (k0, k1, k2) = some x → Makes 26 x d (how x d).1 (how x d).2) :
    Calls Try.prog 8 #[.pointer (some ⟨f, 0, none⟩), .agg #[.int .u8 k0, .int .u8 k1, .int .u8 k2, .int .i64 d]] w fun e w' =>
      e = .returned (.int .i64 (stepOf how M (k0, k1, k2) d).2) ∧ w.grownBy w' (some b) ∧ IsFund w' f t b (n + 1) (stepOf how M (k0, k1, k2) d).1 := by
  have hc : ∀ W p q, Below w.heap.size w W → W.heap[p]? = some (.cells #[.func (.func 26) #[] #[]] 73 (0, 0)) → W.heap[q]? = some (.cells #[.int .i64 d] 2 (0, 0)) →
      Calls Try.prog 24 #[.pointer (some ⟨f, 0, none⟩), .agg #[.int .u8 k0, .int .u8 k1, .int .u8 k2], .func (.func 41) #[] #[.pointer (some ⟨p, 0, none⟩), .pointer (some ⟨q, 0, none⟩)]] W fun e w' =>
      e = .returned (.int .i64 (stepOf how M (k0, k1, k2) d).2) ∧ w.grownBy w' (some b) ∧ IsFund w' f t b (n + 1) (stepOf how M (k0, k1, k2) d).1 := fun W p q hW h1 h2 =>
    (change.calls how W f t b n p q M k0 k1 k2 d 26 (by decide) (hF.below hW) hn u0 u1 u2 h1 h2 hm).mono fun e w' ⟨e1, e2, e3⟩ =>
      ⟨e1, ⟨e2.os.trans hW.os, e2.tape.trans hW.tape, e2.output.trans hW.output, Nat.le_trans hW.size e2.size, fun i hi hr => (e2.block i (Nat.lt_of_lt_of_le hi hW.size) hr).trans (hW.block i hi)⟩, e3⟩
  generalize stepOf how M (k0, k1, k2) d = S at hc ⊢
  have hc2 : ∀ o : Obj, Calls Try.prog 24 #[.pointer (some ⟨f, 0, none⟩), .agg #[.int .u8 k0, .int .u8 k1, .int .u8 k2], .func (.func 41) #[] #[.pointer (some ⟨w.heap.size + 1, 0, none⟩), .pointer (some ⟨w.heap.size + 1 + 1, 0, none⟩)]]
      (((w.alloc o).alloc (.cells #[.func (.func 26) #[] #[]] 73 (0, 0))).alloc (.cells #[.int .i64 d] 2 (0, 0))).drew fun e w' =>
      e = .returned (.int .i64 S.2) ∧ w.grownBy w' (some b) ∧ IsFund w' f t b (n + 1) S.1 := fun o =>
    hc _ _ _ (below_drew1 (below_alloc (below_alloc (below_alloc (Below.refl _ _) _) _) _)) (by
      have z := blk_drew (blk_alloc (blk_new (w.alloc o) (.cells #[.func (.func 26) #[] #[]] 73 (0, 0))) (.cells #[.int .i64 d] 2 (0, 0)))
      simpa using z) (by
      have z := blk_drew (blk_new ((w.alloc o).alloc (.cells #[.func (.func 26) #[] #[]] 73 (0, 0))) (.cells #[.int .i64 d] 2 (0, 0)))
      simpa using z)
  have HC := Aside0.mk hc2
  clear hc2
  clear hc hF u0 u1 u2 hm
  go_enter Try.func8, Try.ntmps8
  go_wp2
  go_region_with (first | (go_at_call 25; ((with_reducible refine (fund_by.calls _ _ _).mono ?_); rintro e w' ⟨rfl, rfl⟩)) | (go_at_call 24; ((with_reducible refine (HC.out _).mono ?_); rintro e w1 ⟨rfl, hg1, hF1⟩)))
  all_goals go_wp2
  all_goals refine bodyPost_ret (v := .int .i64 S.2) (by simp [results, Try.results8, go_sem]) rfl ⟨rfl, hg1, hF1⟩
theorem fund_Settle.calls (how : F6 → Int → F6 × Int) (w : World) (f t b n : Nat) (M : Rowmap) (k0 k1 k2 d : Int) (hF : IsFund w f t b n M) (hn : n < maxLen) (u0 : U8 k0) (u1 : U8 k1) (u2 : U8 k2)
    (hm : ∀ x, M (k0, k1, k2) = some x → Makes 38 x d (how x d).1 (how x d).2) :
    Calls Try.prog 19 #[.pointer (some ⟨f, 0, none⟩), .agg #[.int .u8 k0, .int .u8 k1, .int .u8 k2, .int .i64 d]] w fun e w' =>
      e = .returned (.int .i64 (stepOf how M (k0, k1, k2) d).2) ∧ w.grownBy w' (some b) ∧ IsFund w' f t b (n + 1) (stepOf how M (k0, k1, k2) d).1 := by
  have hc : ∀ W p q, Below w.heap.size w W → W.heap[p]? = some (.cells #[.func (.func 38) #[] #[]] 73 (0, 0)) → W.heap[q]? = some (.cells #[.int .i64 d] 2 (0, 0)) →
      Calls Try.prog 24 #[.pointer (some ⟨f, 0, none⟩), .agg #[.int .u8 k0, .int .u8 k1, .int .u8 k2], .func (.func 41) #[] #[.pointer (some ⟨p, 0, none⟩), .pointer (some ⟨q, 0, none⟩)]] W fun e w' =>
      e = .returned (.int .i64 (stepOf how M (k0, k1, k2) d).2) ∧ w.grownBy w' (some b) ∧ IsFund w' f t b (n + 1) (stepOf how M (k0, k1, k2) d).1 := fun W p q hW h1 h2 =>
    (change.calls how W f t b n p q M k0 k1 k2 d 38 (by decide) (hF.below hW) hn u0 u1 u2 h1 h2 hm).mono fun e w' ⟨e1, e2, e3⟩ =>
      ⟨e1, ⟨e2.os.trans hW.os, e2.tape.trans hW.tape, e2.output.trans hW.output, Nat.le_trans hW.size e2.size, fun i hi hr => (e2.block i (Nat.lt_of_lt_of_le hi hW.size) hr).trans (hW.block i hi)⟩, e3⟩
  generalize stepOf how M (k0, k1, k2) d = S at hc ⊢
  have hc2 : ∀ o : Obj, Calls Try.prog 24 #[.pointer (some ⟨f, 0, none⟩), .agg #[.int .u8 k0, .int .u8 k1, .int .u8 k2], .func (.func 41) #[] #[.pointer (some ⟨w.heap.size + 1, 0, none⟩), .pointer (some ⟨w.heap.size + 1 + 1, 0, none⟩)]]
      (((w.alloc o).alloc (.cells #[.func (.func 38) #[] #[]] 73 (0, 0))).alloc (.cells #[.int .i64 d] 2 (0, 0))).drew fun e w' =>
      e = .returned (.int .i64 S.2) ∧ w.grownBy w' (some b) ∧ IsFund w' f t b (n + 1) S.1 := fun o =>
    hc _ _ _ (below_drew1 (below_alloc (below_alloc (below_alloc (Below.refl _ _) _) _) _)) (by
      have z := blk_drew (blk_alloc (blk_new (w.alloc o) (.cells #[.func (.func 38) #[] #[]] 73 (0, 0))) (.cells #[.int .i64 d] 2 (0, 0)))
      simpa using z) (by
      have z := blk_drew (blk_new ((w.alloc o).alloc (.cells #[.func (.func 38) #[] #[]] 73 (0, 0))) (.cells #[.int .i64 d] 2 (0, 0)))
      simpa using z)
  have HC := Aside0.mk hc2
  clear hc2
  clear hc hF u0 u1 u2 hm
  go_enter Try.func19, Try.ntmps19
  go_wp2
  go_region_with (first | (go_at_call 25; ((with_reducible refine (fund_by.calls _ _ _).mono ?_); rintro e w' ⟨rfl, rfl⟩)) | (go_at_call 24; ((with_reducible refine (HC.out _).mono ?_); rintro e w1 ⟨rfl, hg1, hF1⟩)))
  all_goals go_wp2
  all_goals refine bodyPost_ret (v := .int .i64 S.2) (by simp [results, Try.results19, go_sem]) rfl ⟨rfl, hg1, hF1⟩
theorem fund_Undo.calls (how : F6 → Int → F6 × Int) (w : World) (f t b n : Nat) (M : Rowmap) (k0 k1 k2 d : Int) (hF : IsFund w f t b n M) (hn : n < maxLen) (u0 : U8 k0) (u1 : U8 k1) (u2 : U8 k2)
    (hm : ∀ x, M (k0, k1, k2) = some x → Makes 39 x d (how x d).1 (how x d).2) :
    Calls Try.prog 20 #[.pointer (some ⟨f, 0, none⟩), .agg #[.int .u8 k0, .int .u8 k1, .int .u8 k2, .int .i64 d]] w fun e w' =>
      e = .returned (.int .i64 (stepOf how M (k0, k1, k2) d).2) ∧ w.grownBy w' (some b) ∧ IsFund w' f t b (n + 1) (stepOf how M (k0, k1, k2) d).1 := by
  have hc : ∀ W p q, Below w.heap.size w W → W.heap[p]? = some (.cells #[.func (.func 39) #[] #[]] 73 (0, 0)) → W.heap[q]? = some (.cells #[.int .i64 d] 2 (0, 0)) →
      Calls Try.prog 24 #[.pointer (some ⟨f, 0, none⟩), .agg #[.int .u8 k0, .int .u8 k1, .int .u8 k2], .func (.func 41) #[] #[.pointer (some ⟨p, 0, none⟩), .pointer (some ⟨q, 0, none⟩)]] W fun e w' =>
      e = .returned (.int .i64 (stepOf how M (k0, k1, k2) d).2) ∧ w.grownBy w' (some b) ∧ IsFund w' f t b (n + 1) (stepOf how M (k0, k1, k2) d).1 := fun W p q hW h1 h2 =>
    (change.calls how W f t b n p q M k0 k1 k2 d 39 (by decide) (hF.below hW) hn u0 u1 u2 h1 h2 hm).mono fun e w' ⟨e1, e2, e3⟩ =>
      ⟨e1, ⟨e2.os.trans hW.os, e2.tape.trans hW.tape, e2.output.trans hW.output, Nat.le_trans hW.size e2.size, fun i hi hr => (e2.block i (Nat.lt_of_lt_of_le hi hW.size) hr).trans (hW.block i hi)⟩, e3⟩
  generalize stepOf how M (k0, k1, k2) d = S at hc ⊢
  have hc2 : ∀ o : Obj, Calls Try.prog 24 #[.pointer (some ⟨f, 0, none⟩), .agg #[.int .u8 k0, .int .u8 k1, .int .u8 k2], .func (.func 41) #[] #[.pointer (some ⟨w.heap.size + 1, 0, none⟩), .pointer (some ⟨w.heap.size + 1 + 1, 0, none⟩)]]
      (((w.alloc o).alloc (.cells #[.func (.func 39) #[] #[]] 73 (0, 0))).alloc (.cells #[.int .i64 d] 2 (0, 0))).drew fun e w' =>
      e = .returned (.int .i64 S.2) ∧ w.grownBy w' (some b) ∧ IsFund w' f t b (n + 1) S.1 := fun o =>
    hc _ _ _ (below_drew1 (below_alloc (below_alloc (below_alloc (Below.refl _ _) _) _) _)) (by
      have z := blk_drew (blk_alloc (blk_new (w.alloc o) (.cells #[.func (.func 39) #[] #[]] 73 (0, 0))) (.cells #[.int .i64 d] 2 (0, 0)))
      simpa using z) (by
      have z := blk_drew (blk_new ((w.alloc o).alloc (.cells #[.func (.func 39) #[] #[]] 73 (0, 0))) (.cells #[.int .i64 d] 2 (0, 0)))
      simpa using z)
  have HC := Aside0.mk hc2
  clear hc2
  clear hc hF u0 u1 u2 hm
  go_enter Try.func20, Try.ntmps20
  go_wp2
  go_region_with (first | (go_at_call 25; ((with_reducible refine (fund_by.calls _ _ _).mono ?_); rintro e w' ⟨rfl, rfl⟩)) | (go_at_call 24; ((with_reducible refine (HC.out _).mono ?_); rintro e w1 ⟨rfl, hg1, hF1⟩)))
  all_goals go_wp2
  all_goals refine bodyPost_ret (v := .int .i64 S.2) (by simp [results, Try.results20, go_sem]) rfl ⟨rfl, hg1, hF1⟩
end Go.Proofs.Ytnipjfciphgfjaa.V
/- The walks of what a view tells of one field. -/
namespace Go.Proofs.Ytnipjfciphgfjaa.V
open Go.RowKit Go.Proofs.Ytnipjfciphgfjaa.G Go.Proofs.YtnipjfciphgfjaaW.PrintWords Go.Proofs.YtnipjfciphgfjaaW.PrintLast Go.Proofs.YtnipjfciphgfjaaW.PrintMore
set_option linter.unusedVariables false
set_option linter.unusedSimpArgs false
set_option maxHeartbeats 2000000
set_option maxRecDepth 100000
theorem view_Free.calls (w : World) (f t b n : Nat) (M : Rowmap) (k0 k1 k2 x0 x1 x2 x3 x4 x5 r : Int) (hF : IsFund w f t b n M) (u0 : U8 k0) (u1 : U8 k1) (u2 : U8 k2) (hv : (M (k0, k1, k2)).getD F6.zero = (x0, x1, x2, x3, x4, x5)) (hr : view_far.f x0 x3 = some r) :
    Calls Try.prog 9 #[.pointer (some ⟨f, 0, none⟩), .agg #[.int .u8 k0, .int .u8 k1, .int .u8 k2]] w fun e w' => e = .returned (.int .i64 r) ∧ Below w.heap.size w w' := by
  have hg : ∀ W, Below w.heap.size w W → Calls Try.prog 27 #[.pointer (some ⟨f, 0, none⟩), .agg #[.int .u8 k0, .int .u8 k1, .int .u8 k2]] W fun e w' =>
      e = .returned (.tuple #[.agg #[.int .i64 x0, .int .i64 x1, .int .i64 x2, .int .i64 x3, .int .i64 x4, .int .i64 x5], .bool (M (k0, k1, k2)).isSome]) ∧ Below W.heap.size W w' :=
    fun W hW => fund_Get.calls W f t b n M k0 k1 k2 x0 x1 x2 x3 x4 x5 _ (hF.below hW).fund (hF.below hW).table (hF.below hW).map u0 u1 u2 hv rfl
  have HG := Aside0.mk hg
  have HR := Aside0.mk hr
  clear hg hF u0 u1 u2 hv hr
  go_enter Try.func9, Try.ntmps9
  go_wp2_with (first | (go_at_call 27; ((with_reducible refine (HG.out _ (below_alloc (Below.refl _ _) _)).mono ?_); rintro e w1 ⟨rfl, hb⟩; have h3 : Below w.heap.size w w1 := below_step (below_alloc (Below.refl _ _) _) hb; obtain ⟨hcc, hff⟩ := bcell hb)) | (go_at_call 28; ((with_reducible refine (view_far.calls _ _ _ _ HR.out).mono ?_); rintro e w2 ⟨rfl, ⟨nd, rfl⟩⟩)))
  refine bodyPost_ret (v := .int .i64 r) (by simp [results, Try.results9, go_sem]) rfl ⟨rfl, ?_⟩
  exact pw_below_drewN (below_alloc h3 _) nd
theorem view_Room.calls (w : World) (f t b n : Nat) (M : Rowmap) (k0 k1 k2 x0 x1 x2 x3 x4 x5 r : Int) (hF : IsFund w f t b n M) (u0 : U8 k0) (u1 : U8 k1) (u2 : U8 k2) (hv : (M (k0, k1, k2)).getD F6.zero = (x0, x1, x2, x3, x4, x5)) (hr : view_far.f x4 x1 = some r) :
    Calls Try.prog 10 #[.pointer (some ⟨f, 0, none⟩), .agg #[.int .u8 k0, .int .u8 k1, .int .u8 k2]] w fun e w' => e = .returned (.int .i64 r) ∧ Below w.heap.size w w' := by
  have hg : ∀ W, Below w.heap.size w W → Calls Try.prog 27 #[.pointer (some ⟨f, 0, none⟩), .agg #[.int .u8 k0, .int .u8 k1, .int .u8 k2]] W fun e w' =>
      e = .returned (.tuple #[.agg #[.int .i64 x0, .int .i64 x1, .int .i64 x2, .int .i64 x3, .int .i64 x4, .int .i64 x5], .bool (M (k0, k1, k2)).isSome]) ∧ Below W.heap.size W w' :=
    fun W hW => fund_Get.calls W f t b n M k0 k1 k2 x0 x1 x2 x3 x4 x5 _ (hF.below hW).fund (hF.below hW).table (hF.below hW).map u0 u1 u2 hv rfl
  have HG := Aside0.mk hg
  have HR := Aside0.mk hr
  clear hg hF u0 u1 u2 hv hr
  go_enter Try.func10, Try.ntmps10
  go_wp2_with (first | (go_at_call 27; ((with_reducible refine (HG.out _ (below_alloc (Below.refl _ _) _)).mono ?_); rintro e w1 ⟨rfl, hb⟩; have h3 : Below w.heap.size w w1 := below_step (below_alloc (Below.refl _ _) _) hb; obtain ⟨hcc, hff⟩ := bcell hb)) | (go_at_call 28; ((with_reducible refine (view_far.calls _ _ _ _ HR.out).mono ?_); rintro e w2 ⟨rfl, ⟨nd, rfl⟩⟩)))
  refine bodyPost_ret (v := .int .i64 r) (by simp [results, Try.results10, go_sem]) rfl ⟨rfl, ?_⟩
  exact pw_below_drewN (below_alloc h3 _) nd
end Go.Proofs.Ytnipjfciphgfjaa.V
/- The walk of a fund's making. -/
namespace Go.Proofs.Ytnipjfciphgfjaa.V
open Go.RowKit Go.Proofs.Ytnipjfciphgfjaa.G Go.Proofs.YtnipjfciphgfjaaW.PrintWords Go.Proofs.YtnipjfciphgfjaaW.PrintLast Go.Proofs.YtnipjfciphgfjaaW.PrintMore
set_option linter.unusedVariables false
set_option linter.unusedSimpArgs false
set_option maxHeartbeats 2000000
set_option maxRecDepth 100000
/-- The field that a declaration makes, if it does. -/
def newOf (a b c : Int) : Option F6 := if a ≤ b ∧ b ≤ c then some (a, c, b, b, b, b) else none
def addDecl (M : Rowmap) (d : S60) : Rowmap := match newOf d.f1 d.f2 d.f3 with | some x => M.put (d.f0.f0, d.f0.f1, d.f0.f2) x | none => M
def newMap (l : List S60) : Rowmap := l.foldl addDecl (fun _ => none)
theorem newMap_snoc (l : List S60) (d : S60) : newMap (l ++ [d]) = addDecl (newMap l) d := by simp [newMap]
theorem take_succ_rd (l : List S60) (i : Nat) (h : i < l.length) : l.take (i + 1) = l.take i ++ [rd_T60 l (i : Int)] := by
  have e : rd_T60 l (i : Int) = l[i] := by simp [rd_T60, h]
  rw [e, List.take_append_getElem h]
theorem newMap_take (l : List S60) (i : Nat) (h : i < l.length) : newMap (l.take (i + 1)) = addDecl (newMap (l.take i)) (rd_T60 l (i : Int)) := by
  rw [take_succ_rd l i h, newMap_snoc]
theorem rd60_mem (l : List S60) (i : Nat) (h : i < l.length) : rd_T60 l (i : Int) ∈ l := by
  have e : rd_T60 l (i : Int) = l[i] := by simp [rd_T60, h]
  rw [e]; exact List.getElem_mem h
/-- A declaration's key may be one. -/
def DKey (d : S60) : Prop := U8 d.f0.f0 ∧ U8 d.f0.f1 ∧ U8 d.f0.f2
theorem field_New_eq (a0 a1 a2 a b c : Int) : field_New.f a0 a1 a2 a b c = some (match newOf a b c with | some x => (x.1, x.2.1, x.2.2.1, x.2.2.2.1, x.2.2.2.2.1, x.2.2.2.2.2, 0) | none => (0, 0, 0, 0, 0, 0, 3)) := by
  unfold field_New.f field_Good.f newOf
  simp only [mn, mx]
  by_cases h1 : a ≤ b
  · by_cases h2 : b ≤ c
    · simp [h1, h2]
    · simp [h1, h2]
  · simp [h1]
theorem grown_below {m : Nat} {w w' : World} {b : Nat} (h : w.grownBy w' (some b)) (hm : m ≤ w.heap.size) (hb : m ≤ b) : Below m w w' :=
  ⟨h.os, h.tape, h.output, h.size, fun i hi => h.block i (Nat.lt_of_lt_of_le hi hm) (by simp; omega)⟩
theorem fund_New.calls (w : World) (A : Option Addr) (c : Nat) (l : List S60) (hr : Kd.C k60 w A l.length l) (hc : l.length ≤ c) (hl : l.length ≤ 40) (hk : ∀ d ∈ l, DKey d) :
    Calls Try.prog 7 #[.slice A l.length c] w fun e w' => e = .returned (.pointer (some ⟨w.heap.size + 1 + 1, 0, none⟩)) ∧ Below w.heap.size w w' ∧ IsFund w' (w.heap.size + 1 + 1) (w.heap.size + 1) w.heap.size l.length (newMap l) := by
  have hF0 : IsFund (((w.alloc (.map #[] 0)).alloc (.cells #[.map (some w.heap.size)] 92 (0, 0))).alloc (.cells #[.pointer (some ⟨w.heap.size + 1, 0, none⟩)] 66 (0, 0))) (w.heap.size + 1 + 1) (w.heap.size + 1) w.heap.size 0 (fun _ => none) := by
    refine ⟨?_, ?_, ?_⟩
    · have z := blk_new ((w.alloc (.map #[] 0)).alloc (.cells #[.map (some w.heap.size)] 92 (0, 0))) (.cells #[.pointer (some ⟨w.heap.size + 1, 0, none⟩)] 66 (0, 0))
      simpa using z
    · have z := blk_alloc (blk_new (w.alloc (.map #[] 0)) (.cells #[.map (some w.heap.size)] 92 (0, 0))) (.cells #[.pointer (some ⟨w.heap.size + 1, 0, none⟩)] 66 (0, 0))
      simpa using z
    · refine (Tab.made w).kept ?_
      rw [Below.heap_alloc _ _ _ (by simp; omega), Below.heap_alloc _ _ _ (by simp)]
  have HF0 := Aside0.mk hF0
  clear hF0
  have HR0 := Aside0.mk hr
  have HC0 := Aside0.mk hc
  have HL := Aside0.mk hl
  have HK := Aside0.mk hk
  clear hr hc hl hk
  go_enter Try.func7, Try.ntmps7
  go_wp2_with (go_at_call 21; ((with_reducible refine (table_New.calls _).mono ?_); rintro e w1 ⟨rfl, rfl⟩))
  go_loopg [13] l.length (fun kq v13 w' => ∃ i : Nat, v13 = .int .i64 (i : Int) ∧ Aside0 (kq + i = l.length) ∧ Aside0 (IsFund w' (w.heap.size + 1 + 1) (w.heap.size + 1) w.heap.size i (newMap (l.take i))) ∧ Aside0 (Below w.heap.size w w'))
  case atStart => exact ⟨0, rfl, ⟨rfl⟩, HF0, ⟨below_alloc (below_alloc (below_alloc (Below.refl _ _) _) _) _⟩⟩
  case round =>
    obtain ⟨i, rfl, HI, HF, HB⟩ := hrel
    cases gk with
    | zero =>
      have hi : i = l.length := by have := HI.out; omega
      have c2 : decide ((i : Int) < (l.length : Int)) = false := decide_eq_false (by omega)
      clear HK HF0
      go_wp2
      go_ret
      exact ⟨rfl, HB.out, by have := HF.out; rw [hi, List.take_length] at this; exact this⟩
    | succ k1 =>
      have hi : i < l.length := by have := HI.out; omega
      have c2 : decide ((i : Int) < (l.length : Int)) = true := decide_eq_true (by omega)
      obtain ⟨ad, e0, hx0, hx1, hx2, hx3, hx4, hx5⟩ := at_T60 HR0.out (i : Int) (by omega) (by omega)
      cases e0
      replace hx0 := (HB.out.cell (World.block_lt_of_cell? w _ hx0)).trans hx0
      replace hx1 := (HB.out.cell (World.block_lt_of_cell? w _ hx1)).trans hx1
      replace hx2 := (HB.out.cell (World.block_lt_of_cell? w _ hx2)).trans hx2
      replace hx3 := (HB.out.cell (World.block_lt_of_cell? w _ hx3)).trans hx3
      replace hx4 := (HB.out.cell (World.block_lt_of_cell? w _ hx4)).trans hx4
      replace hx5 := (HB.out.cell (World.block_lt_of_cell? w _ hx5)).trans hx5
      have hN := newMap_take l i hi
      have hD := HK.out _ (rd60_mem l i hi)
      have p0 : (0 ≤ (i : Int)) = True := eq_true (by omega)
      have q0 : ((i : Int) < (l.length : Int)) = True := eq_true (by omega)
      have hHI := HI.out
      have hHL := HL.out
      generalize rd_T60 l (i : Int) = d at *
      obtain ⟨⟨k0, k1', k2⟩, x0, x1, x2⟩ := d
      simp only [Int.toNat_natCast] at hx0 hx1 hx2 hx3 hx4 hx5
      have HN := Aside0.mk hN
      have HD := Aside0.mk hD
      clear hN hD
      have hnew := field_New_eq k0 k1' k2 x0 x1 x2
      simp only [addDecl] at HN
      cases hc : newOf x0 x1 x2 with
      | none =>
        rw [hc] at hnew
        have HNE := Aside0.mk hnew
        clear hnew
        go_wp2_with (go_at_call 22; ((with_reducible refine (field_New.calls _ _ _ _ _ _ _ _ _ _ _ _ _ _ HNE.out).mono ?_); rintro e w1 ⟨rfl, hb⟩; obtain ⟨hcc, hff⟩ := bcell hb))
        have h3 : Below wr.heap.size wr (w1.alloc (.cells #[.int .i64 0, .int .i64 0, .int .i64 0, .int .i64 0, .int .i64 0, .int .i64 0] 64 (0, 0))) := below_alloc (below_step (below_alloc (Below.refl _ _) _) hb) _
        go_roundg k1
        case measure => omega
        case rel =>
          refine ⟨i + 1, by simp, ⟨by omega⟩, ⟨?_⟩, ⟨below_step HB.out h3⟩⟩
          rw [HN.out, hc]
          exact (HF.out.below h3).mono (Nat.le_succ i)
      | some y =>
        rw [hc] at hnew
        obtain ⟨y0, y1, y2, y3, y4, y5⟩ := y
        have HNE := Aside0.mk hnew
        clear hnew
        have hput : ∀ W, Below wr.heap.size wr W → Calls Try.prog 23 #[.pointer (some ⟨w.heap.size + 1, 0, none⟩), .agg #[.int .u8 k0, .int .u8 k1', .int .u8 k2], .agg #[.int .i64 y0, .int .i64 y1, .int .i64 y2, .int .i64 y3, .int .i64 y4, .int .i64 y5]] W fun e w' =>
            e = .returned (.tuple #[]) ∧ wr.grownBy w' (some w.heap.size) ∧ IsFund w' (w.heap.size + 1 + 1) (w.heap.size + 1) w.heap.size (i + 1) ((newMap (l.take i)).put (k0, k1', k2) (y0, y1, y2, y3, y4, y5)) := fun W hW =>
          (table_Put.calls W _ _ _ _ k0 k1' k2 y0 y1 y2 y3 y4 y5 (HF.out.below hW).table (HF.out.below hW).map (Nat.lt_of_le_of_lt (show i ≤ 40 by omega) (by decide)) HD.out.1 HD.out.2.1 HD.out.2.2).mono (fun e w' ⟨e1, e2, e3⟩ => by
            have g : wr.grownBy w' (some w.heap.size) := ⟨e2.os.trans hW.os, e2.tape.trans hW.tape, e2.output.trans hW.output, Nat.le_trans hW.size e2.size, fun i hi hr => (e2.block i (Nat.lt_of_lt_of_le hi hW.size) hr).trans (hW.block i hi)⟩
            exact ⟨e1, g, HF.out.grown g e3⟩)
        have HPUT := Aside0.mk hput
        clear hput
        have hcF : wr.cell? ⟨w.heap.size + 1 + 1, 0, none⟩ = some (.pointer (some ⟨w.heap.size + 1, 0, none⟩)) := blk_cell HF.out.fund 0
        have hltF := World.block_lt_of_cell? _ _ hcF
        go_wp2_with (go_at_call 22; ((with_reducible refine (field_New.calls _ _ _ _ _ _ _ _ _ _ _ _ _ _ HNE.out).mono ?_); rintro e w1 ⟨rfl, hb⟩; obtain ⟨hcc, hff⟩ := bcell hb))
        have h3 : Below wr.heap.size wr w1 := below_step (below_alloc (Below.refl _ _) _) hb
        have hz1 : wr.heap.size < w1.heap.size := (by have := hb.size; simp at this; omega)
        have kf : w1.cell? ⟨w.heap.size + 1 + 1, 0, none⟩ = some (.pointer (some ⟨w.heap.size + 1, 0, none⟩)) := (h3.cell hltF).trans hcF
        have hltW : w.heap.size + 1 + 1 < w1.heap.size := Nat.lt_trans hltF hz1
        have j0 : w1.cell? ⟨wr.heap.size, 0, none⟩ = some (.int .u8 k0) := by simp [hcc, go_sem]
        have j1 : w1.cell? ⟨wr.heap.size, 1, none⟩ = some (.int .u8 k1') := by simp [hcc, go_sem]
        have j2 : w1.cell? ⟨wr.heap.size, 2, none⟩ = some (.int .u8 k2) := by simp [hcc, go_sem]
        clear hcc hff hb hx0 hx1 hx2 hx3 hx4 hx5
        go_region_with (go_at_call 23; ((with_reducible refine (HPUT.out _ (below_drew1 (below_alloc h3 _))).mono ?_); rintro e w3 ⟨rfl, hg3, hF3⟩))
        all_goals go_wp2
        all_goals
          go_roundg k1
          case measure => omega
          case rel =>
            refine ⟨i + 1, by simp, ⟨by omega⟩, ⟨?_⟩, ⟨HB.out.grown hg3 (below_size HB.out) (fun k hk => by cases hk; exact Nat.le_refl _)⟩⟩
            rw [HN.out, hc]
            exact hF3
end Go.Proofs.Ytnipjfciphgfjaa.V
/- The walk of what a view tells of an article. -/
namespace Go.Proofs.Ytnipjfciphgfjaa.V
open Go.RowKit Go.Proofs.Ytnipjfciphgfjaa.G Go.Proofs.YtnipjfciphgfjaaW.PrintWords Go.Proofs.YtnipjfciphgfjaaW.PrintLast Go.Proofs.YtnipjfciphgfjaaW.PrintMore
attribute [local go_sem] max2_int min2_int max_two min_two max_three min_three max_four min_four
set_option linter.unusedVariables false
set_option linter.unusedSimpArgs false
set_option maxHeartbeats 2000000
set_option maxRecDepth 100000
/-- A span: its least, its present, its greatest value. -/
structure S49 where
  f0 : Int
  f1 : Int
  f2 : Int
def z49 : S49 := ⟨(0 : Int), (0 : Int), (0 : Int)⟩
def k49 : Kd S49 := Kd.iso (Kd.pair (Kd.int .i64) (Kd.pair (Kd.int .i64) (Kd.int .i64))) (fun x : S49 => (x.f0, x.f1, x.f2))
theorem k49_open {w : World} {x : S49} {cs : List Value} (h : k49.K w x cs) : cs = [.int .i64 x.f0, .int .i64 x.f1, .int .i64 x.f2] := by
  obtain ⟨_, _, rfl, rfl, ⟨_, _, rfl, rfl, rfl⟩⟩ := h
  exact rfl
theorem k49_mkM (w : World) (base : Nat) (ok : Nat → Prop) (x : S49)  : k49.M w base ok x [.int .i64 x.f0, .int .i64 x.f1, .int .i64 x.f2] := ⟨[.int .i64 x.f0], [.int .i64 x.f1, .int .i64 x.f2], rfl, rfl, ⟨[.int .i64 x.f1], [.int .i64 x.f2], rfl, rfl, rfl⟩⟩
def rd_T49 (xs : List S49) (i : Int) : S49 := xs.getD i.toNat z49
theorem at_T49 {w : World} {A : Option Addr} {n : Nat} {xs : List S49} (h : Kd.C k49 w A n xs) (i : Int) (h0 : 0 ≤ i) (h1 : i < n) : ∃ ad , A = some ad ∧ w.cell? (ad.add (i.toNat * 3)) = some (.int .i64 (rd_T49 xs i).f0) ∧ w.cell? ⟨(ad.add (i.toNat * 3)).block, (ad.add (i.toNat * 3)).off + 1, none⟩ = some (.int .i64 (rd_T49 xs i).f1) ∧ w.cell? ⟨(ad.add (i.toNat * 3)).block, (ad.add (i.toNat * 3)).off + 2, none⟩ = some (.int .i64 (rd_T49 xs i).f2) := by
  obtain ⟨ad, c, e, _, hK, hc0⟩ := Kd.C_get h z49 i h0 h1
  have hc : ∀ j u, c[j]? = some u → w.cell? (ad.add (i.toNat * 3 + j)) = some u := hc0
  obtain rfl := k49_open hK
  exact ⟨ad, e, hc 0 _ rfl, by rw [← add_field _ _ 1 (by omega)]; exact hc 1 _ rfl, by rw [← add_field _ _ 2 (by omega)]; exact hc 2 _ rfl⟩
theorem info49 : (Try.prog.info? 49).map (fun i => (i.zero, i.size, i.bytes)) = some (some (.agg #[.int .i64 0, .int .i64 0, .int .i64 0]), 3, 24) := by kernel_rfl
/-- The cells of a configuration of so many articles and warehouses. -/
abbrev cfg (skus wares : Int) : Array Value := #[.int .i64 skus, .int .i64 wares, .slice none 0 0, .int .u8 0, .int .u8 0, .int .u8 0, .int .u8 0, .int .u8 0, .int .u8 0, .int .u8 0, .int .u8 0, .int .u8 0, .int .u8 0, .int .u8 0, .int .u8 0, .int .u8 0, .int .u8 0, .int .u8 0, .int .u8 0, .int .i64 0, .int .i64 0, .int .i64 0, .int .i64 0, .int .i64 0, .int .i64 0, .int .i64 0]
theorem zero44 : (Try.prog.info? 44).map (fun i => (i.zero, i.size)) = some (some (.agg (cfg 0 0)), 26) := by kernel_rfl
def spanOf : F6 → S49
  | (_, _, _, x3, x4, x5) => ⟨x3, x5, x4⟩
/-- What is seen of a warehouse. -/
def seen (M : Rowmap) (s k : Int) : S49 := spanOf ((M (1, s, k)).getD F6.zero)
def seens (M : Rowmap) (s : Int) (n : Nat) : List S49 := (List.range n).map fun k : Nat => seen M s (k : Int)
theorem seens_succ (M : Rowmap) (s : Int) (n : Nat) : seens M s (n + 1) = seens M s n ++ [seen M s n] := by simp [seens, List.range_succ]
/-- So many warehouses are seen. -/
def most4 (n : Int) : Nat := (mn n 4).toNat
def spansOf (M : Rowmap) (skus wares s : Int) : List S49 := if mn skus 4 ≤ s then [] else seens M s (most4 wares)
theorem seen_open (M : Rowmap) (s k x0 x1 x2 x3 x4 x5 : Int) (h : (M (1, s, k)).getD F6.zero = (x0, x1, x2, x3, x4, x5)) : seen M s k = ⟨x3, x5, x4⟩ := by
  unfold seen; rw [h]; rfl
theorem mn4_in {a : Int} (h : In64 a) : wrap64 (if (4 : Int) < a then 4 else a) = (if (4 : Int) < a then 4 else a) := by
  unfold In64 at h; unfold wrap64; split <;> omega
theorem u8_iff {s : Int} : U8 s ↔ 0 ≤ s ∧ s < 256 := by
  have e1 : IntKind.u8.min = 0 := by decide
  have e2 : IntKind.u8.max = 255 := by decide
  unfold U8 Lit.wf
  simp only [decide_eq_true_eq, Bool.and_eq_true, e1, e2]
  omega
theorem u8_in {s : Int} (h : U8 s) : 0 ≤ s ∧ s < 256 := u8_iff.1 h
theorem view_Spans.calls (w : World) (f t b n : Nat) (M : Rowmap) (skus wares s : Int) (hF : IsFund w f t b n M) (us : U8 s) (hskus : In64 skus) (hwares : In64 wares) :
    Calls Try.prog 13 #[.agg (cfg skus wares), .pointer (some ⟨f, 0, none⟩), .int .u8 s] w fun e w' => ∃ v, e = .returned v ∧ Kd.R k49 49 w' w.heap.size (fun _ => True) v (spansOf M skus wares s) ∧ Below w.heap.size w w' := by
  have HF := Aside0.mk hF
  have HB := Aside0.mk (Below.refl w.heap.size w)
  have U := Aside0.mk us
  have us' := u8_in us
  obtain ⟨a, ha⟩ : ∃ a, (if (4 : Int) < skus then 4 else skus) = a := ⟨_, rfl⟩
  obtain ⟨c, hc⟩ : ∃ c, (if (4 : Int) < wares then 4 else wares) = c := ⟨_, rfl⟩
  have hws : wrap64 s = s := by unfold wrap64; omega
  unfold spansOf most4 mn
  rw [ha, hc]
  have hc4 : c ≤ 4 := by rw [← hc]; split <;> omega
  clear hF us
  by_cases hsa : a ≤ s
  · rw [if_pos hsa]
    have d1 : decide (a ≤ s) = true := decide_eq_true hsa
    go_enter Try.func13, Try.ntmps13
    go_wp2_with (fail)
    go_ret
    exact ⟨_, rfl, Kd.R_nil _ _ _ _ _, below_alloc (Below.refl _ _) _⟩
  · rw [if_neg hsa]
    have d1 : decide (a ≤ s) = false := decide_eq_false hsa
    go_enter Try.func13, Try.ntmps13
    go_wp2_with (fail)
    go_loopg [7, 8] c.toNat (fun kq v7 v8 w' => ∃ i : Nat, v8 = .int .i64 (i : Int) ∧ Aside0 (kq + i = c.toNat) ∧ Aside0 (Kd.R k49 49 w' w.heap.size (fun _ => True) v7 (seens M s i)) ∧ Aside0 (w'.heap[w.heap.size]? = some (.cells (cfg skus wares) 44 (0, 0))) ∧ Aside0 (Below w.heap.size w w'))
    case atStart => exact ⟨0, rfl, ⟨rfl⟩, ⟨Kd.R_nil _ _ _ _ _⟩, ⟨blk_new _ _⟩, ⟨below_alloc (Below.refl _ _) _⟩⟩
    case round =>
      obtain ⟨i, rfl, HI, HO, HK, HB1⟩ := hrel
      have kc : wr.cell? ⟨w.heap.size, 1, none⟩ = some (.int .i64 wares) := blk_cell HK.out 1
      have kf := blk_frozen HK.out 1
      cases gk with
      | zero =>
        have hi := HI.out
        have c2 : decide ((i : Int) < c) = false := decide_eq_false (by omega)
        go_wp2
        go_ret
        rw [show c.toNat = i by omega]
        exact ⟨_, rfl, HO.out, HB1.out⟩
      | succ k1 =>
        have hi := HI.out
        have c2 : decide ((i : Int) < c) = true := decide_eq_true (by omega)
        have hst : view_stock.f s (i : Int) = some (1, s, (i : Int)) := by unfold view_stock.f; rw [show s % 256 = s by omega, show (i : Int) % 256 = (i : Int) by omega]
        have ui : U8 (i : Int) := u8_iff.2 (by omega)
        have hsn := seens_succ M s i
        obtain ⟨x0, x1, x2, x3, x4, x5, hx⟩ : ∃ x0 x1 x2 x3 x4 x5, (M (1, s, (i : Int))).getD F6.zero = (x0, x1, x2, x3, x4, x5) := ⟨_, _, _, _, _, _, rfl⟩
        rw [seen_open M s i x0 x1 x2 x3 x4 x5 hx] at hsn
        have HSN := Aside0.mk hsn
        have hg : ∀ W, Below wr.heap.size wr W → Calls Try.prog 27 #[.pointer (some ⟨f, 0, none⟩), .agg #[.int .u8 1, .int .u8 s, .int .u8 (i : Int)]] W fun e w' =>
            e = .returned (.tuple #[.agg #[.int .i64 x0, .int .i64 x1, .int .i64 x2, .int .i64 x3, .int .i64 x4, .int .i64 x5], .bool (M (1, s, (i : Int))).isSome]) ∧ Below W.heap.size W w' := fun W hW => by
          have hW2 := below_step HB1.out hW
          exact fund_Get.calls W f t b n M 1 s i x0 x1 x2 x3 x4 x5 _ (HF.out.below hW2).fund (HF.out.below hW2).table (HF.out.below hW2).map (u8_iff.2 (by decide)) U.out ui hx rfl
        have HG := Aside0.mk hg
        have HST := Aside0.mk hst
        generalize (M (1, s, (i : Int))).isSome = sm at *
        clear hg hst ui hsn hx
        go_wp2_with (first
          | (go_at_call 35; ((with_reducible refine (view_stock.calls _ _ _ _ _ _ HST.out).mono ?_); rintro e w1 ⟨rfl, hbS⟩))
          | (go_at_call 27; ((with_reducible refine (HG.out _ hbS).mono ?_); rintro e w2 ⟨rfl, hb⟩; replace hb := below_step hbS hb))
          | ((with_reducible refine gate_builtin (b := .append) (xs := #[.tmp 33, .tmp 41]) rfl ?_); at_builtin; refine Kd.R_append k49 (w0 := w) w.heap.size rfl (.tmp 33) (.tmp 41) 45 49 (.agg #[.int .i64 0, .int .i64 0, .int .i64 0]) 24 rfl Try.underlying45 info49 rfl (by decide) (by decide) u7 (seens M s i) ⟨x3, x5, x4⟩ [.int .i64 x3, .int .i64 x5, .int .i64 x4] (fun _ => True) (fun _ => False) rfl ?aX (k49_mkM _ _ _ ⟨x3, x5, x4⟩) (fun _ hk => hk.elim) (fun _ _ => trivial) (Kd.R_alloc (Kd.R_below HO.out hb) _) (below_alloc (below_step HB1.out hb) _) (below_size (below_alloc (below_step HB1.out hb) _)) ?aL ?_; (case aX => (show Value.slice (some ⟨w2.heap.size + 1, 0, none⟩) 1 1 = _; simp)); (case aL => (simp [seens]; omega)); intro v1 w3 ho hb3 hg3 _))
        go_roundg k1
        case measure => omega
        case rel => exact ⟨i + 1, by simp, ⟨by omega⟩, ⟨by rw [HSN.out]; exact ho⟩, ⟨blk_grown (blk_alloc (blk_below HK.out hb) _) hg3 (Kd.R_ne HO.out HK.out (by decide))⟩, ⟨hb3⟩⟩
end Go.Proofs.Ytnipjfciphgfjaa.V
