/- What functions of the program answer, for all inputs of which their Lean functions tell an answer; printed by a program of this session with the kit's printer, over contracts that this session proved by hand. -/
import Derived.Test.YtdpbfiifdphpcaaGx0
import Derived.Test.YtdpbfiifdphpcaaGx2
import Derived.Test.YtdpbfiifdphpcaaGx4
import Derived.Test.YtdpbfiifdphpcaaGx5
namespace Go.Proofs.Ytdpbfiifdphpcaa.G
open Go.RowKit Go.Proofs.YtdpbfiifdphpcaaW.PrintWords Go.Proofs.YtdpbfiifdphpcaaW.PrintLast Go.Proofs.YtdpbfiifdphpcaaW.PrintMore
attribute [local go_sem] max2_int min2_int max_two min_two max_three min_three max_four min_four   -- for this text's walks alone
set_option linter.unusedVariables false
set_option linter.unusedSimpArgs false

/-! ### field_Settle: function 15 -/
theorem two_set (w : World) (c1 : Array Value) (T : TypeId) (x y x' y' : Value) (nd : Nat) :
    ((((w.alloc (.cells c1 T)).alloc (.cells #[x, y] T)).drewN nd).setCell ⟨w.heap.size + 1, 0, none⟩ x').setCell ⟨w.heap.size + 1, 1, none⟩ y' = ((w.alloc (.cells c1 T)).alloc (.cells #[x', y'] T)).drewN nd := by
  show ((((w.alloc (.cells c1 T)).alloc (.cells #[x, y] T)).setCell ⟨w.heap.size + 1, 0, none⟩ x').setCell ⟨w.heap.size + 1, 1, none⟩ y').drewN nd = _
  rw [World.setCell_alloc_at _ _ _ _ _ (by simp), World.setCell_alloc_at _ _ _ _ _ (by simp)]
  rfl
theorem part_more_t (n d x : Int) (o : Bool) (w : World) (ha : calc_Add.f n d = some (x, o)) :
    Calls Try.prog 30 #[.agg #[.int .i64 n, .bool true], .int .i64 d] w fun e w' => e = .returned (.agg #[.int .i64 x, .bool o]) ∧ ∃ (nd : Nat) (c1 c2 : Array Value), w' = (((w.alloc (.cells c1 64)).alloc (.cells c2 64)).drewN nd) := by
  have HA := Aside0.mk ha
  clear ha
  cases o <;>
  · go_enter Try.func30, Try.ntmps30
    go_wp2_with (go_at_call 27; ((with_reducible refine (calc_Add.calls _ _ _ _ _ HA.out).mono ?_); rintro e w2 ⟨rfl, ⟨nd, rfl⟩⟩))
    refine bodyPost_ret (v := .agg #[.int .i64 x, .bool _]) (by simp [results, Try.results30, go_sem]) rfl ⟨rfl, nd, #[.int .i64 n, .bool true], #[.int .i64 x, .bool _], two_set w _ 64 _ _ _ _ nd⟩
theorem part_less_t (n d x : Int) (o : Bool) (w : World) (ha : calc_Sub.f n d = some (x, o)) :
    Calls Try.prog 31 #[.agg #[.int .i64 n, .bool true], .int .i64 d] w fun e w' => e = .returned (.agg #[.int .i64 x, .bool o]) ∧ ∃ (nd : Nat) (c1 c2 : Array Value), w' = (((w.alloc (.cells c1 64)).alloc (.cells c2 64)).drewN nd) := by
  have HA := Aside0.mk ha
  clear ha
  cases o <;>
  · go_enter Try.func31, Try.ntmps31
    go_wp2_with (go_at_call 36; ((with_reducible refine (calc_Sub.calls _ _ _ _ _ HA.out).mono ?_); rintro e w2 ⟨rfl, ⟨nd, rfl⟩⟩))
    refine bodyPost_ret (v := .agg #[.int .i64 x, .bool _]) (by simp [results, Try.results31, go_sem]) rfl ⟨rfl, nd, #[.int .i64 n, .bool true], #[.int .i64 x, .bool _], two_set w _ 64 _ _ _ _ nd⟩
theorem part_still_t (n d : Int) (w : World) :
    Calls Try.prog 29 #[.agg #[.int .i64 n, .bool true], .int .i64 d] w fun e w' => e = .returned (.agg #[.int .i64 n, .bool true]) ∧ ∃ (nd : Nat) (c1 c2 : Array Value), w' = (((w.alloc (.cells c1 64)).alloc (.cells c2 64)).drewN nd) := by
  go_enter Try.func29, Try.ntmps29
  go_wp2
  refine bodyPost_ret (v := .agg #[.int .i64 n, .bool true]) (by simp [results, Try.results29, go_sem]) rfl ⟨rfl, 0, #[.int .i64 n, .bool true], #[.int .i64 n, .bool true], rfl⟩
/-- Two cells at once: what a world holds beside what it keeps of another one. -/
theorem keepTwo {w1 W : World} {p q : Addr} {x y : Value} (h2 : w1.cell? p = some x) (h5 : w1.cell? q = some y) (hb : Below w1.heap.size w1 W) :
    Below w1.heap.size w1 W ∧ W.cell? p = some x ∧ W.cell? q = some y :=
  ⟨hb, (hb.cell (World.block_lt_of_cell? _ _ h2)).trans h2, (hb.cell (World.block_lt_of_cell? _ _ h5)).trans h5⟩
theorem allocB {w1 W : World} {o : Obj} (h : Below w1.heap.size w1 W) : Below w1.heap.size w1 (W.alloc o) := h.alloc h.size _
theorem belowDN {B n : Nat} {a b : World} (h : Below B a b) : Below B a (b.drewN n) := pw_below_drewN h n
theorem setB {w1 W : World} {n i : Nat} {v : Value} (h : Below w1.heap.size w1 W) (hn : w1.heap.size ≤ n) : Below w1.heap.size w1 (W.setCell ⟨n, i, none⟩ v) := h.setCell hn _
/-- What is left behind a statement that makes two parts: two new blocks that hold them. -/
def TwoParts (w1 : World) (b1 b2 : Nat) (x : Int) (xo : Bool) (y : Int) (yo : Bool) (W : World) : Prop :=
  Below w1.heap.size w1 W ∧ w1.heap.size ≤ b1 ∧ w1.heap.size ≤ b2 ∧ W.cell? ⟨b1, 0, none⟩ = some (.int .i64 x) ∧ W.cell? ⟨b1, 1, none⟩ = some (.bool xo) ∧ W.cell? ⟨b2, 0, none⟩ = some (.int .i64 y) ∧ W.cell? ⟨b2, 1, none⟩ = some (.bool yo)
theorem keepCell {B : Nat} {W W' : World} {p : Addr} {v : Value} (hb : Below B W W') (h : W.cell? p = some v) (hp : p.block < B) : W'.cell? p = some v := (hb.cell hp).trans h
theorem keepFrozen {B : Nat} {W W' : World} {p : Addr} {v : Bool} (hb : Below B W W') (h : W.frozen? p = v) (hp : p.block < B) : W'.frozen? p = v := (hb.frozen hp).trans h
theorem sub_fit (a b : Int) (ha : -9223372036854775808 ≤ a ∧ a ≤ 9223372036854775807) (hb : -9223372036854775808 ≤ b ∧ b ≤ 9223372036854775807) : calc_Sub.f a b = some (fit (a - b)) := by
  have hs : -9223372036854775808 ≤ wrap64 (a - b) ∧ wrap64 (a - b) ≤ 9223372036854775807 := by unfold wrap64; omega
  have h := sign_of a b a (wrap64 (a - b)) ha hb ha hs
  unfold calc_Sub.f fit
  by_cases c : -9223372036854775808 ≤ a - b ∧ a - b ≤ 9223372036854775807
  · have e : wrap64 (a - b) = a - b := by unfold wrap64; omega
    rw [if_pos c, if_neg, e]
    rw [h, e]
    by_cases c1 : a < 0 <;> by_cases c2 : b < 0 <;> by_cases c3 : a - b < 0 <;> simp [c1, c2, c3] <;> omega
  · rw [if_neg c, if_pos]
    rw [h]
    have e : (a < 0 ∧ ¬ b < 0 ∧ ¬ wrap64 (a - b) < 0) ∨ (¬ a < 0 ∧ b < 0 ∧ wrap64 (a - b) < 0) := by unfold wrap64; omega
    rcases e with ⟨e1, e2, e3⟩ | ⟨e1, e2, e3⟩ <;> simp [e1, e2, e3]
/-- What a move makes of a field: v, b, i, s are what value, base, inf and sup would come to. -/
def moveP (lo hi base inf sup val d v b i s : Int) : Int × Int × Int × Int × Int × Int × Int :=
  if ¬ GoodP lo hi base inf sup val then (lo, hi, base, inf, sup, val, 12)
  else if d = 0 ∨ d = -9223372036854775808 then (lo, hi, base, inf, sup, val, 1)
  else if In64 v ∧ In64 b ∧ In64 i ∧ In64 s ∧ GoodP lo hi b i s v then (lo, hi, b, i, s, v, 0) else (lo, hi, base, inf, sup, val, 12)
theorem fit_snd (x : Int) : (fit x).2 = decide (In64 x) := by
  unfold fit In64; split
  · rename_i h; exact (decide_eq_true h).symm
  · rename_i h; exact (decide_eq_false h).symm
theorem fit_fst {x : Int} (h : In64 x) : (fit x).1 = x := by rw [fit_in h]
theorem fit_pair (x : Int) : fit x = ((fit x).1, (fit x).2) := rfl
set_option maxHeartbeats 2000000 in
set_option maxRecDepth 100000 in
/-- What is wrong is told first. -/
theorem move_wrong (a0_0 : Int) (a0_1 : Int) (a0_2 : Int) (a0_3 : Int) (a0_4 : Int) (a0_5 : Int) (a1 x : Int) (g1 g2 g3 g4 : FuncId) (w : World) (hw : field_wrong.f a0_0 a0_1 a0_2 a0_3 a0_4 a0_5 a1 = some x) (hx : (x != 0) = true) :
    Calls Try.prog 28 #[.agg #[.int .i64 a0_0, .int .i64 a0_1, .int .i64 a0_2, .int .i64 a0_3, .int .i64 a0_4, .int .i64 a0_5], .int .i64 a1, .func (.func g1) #[] #[], .func (.func g2) #[] #[], .func (.func g3) #[] #[], .func (.func g4) #[] #[]] w fun e w' => e = .returned (.tuple #[.agg #[.int .i64 a0_0, .int .i64 a0_1, .int .i64 a0_2, .int .i64 a0_3, .int .i64 a0_4, .int .i64 a0_5], .int .i64 x]) ∧ Below w.heap.size w w' := by
  have HW := Aside0.mk hw
  clear hw
  go_enter Try.func28, Try.ntmps28
  go_wp2_with (go_at_call 26; ((with_reducible refine (field_wrong.calls _ _ _ _ _ _ _ _ _ HW.out).mono ?_); rintro e w1 ⟨rfl, hb⟩; obtain ⟨hc, hf⟩ := bcell hb))
  refine bodyPost_ret (v := .tuple #[.agg #[.int .i64 a0_0, .int .i64 a0_1, .int .i64 a0_2, .int .i64 a0_3, .int .i64 a0_4, .int .i64 a0_5], .int .i64 x]) (by simp [results, Try.results28, go_sem, hc]) rfl ⟨rfl, ?_⟩
  (with_reducible repeat (first | refine bset0 ?_ | refine bset1 ?_))
  exact ((Below.refl _ _).alloc (Nat.le_refl _) _ |>.alloc (by simp) _).trans (hb.mono (by simp; omega))
set_option maxHeartbeats 16000000 in
set_option maxRecDepth 100000 in
theorem move_settle_pos (a0_0 : Int) (a0_1 : Int) (a0_2 : Int) (a0_3 : Int) (a0_4 : Int) (a0_5 : Int) (a1 : Int) (b : Int) (bo : Bool) (i : Int) (io : Bool) (gd : Bool) (w : World) (hw : field_wrong.f a0_0 a0_1 a0_2 a0_3 a0_4 a0_5 a1 = some 0) (hd : decide (a1 < 0) = false) (hb : calc_Add.f a0_2 a1 = some (b, bo)) (hi : calc_Add.f a0_3 a1 = some (i, io)) (hg : field_Good.f a0_0 a0_1 b i a0_4 a0_5 = some gd) (r : Array Value) (c : Int) (hr : (r, c) = if bo = true ∧ io = true ∧ gd = true then (#[.int .i64 a0_0, .int .i64 a0_1, .int .i64 b, .int .i64 i, .int .i64 a0_4, .int .i64 a0_5], 0) else (#[.int .i64 a0_0, .int .i64 a0_1, .int .i64 a0_2, .int .i64 a0_3, .int .i64 a0_4, .int .i64 a0_5], 12)) :
    Calls Try.prog 28 #[.agg #[.int .i64 a0_0, .int .i64 a0_1, .int .i64 a0_2, .int .i64 a0_3, .int .i64 a0_4, .int .i64 a0_5], .int .i64 a1, .func (.func 29) #[] #[], .func (.func 30) #[] #[], .func (.func 30) #[] #[], .func (.func 29) #[] #[]] w fun e w' => e = .returned (.tuple #[.agg r, .int .i64 c]) ∧ Below w.heap.size w w' := by
  have HW := Aside0.mk hw
  have HB := Aside0.mk hb
  have HI := Aside0.mk hi
  have HG := Aside0.mk hg
  have HR := Aside0.mk hr
  clear hw hg hr hb hi
  go_enter Try.func28, Try.ntmps28
  go_wp2_with (go_at_call 26; ((with_reducible refine (field_wrong.calls _ _ _ _ _ _ _ _ _ HW.out).mono ?_); rintro e w1 ⟨rfl, hb⟩; obtain ⟨hc, hf⟩ := bcell hb; have hz : w.heap.size + 1 < w1.heap.size := (by have := hb.size; simp at this; omega)))
  have k0 : w1.cell? ⟨w.heap.size, 0, none⟩ = some (.int .i64 a0_0) := by simp [hc, go_sem]
  have k1 : w1.cell? ⟨w.heap.size, 1, none⟩ = some (.int .i64 a0_1) := by simp [hc, go_sem]
  have k2 : w1.cell? ⟨w.heap.size, 2, none⟩ = some (.int .i64 a0_2) := by simp [hc, go_sem]
  have k3 : w1.cell? ⟨w.heap.size, 3, none⟩ = some (.int .i64 a0_3) := by simp [hc, go_sem]
  have k4 : w1.cell? ⟨w.heap.size, 4, none⟩ = some (.int .i64 a0_4) := by simp [hc, go_sem]
  have k5 : w1.cell? ⟨w.heap.size, 5, none⟩ = some (.int .i64 a0_5) := by simp [hc, go_sem]
  have m0 : w1.cell? ⟨w.heap.size + 1, 0, none⟩ = some (.int .i64 0) := by simp [hc, go_sem]
  have n0 : w1.frozen? ⟨w.heap.size + 1, 0, none⟩ = false := by simp [hf, go_sem]
  have m1 : w1.cell? ⟨w.heap.size + 1, 1, none⟩ = some (.int .i64 0) := by simp [hc, go_sem]
  have n1 : w1.frozen? ⟨w.heap.size + 1, 1, none⟩ = false := by simp [hf, go_sem]
  have m2 : w1.cell? ⟨w.heap.size + 1, 2, none⟩ = some (.int .i64 0) := by simp [hc, go_sem]
  have n2 : w1.frozen? ⟨w.heap.size + 1, 2, none⟩ = false := by simp [hf, go_sem]
  have m3 : w1.cell? ⟨w.heap.size + 1, 3, none⟩ = some (.int .i64 0) := by simp [hc, go_sem]
  have n3 : w1.frozen? ⟨w.heap.size + 1, 3, none⟩ = false := by simp [hf, go_sem]
  have m4 : w1.cell? ⟨w.heap.size + 1, 4, none⟩ = some (.int .i64 0) := by simp [hc, go_sem]
  have n4 : w1.frozen? ⟨w.heap.size + 1, 4, none⟩ = false := by simp [hf, go_sem]
  have m5 : w1.cell? ⟨w.heap.size + 1, 5, none⟩ = some (.int .i64 0) := by simp [hc, go_sem]
  have n5 : w1.frozen? ⟨w.heap.size + 1, 5, none⟩ = false := by simp [hf, go_sem]
  have K0 := Aside0.mk k0
  have M0 := Aside0.mk m0
  have N0 := Aside0.mk n0
  have K1 := Aside0.mk k1
  have M1 := Aside0.mk m1
  have N1 := Aside0.mk n1
  have K2 := Aside0.mk k2
  have M2 := Aside0.mk m2
  have N2 := Aside0.mk n2
  have K3 := Aside0.mk k3
  have M3 := Aside0.mk m3
  have N3 := Aside0.mk n3
  have K4 := Aside0.mk k4
  have M4 := Aside0.mk m4
  have N4 := Aside0.mk n4
  have K5 := Aside0.mk k5
  have M5 := Aside0.mk m5
  have N5 := Aside0.mk n5
  clear k0 k1 k3 k4 m0 m1 m2 m3 m4 m5 n0 n1 n2 n3 n4 n5
  have hbw : Below w.heap.size w w1 := ((Below.refl _ _).alloc (Nat.le_refl _) _ |>.alloc (by simp) _).trans (hb.mono (by simp; omega))
  have HBW := Aside0.mk hbw
  clear hb hbw hc hf
  go_cut [15, 16] (fun p1 p2 wc => ∃ b1 b2 : Nat, p1 = .pointer (some ⟨b1, 0, none⟩) ∧ p2 = .pointer (some ⟨b2, 0, none⟩) ∧ TwoParts w1 b1 b2 a0_5 true b bo wc)
  case first =>
    go_region_held3 (fun w' => Below w1.heap.size w1 w' ∧ w'.cell? ⟨w.heap.size, 5, none⟩ = some (.int .i64 a0_5) ∧ w'.cell? ⟨w.heap.size, 2, none⟩ = some (.int .i64 a0_2)) (with_reducible ((refine keepTwo k5 k2 ?_); (with_reducible (repeat (first | exact Below.refl _ _ | refine Below.drew ?_ | refine belowDN ?_ | refine allocB ?_ | refine setB ?_ ?_ | omega))))) (first | (go_at_call 29; ((with_reducible refine (part_still_t _ _ _).mono ?_); rintro e w' ⟨rfl, nd, c1, c2, rfl⟩)) | (go_at_call 30; ((with_reducible refine (part_more_t _ _ _ _ _ HB.out).mono ?_); rintro e w' ⟨rfl, nd, c1, c2, rfl⟩)))
    all_goals
      go_wp2
      go_meet
      case rel => exact ⟨_, _, rfl, rfl, (by (with_reducible (repeat (first | exact Below.refl _ _ | refine Below.drew ?_ | refine belowDN ?_ | refine allocB ?_ | refine setB ?_ ?_ | omega)))), (by omega), (by omega), (by (first | (simp [go_sem]; done) | ((with_reducible refine World.cell?_setCell_same' _ _ _ ?_); (simp [go_sem]; done)) | (simp [go_sem]; (with_reducible refine World.cell?_setCell_same' _ _ _ ?_); (simp [go_sem]; done)))), (by (first | (simp [go_sem]; done) | ((with_reducible refine World.cell?_setCell_same' _ _ _ ?_); (simp [go_sem]; done)) | (simp [go_sem]; (with_reducible refine World.cell?_setCell_same' _ _ _ ?_); (simp [go_sem]; done)))), (by (first | (simp [go_sem]; done) | ((with_reducible refine World.cell?_setCell_same' _ _ _ ?_); (simp [go_sem]; done)) | (simp [go_sem]; (with_reducible refine World.cell?_setCell_same' _ _ _ ?_); (simp [go_sem]; done)))), (by (first | (simp [go_sem]; done) | ((with_reducible refine World.cell?_setCell_same' _ _ _ ?_); (simp [go_sem]; done)) | (simp [go_sem]; (with_reducible refine World.cell?_setCell_same' _ _ _ ?_); (simp [go_sem]; done))))⟩
  case rest =>
    rename World => w2
    obtain ⟨b1, b2, rfl, rfl, hB1, g1, g2, d0, d1, d2, d3⟩ := hcut
    have p3 := keepCell hB1 K3.out (show w.heap.size < w1.heap.size by omega)
    have p4 := keepCell hB1 K4.out (show w.heap.size < w1.heap.size by omega)
    have hz1 := hB1.size
    have H1 := Aside0.mk hB1
    have D0 := Aside0.mk d0
    have D1 := Aside0.mk d1
    have D2 := Aside0.mk d2
    have D3 := Aside0.mk d3
    clear hB1 k2 k5 d0 d1 d2 d3
    go_upto_region 7 with (fail)
    go_cut [17, 18] (fun p1 p2 wc => ∃ b1 b2 : Nat, p1 = .pointer (some ⟨b1, 0, none⟩) ∧ p2 = .pointer (some ⟨b2, 0, none⟩) ∧ TwoParts w2 b1 b2 i io a0_4 true wc)
    case first =>
      go_region_held3 (fun w' => Below w2.heap.size w2 w' ∧ w'.cell? ⟨w.heap.size, 3, none⟩ = some (.int .i64 a0_3) ∧ w'.cell? ⟨w.heap.size, 4, none⟩ = some (.int .i64 a0_4)) (with_reducible ((refine keepTwo p3 p4 ?_); (with_reducible (repeat (first | exact Below.refl _ _ | refine Below.drew ?_ | refine belowDN ?_ | refine allocB ?_ | refine setB ?_ ?_ | omega))))) (first | (go_at_call 30; ((with_reducible refine (part_more_t _ _ _ _ _ HI.out).mono ?_); rintro e w' ⟨rfl, nd, c1, c2, rfl⟩)) | (go_at_call 29; ((with_reducible refine (part_still_t _ _ _).mono ?_); rintro e w' ⟨rfl, nd, c1, c2, rfl⟩)))
      all_goals
        go_wp2
        go_meet
        case rel => exact ⟨_, _, rfl, rfl, (by (with_reducible (repeat (first | exact Below.refl _ _ | refine Below.drew ?_ | refine belowDN ?_ | refine allocB ?_ | refine setB ?_ ?_ | omega)))), (by omega), (by omega), (by (first | (simp [go_sem]; done) | ((with_reducible refine World.cell?_setCell_same' _ _ _ ?_); (simp [go_sem]; done)) | (simp [go_sem]; (with_reducible refine World.cell?_setCell_same' _ _ _ ?_); (simp [go_sem]; done)))), (by (first | (simp [go_sem]; done) | ((with_reducible refine World.cell?_setCell_same' _ _ _ ?_); (simp [go_sem]; done)) | (simp [go_sem]; (with_reducible refine World.cell?_setCell_same' _ _ _ ?_); (simp [go_sem]; done)))), (by (first | (simp [go_sem]; done) | ((with_reducible refine World.cell?_setCell_same' _ _ _ ?_); (simp [go_sem]; done)) | (simp [go_sem]; (with_reducible refine World.cell?_setCell_same' _ _ _ ?_); (simp [go_sem]; done)))), (by (first | (simp [go_sem]; done) | ((with_reducible refine World.cell?_setCell_same' _ _ _ ?_); (simp [go_sem]; done)) | (simp [go_sem]; (with_reducible refine World.cell?_setCell_same' _ _ _ ?_); (simp [go_sem]; done))))⟩
    case rest =>
      obtain ⟨b3, b4, rfl, rfl, hB3, g3, g4, d4, d5, d6, d7⟩ := hcut
      have hz3 := hB3.size
      have hB4 := H1.out.trans (hB3.mono hz1)
      have q0 := keepCell hB4 K0.out (show w.heap.size < w1.heap.size by omega)
      have r0 := keepCell hB4 M0.out (show w.heap.size + 1 < w1.heap.size by omega)
      have s0 := keepFrozen hB4 N0.out (show w.heap.size + 1 < w1.heap.size by omega)
      have q1 := keepCell hB4 K1.out (show w.heap.size < w1.heap.size by omega)
      have r1 := keepCell hB4 M1.out (show w.heap.size + 1 < w1.heap.size by omega)
      have s1 := keepFrozen hB4 N1.out (show w.heap.size + 1 < w1.heap.size by omega)
      have q2 := keepCell hB4 K2.out (show w.heap.size < w1.heap.size by omega)
      have r2 := keepCell hB4 M2.out (show w.heap.size + 1 < w1.heap.size by omega)
      have s2 := keepFrozen hB4 N2.out (show w.heap.size + 1 < w1.heap.size by omega)
      have q3 := keepCell hB4 K3.out (show w.heap.size < w1.heap.size by omega)
      have r3 := keepCell hB4 M3.out (show w.heap.size + 1 < w1.heap.size by omega)
      have s3 := keepFrozen hB4 N3.out (show w.heap.size + 1 < w1.heap.size by omega)
      have q4 := keepCell hB4 K4.out (show w.heap.size < w1.heap.size by omega)
      have r4 := keepCell hB4 M4.out (show w.heap.size + 1 < w1.heap.size by omega)
      have s4 := keepFrozen hB4 N4.out (show w.heap.size + 1 < w1.heap.size by omega)
      have q5 := keepCell hB4 K5.out (show w.heap.size < w1.heap.size by omega)
      have r5 := keepCell hB4 M5.out (show w.heap.size + 1 < w1.heap.size by omega)
      have s5 := keepFrozen hB4 N5.out (show w.heap.size + 1 < w1.heap.size by omega)
      have d0 := keepCell hB3 D0.out (World.block_lt_of_cell? _ _ D0.out)
      have d1 := keepCell hB3 D1.out (World.block_lt_of_cell? _ _ D1.out)
      have d2 := keepCell hB3 D2.out (World.block_lt_of_cell? _ _ D2.out)
      have d3 := keepCell hB3 D3.out (World.block_lt_of_cell? _ _ D3.out)
      have hz5 := World.block_lt_of_cell? _ _ d4
      have hz6 := World.block_lt_of_cell? _ _ d6
      have hz7 := World.block_lt_of_cell? _ _ d0
      have hz8 := World.block_lt_of_cell? _ _ d2
      have HB5 := Aside0.mk (HBW.out.trans (hB4.mono (show w.heap.size ≤ w1.heap.size by omega)))
      clear HBW hB3 hB4 H1 K0 M0 N0 K1 M1 N1 K2 M2 N2 K3 M3 N3 K4 M4 N4 K5 M5 N5
      have hz9 : w.heap.size + 1 < wc.heap.size := by omega
      have hz10 : w.heap.size < wc.heap.size := by omega
      have hr := HR.out
      clear hz1 hz3 g1 g2 g3 g4 HR HW
      cases bo
      · obtain ⟨rfl, rfl⟩ := Prod.mk.inj (hr.trans (if_neg (by simp)))
        go_wp2_with (fail)
        refine bodyPost_ret (v := .tuple #[.agg #[.int .i64 a0_0, .int .i64 a0_1, .int .i64 a0_2, .int .i64 a0_3, .int .i64 a0_4, .int .i64 a0_5], .int .i64 12]) (by simp [results, Try.results28, go_sem, r0, r1, r2, r3, r4, r5, hz9]) rfl ⟨rfl, ?_⟩
        (with_reducible repeat (first | refine bset1 ?_ | refine below_drewN' ?_ _ | refine allocB ?_))
        with_reducible exact HB5.out
      · skip
        cases io
        · obtain ⟨rfl, rfl⟩ := Prod.mk.inj (hr.trans (if_neg (by simp)))
          go_wp2_with (fail)
          refine bodyPost_ret (v := .tuple #[.agg #[.int .i64 a0_0, .int .i64 a0_1, .int .i64 a0_2, .int .i64 a0_3, .int .i64 a0_4, .int .i64 a0_5], .int .i64 12]) (by simp [results, Try.results28, go_sem, r0, r1, r2, r3, r4, r5, hz9]) rfl ⟨rfl, ?_⟩
          (with_reducible repeat (first | refine bset1 ?_ | refine below_drewN' ?_ _ | refine allocB ?_))
          with_reducible exact HB5.out
        · skip
          cases gd
          · obtain ⟨rfl, rfl⟩ := Prod.mk.inj (hr.trans (if_neg (by simp)))
            go_wp2_with (go_at_call 11; ((with_reducible refine (field_Good.calls _ _ _ _ _ _ _ _ HG.out).mono ?_); rintro e w5 ⟨rfl, hb⟩; have hb5 : Below wc.heap.size wc w5 := ((Below.refl _ _).alloc (Nat.le_refl _) _).trans (hb.mono (by simp)); have u0 := keepCell hb5 q0 hz10; have x0 := keepCell hb5 r0 hz9; have y0 := keepFrozen hb5 s0 hz9; have u1 := keepCell hb5 q1 hz10; have x1 := keepCell hb5 r1 hz9; have y1 := keepFrozen hb5 s1 hz9; have u2 := keepCell hb5 q2 hz10; have x2 := keepCell hb5 r2 hz9; have y2 := keepFrozen hb5 s2 hz9; have u3 := keepCell hb5 q3 hz10; have x3 := keepCell hb5 r3 hz9; have y3 := keepFrozen hb5 s3 hz9; have u4 := keepCell hb5 q4 hz10; have x4 := keepCell hb5 r4 hz9; have y4 := keepFrozen hb5 s4 hz9; have u5 := keepCell hb5 q5 hz10; have x5 := keepCell hb5 r5 hz9; have y5 := keepFrozen hb5 s5 hz9; have z0 : w5.cell? ⟨wc.heap.size, 0, none⟩ = some (.int .i64 a0_0) := (hb.cell (p := ⟨wc.heap.size, 0, none⟩) (by simp)).trans (World.cell?_alloc_at _ _ _ _ rfl); have z1 : w5.cell? ⟨wc.heap.size, 1, none⟩ = some (.int .i64 a0_1) := (hb.cell (p := ⟨wc.heap.size, 1, none⟩) (by simp)).trans (World.cell?_alloc_at _ _ _ _ rfl); have z2 : w5.cell? ⟨wc.heap.size, 2, none⟩ = some (.int .i64 b) := (hb.cell (p := ⟨wc.heap.size, 2, none⟩) (by simp)).trans (World.cell?_alloc_at _ _ _ _ rfl); have z3 : w5.cell? ⟨wc.heap.size, 3, none⟩ = some (.int .i64 i) := (hb.cell (p := ⟨wc.heap.size, 3, none⟩) (by simp)).trans (World.cell?_alloc_at _ _ _ _ rfl); have z4 : w5.cell? ⟨wc.heap.size, 4, none⟩ = some (.int .i64 a0_4) := (hb.cell (p := ⟨wc.heap.size, 4, none⟩) (by simp)).trans (World.cell?_alloc_at _ _ _ _ rfl); have z5 : w5.cell? ⟨wc.heap.size, 5, none⟩ = some (.int .i64 a0_5) := (hb.cell (p := ⟨wc.heap.size, 5, none⟩) (by simp)).trans (World.cell?_alloc_at _ _ _ _ rfl); have HB6 := Aside0.mk (HB5.out.trans (hb5.mono (Nat.le_of_lt hz10))); clear hb hb5))
            refine bodyPost_ret (v := .tuple #[.agg #[.int .i64 a0_0, .int .i64 a0_1, .int .i64 a0_2, .int .i64 a0_3, .int .i64 a0_4, .int .i64 a0_5], .int .i64 12]) (by simp [results, Try.results28, go_sem, x0, x1, x2, x3, x4, x5]) rfl ⟨rfl, ?_⟩
            (with_reducible repeat (first | refine bset1 ?_ | refine below_drewN' ?_ _ | refine allocB ?_))
            with_reducible exact HB6.out
          · obtain ⟨rfl, rfl⟩ := Prod.mk.inj (hr.trans (if_pos (by simp)))
            go_wp2_with (go_at_call 11; ((with_reducible refine (field_Good.calls _ _ _ _ _ _ _ _ HG.out).mono ?_); rintro e w5 ⟨rfl, hb⟩; have hb5 : Below wc.heap.size wc w5 := ((Below.refl _ _).alloc (Nat.le_refl _) _).trans (hb.mono (by simp)); have u0 := keepCell hb5 q0 hz10; have x0 := keepCell hb5 r0 hz9; have y0 := keepFrozen hb5 s0 hz9; have u1 := keepCell hb5 q1 hz10; have x1 := keepCell hb5 r1 hz9; have y1 := keepFrozen hb5 s1 hz9; have u2 := keepCell hb5 q2 hz10; have x2 := keepCell hb5 r2 hz9; have y2 := keepFrozen hb5 s2 hz9; have u3 := keepCell hb5 q3 hz10; have x3 := keepCell hb5 r3 hz9; have y3 := keepFrozen hb5 s3 hz9; have u4 := keepCell hb5 q4 hz10; have x4 := keepCell hb5 r4 hz9; have y4 := keepFrozen hb5 s4 hz9; have u5 := keepCell hb5 q5 hz10; have x5 := keepCell hb5 r5 hz9; have y5 := keepFrozen hb5 s5 hz9; have z0 : w5.cell? ⟨wc.heap.size, 0, none⟩ = some (.int .i64 a0_0) := (hb.cell (p := ⟨wc.heap.size, 0, none⟩) (by simp)).trans (World.cell?_alloc_at _ _ _ _ rfl); have z1 : w5.cell? ⟨wc.heap.size, 1, none⟩ = some (.int .i64 a0_1) := (hb.cell (p := ⟨wc.heap.size, 1, none⟩) (by simp)).trans (World.cell?_alloc_at _ _ _ _ rfl); have z2 : w5.cell? ⟨wc.heap.size, 2, none⟩ = some (.int .i64 b) := (hb.cell (p := ⟨wc.heap.size, 2, none⟩) (by simp)).trans (World.cell?_alloc_at _ _ _ _ rfl); have z3 : w5.cell? ⟨wc.heap.size, 3, none⟩ = some (.int .i64 i) := (hb.cell (p := ⟨wc.heap.size, 3, none⟩) (by simp)).trans (World.cell?_alloc_at _ _ _ _ rfl); have z4 : w5.cell? ⟨wc.heap.size, 4, none⟩ = some (.int .i64 a0_4) := (hb.cell (p := ⟨wc.heap.size, 4, none⟩) (by simp)).trans (World.cell?_alloc_at _ _ _ _ rfl); have z5 : w5.cell? ⟨wc.heap.size, 5, none⟩ = some (.int .i64 a0_5) := (hb.cell (p := ⟨wc.heap.size, 5, none⟩) (by simp)).trans (World.cell?_alloc_at _ _ _ _ rfl); have HB6 := Aside0.mk (HB5.out.trans (hb5.mono (Nat.le_of_lt hz10))); clear hb hb5))
            refine bodyPost_ret (v := .tuple #[.agg #[.int .i64 a0_0, .int .i64 a0_1, .int .i64 b, .int .i64 i, .int .i64 a0_4, .int .i64 a0_5], .int .i64 0]) (by simp [results, Try.results28, go_sem, x0, x1, x2, x3, x4, x5]) rfl ⟨rfl, ?_⟩
            (with_reducible repeat (first | refine bset1 ?_ | refine below_drewN' ?_ _ | refine allocB ?_))
            with_reducible exact HB6.out
set_option maxHeartbeats 16000000 in
set_option maxRecDepth 100000 in
theorem move_settle_neg (a0_0 : Int) (a0_1 : Int) (a0_2 : Int) (a0_3 : Int) (a0_4 : Int) (a0_5 : Int) (a1 : Int) (b : Int) (bo : Bool) (s : Int) (so : Bool) (gd : Bool) (w : World) (hw : field_wrong.f a0_0 a0_1 a0_2 a0_3 a0_4 a0_5 a1 = some 0) (hd : decide (a1 < 0) = true) (hb : calc_Add.f a0_2 a1 = some (b, bo)) (hs : calc_Add.f a0_4 a1 = some (s, so)) (hg : field_Good.f a0_0 a0_1 b a0_3 s a0_5 = some gd) (r : Array Value) (c : Int) (hr : (r, c) = if bo = true ∧ so = true ∧ gd = true then (#[.int .i64 a0_0, .int .i64 a0_1, .int .i64 b, .int .i64 a0_3, .int .i64 s, .int .i64 a0_5], 0) else (#[.int .i64 a0_0, .int .i64 a0_1, .int .i64 a0_2, .int .i64 a0_3, .int .i64 a0_4, .int .i64 a0_5], 12)) :
    Calls Try.prog 28 #[.agg #[.int .i64 a0_0, .int .i64 a0_1, .int .i64 a0_2, .int .i64 a0_3, .int .i64 a0_4, .int .i64 a0_5], .int .i64 a1, .func (.func 29) #[] #[], .func (.func 30) #[] #[], .func (.func 30) #[] #[], .func (.func 29) #[] #[]] w fun e w' => e = .returned (.tuple #[.agg r, .int .i64 c]) ∧ Below w.heap.size w w' := by
  have HW := Aside0.mk hw
  have HB := Aside0.mk hb
  have HS := Aside0.mk hs
  have HG := Aside0.mk hg
  have HR := Aside0.mk hr
  clear hw hg hr hb hs
  go_enter Try.func28, Try.ntmps28
  go_wp2_with (go_at_call 26; ((with_reducible refine (field_wrong.calls _ _ _ _ _ _ _ _ _ HW.out).mono ?_); rintro e w1 ⟨rfl, hb⟩; obtain ⟨hc, hf⟩ := bcell hb; have hz : w.heap.size + 1 < w1.heap.size := (by have := hb.size; simp at this; omega)))
  have k0 : w1.cell? ⟨w.heap.size, 0, none⟩ = some (.int .i64 a0_0) := by simp [hc, go_sem]
  have k1 : w1.cell? ⟨w.heap.size, 1, none⟩ = some (.int .i64 a0_1) := by simp [hc, go_sem]
  have k2 : w1.cell? ⟨w.heap.size, 2, none⟩ = some (.int .i64 a0_2) := by simp [hc, go_sem]
  have k3 : w1.cell? ⟨w.heap.size, 3, none⟩ = some (.int .i64 a0_3) := by simp [hc, go_sem]
  have k4 : w1.cell? ⟨w.heap.size, 4, none⟩ = some (.int .i64 a0_4) := by simp [hc, go_sem]
  have k5 : w1.cell? ⟨w.heap.size, 5, none⟩ = some (.int .i64 a0_5) := by simp [hc, go_sem]
  have m0 : w1.cell? ⟨w.heap.size + 1, 0, none⟩ = some (.int .i64 0) := by simp [hc, go_sem]
  have n0 : w1.frozen? ⟨w.heap.size + 1, 0, none⟩ = false := by simp [hf, go_sem]
  have m1 : w1.cell? ⟨w.heap.size + 1, 1, none⟩ = some (.int .i64 0) := by simp [hc, go_sem]
  have n1 : w1.frozen? ⟨w.heap.size + 1, 1, none⟩ = false := by simp [hf, go_sem]
  have m2 : w1.cell? ⟨w.heap.size + 1, 2, none⟩ = some (.int .i64 0) := by simp [hc, go_sem]
  have n2 : w1.frozen? ⟨w.heap.size + 1, 2, none⟩ = false := by simp [hf, go_sem]
  have m3 : w1.cell? ⟨w.heap.size + 1, 3, none⟩ = some (.int .i64 0) := by simp [hc, go_sem]
  have n3 : w1.frozen? ⟨w.heap.size + 1, 3, none⟩ = false := by simp [hf, go_sem]
  have m4 : w1.cell? ⟨w.heap.size + 1, 4, none⟩ = some (.int .i64 0) := by simp [hc, go_sem]
  have n4 : w1.frozen? ⟨w.heap.size + 1, 4, none⟩ = false := by simp [hf, go_sem]
  have m5 : w1.cell? ⟨w.heap.size + 1, 5, none⟩ = some (.int .i64 0) := by simp [hc, go_sem]
  have n5 : w1.frozen? ⟨w.heap.size + 1, 5, none⟩ = false := by simp [hf, go_sem]
  have K0 := Aside0.mk k0
  have M0 := Aside0.mk m0
  have N0 := Aside0.mk n0
  have K1 := Aside0.mk k1
  have M1 := Aside0.mk m1
  have N1 := Aside0.mk n1
  have K2 := Aside0.mk k2
  have M2 := Aside0.mk m2
  have N2 := Aside0.mk n2
  have K3 := Aside0.mk k3
  have M3 := Aside0.mk m3
  have N3 := Aside0.mk n3
  have K4 := Aside0.mk k4
  have M4 := Aside0.mk m4
  have N4 := Aside0.mk n4
  have K5 := Aside0.mk k5
  have M5 := Aside0.mk m5
  have N5 := Aside0.mk n5
  clear k0 k1 k3 k4 m0 m1 m2 m3 m4 m5 n0 n1 n2 n3 n4 n5
  have hbw : Below w.heap.size w w1 := ((Below.refl _ _).alloc (Nat.le_refl _) _ |>.alloc (by simp) _).trans (hb.mono (by simp; omega))
  have HBW := Aside0.mk hbw
  clear hb hbw hc hf
  go_cut [15, 16] (fun p1 p2 wc => ∃ b1 b2 : Nat, p1 = .pointer (some ⟨b1, 0, none⟩) ∧ p2 = .pointer (some ⟨b2, 0, none⟩) ∧ TwoParts w1 b1 b2 a0_5 true b bo wc)
  case first =>
    go_region_held3 (fun w' => Below w1.heap.size w1 w' ∧ w'.cell? ⟨w.heap.size, 5, none⟩ = some (.int .i64 a0_5) ∧ w'.cell? ⟨w.heap.size, 2, none⟩ = some (.int .i64 a0_2)) (with_reducible ((refine keepTwo k5 k2 ?_); (with_reducible (repeat (first | exact Below.refl _ _ | refine Below.drew ?_ | refine belowDN ?_ | refine allocB ?_ | refine setB ?_ ?_ | omega))))) (first | (go_at_call 29; ((with_reducible refine (part_still_t _ _ _).mono ?_); rintro e w' ⟨rfl, nd, c1, c2, rfl⟩)) | (go_at_call 30; ((with_reducible refine (part_more_t _ _ _ _ _ HB.out).mono ?_); rintro e w' ⟨rfl, nd, c1, c2, rfl⟩)))
    all_goals
      go_wp2
      go_meet
      case rel => exact ⟨_, _, rfl, rfl, (by (with_reducible (repeat (first | exact Below.refl _ _ | refine Below.drew ?_ | refine belowDN ?_ | refine allocB ?_ | refine setB ?_ ?_ | omega)))), (by omega), (by omega), (by (first | (simp [go_sem]; done) | ((with_reducible refine World.cell?_setCell_same' _ _ _ ?_); (simp [go_sem]; done)) | (simp [go_sem]; (with_reducible refine World.cell?_setCell_same' _ _ _ ?_); (simp [go_sem]; done)))), (by (first | (simp [go_sem]; done) | ((with_reducible refine World.cell?_setCell_same' _ _ _ ?_); (simp [go_sem]; done)) | (simp [go_sem]; (with_reducible refine World.cell?_setCell_same' _ _ _ ?_); (simp [go_sem]; done)))), (by (first | (simp [go_sem]; done) | ((with_reducible refine World.cell?_setCell_same' _ _ _ ?_); (simp [go_sem]; done)) | (simp [go_sem]; (with_reducible refine World.cell?_setCell_same' _ _ _ ?_); (simp [go_sem]; done)))), (by (first | (simp [go_sem]; done) | ((with_reducible refine World.cell?_setCell_same' _ _ _ ?_); (simp [go_sem]; done)) | (simp [go_sem]; (with_reducible refine World.cell?_setCell_same' _ _ _ ?_); (simp [go_sem]; done))))⟩
  case rest =>
    rename World => w2
    obtain ⟨b1, b2, rfl, rfl, hB1, g1, g2, d0, d1, d2, d3⟩ := hcut
    have p3 := keepCell hB1 K3.out (show w.heap.size < w1.heap.size by omega)
    have p4 := keepCell hB1 K4.out (show w.heap.size < w1.heap.size by omega)
    have hz1 := hB1.size
    have H1 := Aside0.mk hB1
    have D0 := Aside0.mk d0
    have D1 := Aside0.mk d1
    have D2 := Aside0.mk d2
    have D3 := Aside0.mk d3
    clear hB1 k2 k5 d0 d1 d2 d3
    go_upto_region 7 with (fail)
    go_cut [17, 18] (fun p1 p2 wc => ∃ b1 b2 : Nat, p1 = .pointer (some ⟨b1, 0, none⟩) ∧ p2 = .pointer (some ⟨b2, 0, none⟩) ∧ TwoParts w2 b1 b2 a0_3 true s so wc)
    case first =>
      go_region_held3 (fun w' => Below w2.heap.size w2 w' ∧ w'.cell? ⟨w.heap.size, 3, none⟩ = some (.int .i64 a0_3) ∧ w'.cell? ⟨w.heap.size, 4, none⟩ = some (.int .i64 a0_4)) (with_reducible ((refine keepTwo p3 p4 ?_); (with_reducible (repeat (first | exact Below.refl _ _ | refine Below.drew ?_ | refine belowDN ?_ | refine allocB ?_ | refine setB ?_ ?_ | omega))))) (first | (go_at_call 29; ((with_reducible refine (part_still_t _ _ _).mono ?_); rintro e w' ⟨rfl, nd, c1, c2, rfl⟩)) | (go_at_call 30; ((with_reducible refine (part_more_t _ _ _ _ _ HS.out).mono ?_); rintro e w' ⟨rfl, nd, c1, c2, rfl⟩)))
      all_goals
        go_wp2
        go_meet
        case rel => exact ⟨_, _, rfl, rfl, (by (with_reducible (repeat (first | exact Below.refl _ _ | refine Below.drew ?_ | refine belowDN ?_ | refine allocB ?_ | refine setB ?_ ?_ | omega)))), (by omega), (by omega), (by (first | (simp [go_sem]; done) | ((with_reducible refine World.cell?_setCell_same' _ _ _ ?_); (simp [go_sem]; done)) | (simp [go_sem]; (with_reducible refine World.cell?_setCell_same' _ _ _ ?_); (simp [go_sem]; done)))), (by (first | (simp [go_sem]; done) | ((with_reducible refine World.cell?_setCell_same' _ _ _ ?_); (simp [go_sem]; done)) | (simp [go_sem]; (with_reducible refine World.cell?_setCell_same' _ _ _ ?_); (simp [go_sem]; done)))), (by (first | (simp [go_sem]; done) | ((with_reducible refine World.cell?_setCell_same' _ _ _ ?_); (simp [go_sem]; done)) | (simp [go_sem]; (with_reducible refine World.cell?_setCell_same' _ _ _ ?_); (simp [go_sem]; done)))), (by (first | (simp [go_sem]; done) | ((with_reducible refine World.cell?_setCell_same' _ _ _ ?_); (simp [go_sem]; done)) | (simp [go_sem]; (with_reducible refine World.cell?_setCell_same' _ _ _ ?_); (simp [go_sem]; done))))⟩
    case rest =>
      obtain ⟨b3, b4, rfl, rfl, hB3, g3, g4, d4, d5, d6, d7⟩ := hcut
      have hz3 := hB3.size
      have hB4 := H1.out.trans (hB3.mono hz1)
      have q0 := keepCell hB4 K0.out (show w.heap.size < w1.heap.size by omega)
      have r0 := keepCell hB4 M0.out (show w.heap.size + 1 < w1.heap.size by omega)
      have s0 := keepFrozen hB4 N0.out (show w.heap.size + 1 < w1.heap.size by omega)
      have q1 := keepCell hB4 K1.out (show w.heap.size < w1.heap.size by omega)
      have r1 := keepCell hB4 M1.out (show w.heap.size + 1 < w1.heap.size by omega)
      have s1 := keepFrozen hB4 N1.out (show w.heap.size + 1 < w1.heap.size by omega)
      have q2 := keepCell hB4 K2.out (show w.heap.size < w1.heap.size by omega)
      have r2 := keepCell hB4 M2.out (show w.heap.size + 1 < w1.heap.size by omega)
      have s2 := keepFrozen hB4 N2.out (show w.heap.size + 1 < w1.heap.size by omega)
      have q3 := keepCell hB4 K3.out (show w.heap.size < w1.heap.size by omega)
      have r3 := keepCell hB4 M3.out (show w.heap.size + 1 < w1.heap.size by omega)
      have s3 := keepFrozen hB4 N3.out (show w.heap.size + 1 < w1.heap.size by omega)
      have q4 := keepCell hB4 K4.out (show w.heap.size < w1.heap.size by omega)
      have r4 := keepCell hB4 M4.out (show w.heap.size + 1 < w1.heap.size by omega)
      have s4 := keepFrozen hB4 N4.out (show w.heap.size + 1 < w1.heap.size by omega)
      have q5 := keepCell hB4 K5.out (show w.heap.size < w1.heap.size by omega)
      have r5 := keepCell hB4 M5.out (show w.heap.size + 1 < w1.heap.size by omega)
      have s5 := keepFrozen hB4 N5.out (show w.heap.size + 1 < w1.heap.size by omega)
      have d0 := keepCell hB3 D0.out (World.block_lt_of_cell? _ _ D0.out)
      have d1 := keepCell hB3 D1.out (World.block_lt_of_cell? _ _ D1.out)
      have d2 := keepCell hB3 D2.out (World.block_lt_of_cell? _ _ D2.out)
      have d3 := keepCell hB3 D3.out (World.block_lt_of_cell? _ _ D3.out)
      have hz5 := World.block_lt_of_cell? _ _ d4
      have hz6 := World.block_lt_of_cell? _ _ d6
      have hz7 := World.block_lt_of_cell? _ _ d0
      have hz8 := World.block_lt_of_cell? _ _ d2
      have HB5 := Aside0.mk (HBW.out.trans (hB4.mono (show w.heap.size ≤ w1.heap.size by omega)))
      clear HBW hB3 hB4 H1 K0 M0 N0 K1 M1 N1 K2 M2 N2 K3 M3 N3 K4 M4 N4 K5 M5 N5
      have hz9 : w.heap.size + 1 < wc.heap.size := by omega
      have hz10 : w.heap.size < wc.heap.size := by omega
      have hr := HR.out
      clear hz1 hz3 g1 g2 g3 g4 HR HW
      cases bo
      · obtain ⟨rfl, rfl⟩ := Prod.mk.inj (hr.trans (if_neg (by simp)))
        go_wp2_with (fail)
        refine bodyPost_ret (v := .tuple #[.agg #[.int .i64 a0_0, .int .i64 a0_1, .int .i64 a0_2, .int .i64 a0_3, .int .i64 a0_4, .int .i64 a0_5], .int .i64 12]) (by simp [results, Try.results28, go_sem, r0, r1, r2, r3, r4, r5, hz9]) rfl ⟨rfl, ?_⟩
        (with_reducible repeat (first | refine bset1 ?_ | refine below_drewN' ?_ _ | refine allocB ?_))
        with_reducible exact HB5.out
      · skip
        cases so
        · obtain ⟨rfl, rfl⟩ := Prod.mk.inj (hr.trans (if_neg (by simp)))
          go_wp2_with (fail)
          refine bodyPost_ret (v := .tuple #[.agg #[.int .i64 a0_0, .int .i64 a0_1, .int .i64 a0_2, .int .i64 a0_3, .int .i64 a0_4, .int .i64 a0_5], .int .i64 12]) (by simp [results, Try.results28, go_sem, r0, r1, r2, r3, r4, r5, hz9]) rfl ⟨rfl, ?_⟩
          (with_reducible repeat (first | refine bset1 ?_ | refine below_drewN' ?_ _ | refine allocB ?_))
          with_reducible exact HB5.out
        · skip
          cases gd
          · obtain ⟨rfl, rfl⟩ := Prod.mk.inj (hr.trans (if_neg (by simp)))
            go_wp2_with (go_at_call 11; ((with_reducible refine (field_Good.calls _ _ _ _ _ _ _ _ HG.out).mono ?_); rintro e w5 ⟨rfl, hb⟩; have hb5 : Below wc.heap.size wc w5 := ((Below.refl _ _).alloc (Nat.le_refl _) _).trans (hb.mono (by simp)); have u0 := keepCell hb5 q0 hz10; have x0 := keepCell hb5 r0 hz9; have y0 := keepFrozen hb5 s0 hz9; have u1 := keepCell hb5 q1 hz10; have x1 := keepCell hb5 r1 hz9; have y1 := keepFrozen hb5 s1 hz9; have u2 := keepCell hb5 q2 hz10; have x2 := keepCell hb5 r2 hz9; have y2 := keepFrozen hb5 s2 hz9; have u3 := keepCell hb5 q3 hz10; have x3 := keepCell hb5 r3 hz9; have y3 := keepFrozen hb5 s3 hz9; have u4 := keepCell hb5 q4 hz10; have x4 := keepCell hb5 r4 hz9; have y4 := keepFrozen hb5 s4 hz9; have u5 := keepCell hb5 q5 hz10; have x5 := keepCell hb5 r5 hz9; have y5 := keepFrozen hb5 s5 hz9; have z0 : w5.cell? ⟨wc.heap.size, 0, none⟩ = some (.int .i64 a0_0) := (hb.cell (p := ⟨wc.heap.size, 0, none⟩) (by simp)).trans (World.cell?_alloc_at _ _ _ _ rfl); have z1 : w5.cell? ⟨wc.heap.size, 1, none⟩ = some (.int .i64 a0_1) := (hb.cell (p := ⟨wc.heap.size, 1, none⟩) (by simp)).trans (World.cell?_alloc_at _ _ _ _ rfl); have z2 : w5.cell? ⟨wc.heap.size, 2, none⟩ = some (.int .i64 b) := (hb.cell (p := ⟨wc.heap.size, 2, none⟩) (by simp)).trans (World.cell?_alloc_at _ _ _ _ rfl); have z3 : w5.cell? ⟨wc.heap.size, 3, none⟩ = some (.int .i64 a0_3) := (hb.cell (p := ⟨wc.heap.size, 3, none⟩) (by simp)).trans (World.cell?_alloc_at _ _ _ _ rfl); have z4 : w5.cell? ⟨wc.heap.size, 4, none⟩ = some (.int .i64 s) := (hb.cell (p := ⟨wc.heap.size, 4, none⟩) (by simp)).trans (World.cell?_alloc_at _ _ _ _ rfl); have z5 : w5.cell? ⟨wc.heap.size, 5, none⟩ = some (.int .i64 a0_5) := (hb.cell (p := ⟨wc.heap.size, 5, none⟩) (by simp)).trans (World.cell?_alloc_at _ _ _ _ rfl); have HB6 := Aside0.mk (HB5.out.trans (hb5.mono (Nat.le_of_lt hz10))); clear hb hb5))
            refine bodyPost_ret (v := .tuple #[.agg #[.int .i64 a0_0, .int .i64 a0_1, .int .i64 a0_2, .int .i64 a0_3, .int .i64 a0_4, .int .i64 a0_5], .int .i64 12]) (by simp [results, Try.results28, go_sem, x0, x1, x2, x3, x4, x5]) rfl ⟨rfl, ?_⟩
            (with_reducible repeat (first | refine bset1 ?_ | refine below_drewN' ?_ _ | refine allocB ?_))
            with_reducible exact HB6.out
          · obtain ⟨rfl, rfl⟩ := Prod.mk.inj (hr.trans (if_pos (by simp)))
            go_wp2_with (go_at_call 11; ((with_reducible refine (field_Good.calls _ _ _ _ _ _ _ _ HG.out).mono ?_); rintro e w5 ⟨rfl, hb⟩; have hb5 : Below wc.heap.size wc w5 := ((Below.refl _ _).alloc (Nat.le_refl _) _).trans (hb.mono (by simp)); have u0 := keepCell hb5 q0 hz10; have x0 := keepCell hb5 r0 hz9; have y0 := keepFrozen hb5 s0 hz9; have u1 := keepCell hb5 q1 hz10; have x1 := keepCell hb5 r1 hz9; have y1 := keepFrozen hb5 s1 hz9; have u2 := keepCell hb5 q2 hz10; have x2 := keepCell hb5 r2 hz9; have y2 := keepFrozen hb5 s2 hz9; have u3 := keepCell hb5 q3 hz10; have x3 := keepCell hb5 r3 hz9; have y3 := keepFrozen hb5 s3 hz9; have u4 := keepCell hb5 q4 hz10; have x4 := keepCell hb5 r4 hz9; have y4 := keepFrozen hb5 s4 hz9; have u5 := keepCell hb5 q5 hz10; have x5 := keepCell hb5 r5 hz9; have y5 := keepFrozen hb5 s5 hz9; have z0 : w5.cell? ⟨wc.heap.size, 0, none⟩ = some (.int .i64 a0_0) := (hb.cell (p := ⟨wc.heap.size, 0, none⟩) (by simp)).trans (World.cell?_alloc_at _ _ _ _ rfl); have z1 : w5.cell? ⟨wc.heap.size, 1, none⟩ = some (.int .i64 a0_1) := (hb.cell (p := ⟨wc.heap.size, 1, none⟩) (by simp)).trans (World.cell?_alloc_at _ _ _ _ rfl); have z2 : w5.cell? ⟨wc.heap.size, 2, none⟩ = some (.int .i64 b) := (hb.cell (p := ⟨wc.heap.size, 2, none⟩) (by simp)).trans (World.cell?_alloc_at _ _ _ _ rfl); have z3 : w5.cell? ⟨wc.heap.size, 3, none⟩ = some (.int .i64 a0_3) := (hb.cell (p := ⟨wc.heap.size, 3, none⟩) (by simp)).trans (World.cell?_alloc_at _ _ _ _ rfl); have z4 : w5.cell? ⟨wc.heap.size, 4, none⟩ = some (.int .i64 s) := (hb.cell (p := ⟨wc.heap.size, 4, none⟩) (by simp)).trans (World.cell?_alloc_at _ _ _ _ rfl); have z5 : w5.cell? ⟨wc.heap.size, 5, none⟩ = some (.int .i64 a0_5) := (hb.cell (p := ⟨wc.heap.size, 5, none⟩) (by simp)).trans (World.cell?_alloc_at _ _ _ _ rfl); have HB6 := Aside0.mk (HB5.out.trans (hb5.mono (Nat.le_of_lt hz10))); clear hb hb5))
            refine bodyPost_ret (v := .tuple #[.agg #[.int .i64 a0_0, .int .i64 a0_1, .int .i64 b, .int .i64 a0_3, .int .i64 s, .int .i64 a0_5], .int .i64 0]) (by simp [results, Try.results28, go_sem, x0, x1, x2, x3, x4, x5]) rfl ⟨rfl, ?_⟩
            (with_reducible repeat (first | refine bset1 ?_ | refine below_drewN' ?_ _ | refine allocB ?_))
            with_reducible exact HB6.out
set_option maxHeartbeats 2000000 in
set_option maxRecDepth 100000 in
theorem field_Settle.run (a0_0 : Int) (a0_1 : Int) (a0_2 : Int) (a0_3 : Int) (a0_4 : Int) (a0_5 : Int) (a1 : Int) (x0 x1 x2 x3 x4 x5 c : Int) (w : World) (hm : ∀ w : World, Calls Try.prog 28 #[.agg #[.int .i64 a0_0, .int .i64 a0_1, .int .i64 a0_2, .int .i64 a0_3, .int .i64 a0_4, .int .i64 a0_5], .int .i64 a1, .func (.func 29) #[] #[], .func (.func 30) #[] #[], .func (.func 30) #[] #[], .func (.func 29) #[] #[]] w fun e w' => e = .returned (.tuple #[.agg #[.int .i64 x0, .int .i64 x1, .int .i64 x2, .int .i64 x3, .int .i64 x4, .int .i64 x5], .int .i64 c]) ∧ Below w.heap.size w w') :
    Calls Try.prog 15 #[.agg #[.int .i64 a0_0, .int .i64 a0_1, .int .i64 a0_2, .int .i64 a0_3, .int .i64 a0_4, .int .i64 a0_5], .int .i64 a1] w fun e w' => e = .returned (.tuple #[.agg #[.int .i64 x0, .int .i64 x1, .int .i64 x2, .int .i64 x3, .int .i64 x4, .int .i64 x5], .int .i64 c]) ∧ Below w.heap.size w w' := by
  have HM := Aside0.mk hm
  clear hm
  go_enter Try.func15, Try.ntmps15
  go_wp2_with (go_at_call 28; ((with_reducible refine (HM.out _).mono ?_); rintro e w1 ⟨rfl, hb⟩; obtain ⟨hc, hf⟩ := bcell hb))
  refine bodyPost_ret (v := .tuple #[.agg #[.int .i64 x0, .int .i64 x1, .int .i64 x2, .int .i64 x3, .int .i64 x4, .int .i64 x5], .int .i64 c]) (by simp [results, Try.results15, go_sem, hc]) rfl ⟨rfl, ?_⟩
  (with_reducible repeat (first | refine bset0 ?_ | refine bset1 ?_))
  exact ((Below.refl _ _).alloc (Nat.le_refl _) _ |>.alloc (by simp) _).trans (hb.mono (by simp; omega))
def field_Settle.f (a0_0 : Int) (a0_1 : Int) (a0_2 : Int) (a0_3 : Int) (a0_4 : Int) (a0_5 : Int) (a1 : Int) : Option (Int × Int × Int × Int × Int × Int × Int) :=
  if In64 a0_0 ∧ In64 a0_1 ∧ In64 a0_2 ∧ In64 a0_3 ∧ In64 a0_4 ∧ In64 a0_5 ∧ In64 a1 then some (moveP a0_0 a0_1 a0_2 a0_3 a0_4 a0_5 a1 (a0_5) (a0_2 + a1) (if a1 < 0 then a0_3 else a0_3 + a1) (if a1 < 0 then a0_4 + a1 else a0_4)) else none
theorem field_Settle.calls (a0_0 : Int) (a0_1 : Int) (a0_2 : Int) (a0_3 : Int) (a0_4 : Int) (a0_5 : Int) (a1 : Int) (r1 : Int) (r2 : Int) (r3 : Int) (r4 : Int) (r5 : Int) (r6 : Int) (r7 : Int) (w : World) (h : field_Settle.f a0_0 a0_1 a0_2 a0_3 a0_4 a0_5 a1 = some (r1, r2, r3, r4, r5, r6, r7)) :
    Calls Try.prog 15 #[.agg #[.int .i64 a0_0, .int .i64 a0_1, .int .i64 a0_2, .int .i64 a0_3, .int .i64 a0_4, .int .i64 a0_5], .int .i64 a1] w fun e w' => e = .returned (.tuple #[.agg #[.int .i64 r1, .int .i64 r2, .int .i64 r3, .int .i64 r4, .int .i64 r5, .int .i64 r6], .int .i64 r7]) ∧ Below w.heap.size w w' := by
  unfold field_Settle.f at h
  split at h
  case isFalse => simp at h
  case isTrue hh =>
  obtain ⟨i0, i1, i2, i3, i4, i5, i6⟩ := hh
  simp only [Option.some.injEq] at h
  have hw := field_wrong_eq a0_0 a0_1 a0_2 a0_3 a0_4 a0_5 a1
  refine field_Settle.run _ _ _ _ _ _ _ _ _ _ _ _ _ _ w (fun w => ?_)
  unfold moveP at h
  by_cases g : GoodP a0_0 a0_1 a0_2 a0_3 a0_4 a0_5
  · rw [if_neg (fun z => z g)] at h hw
    by_cases g1 : a1 = 0 ∨ a1 = -9223372036854775808
    · rw [if_pos g1] at h hw
      simp only [Prod.mk.injEq] at h
      obtain ⟨rfl, rfl, rfl, rfl, rfl, rfl, rfl⟩ := h
      exact move_wrong _ _ _ _ _ _ _ 1 _ _ _ _ w hw (by decide)
    · rw [if_neg g1] at h hw
      by_cases c : a1 < 0
      · have hd : decide (a1 < 0) = true := decide_eq_true c
        refine move_settle_neg a0_0 a0_1 a0_2 a0_3 a0_4 a0_5 a1 _ _ _ _ _ w hw hd ((add_fit a0_2 a1 i2 i6).trans (congrArg some (fit_pair _))) ((add_fit a0_4 a1 i4 i6).trans (congrArg some (fit_pair _))) (field_Good_eq a0_0 a0_1 (fit (a0_2 + a1)).1 a0_3 (fit (a0_4 + a1)).1 a0_5) _ _ ?_
        simp only [c, if_true] at h
        by_cases y : In64 (a0_5) ∧ In64 (a0_2 + a1) ∧ In64 (a0_3) ∧ In64 (a0_4 + a1) ∧ GoodP a0_0 a0_1 (a0_2 + a1) (a0_3) (a0_4 + a1) (a0_5)
        · rw [if_pos y] at h
          simp only [Prod.mk.injEq] at h
          obtain ⟨rfl, rfl, rfl, rfl, rfl, rfl, rfl⟩ := h
          rw [if_pos ⟨(fit_snd _).trans (decide_eq_true y.2.1), (fit_snd _).trans (decide_eq_true y.2.2.2.1), decide_eq_true (by rw [fit_fst y.2.1, fit_fst y.2.2.2.1]; exact y.2.2.2.2)⟩, fit_fst y.2.1, fit_fst y.2.2.2.1]
        · rw [if_neg y] at h
          simp only [Prod.mk.injEq] at h
          obtain ⟨rfl, rfl, rfl, rfl, rfl, rfl, rfl⟩ := h
          rw [if_neg]
          rintro ⟨z0, z1, z2⟩
          rw [fit_snd] at z0
          replace z0 := of_decide_eq_true z0
          rw [fit_snd] at z1
          replace z1 := of_decide_eq_true z1
          replace z2 := of_decide_eq_true z2
          rw [fit_fst z0, fit_fst z1] at z2
          exact y ⟨i5, z0, i3, z1, z2⟩
      · have hd : decide (a1 < 0) = false := decide_eq_false c
        refine move_settle_pos a0_0 a0_1 a0_2 a0_3 a0_4 a0_5 a1 _ _ _ _ _ w hw hd ((add_fit a0_2 a1 i2 i6).trans (congrArg some (fit_pair _))) ((add_fit a0_3 a1 i3 i6).trans (congrArg some (fit_pair _))) (field_Good_eq a0_0 a0_1 (fit (a0_2 + a1)).1 (fit (a0_3 + a1)).1 a0_4 a0_5) _ _ ?_
        simp only [c, if_false] at h
        by_cases y : In64 (a0_5) ∧ In64 (a0_2 + a1) ∧ In64 (a0_3 + a1) ∧ In64 (a0_4) ∧ GoodP a0_0 a0_1 (a0_2 + a1) (a0_3 + a1) (a0_4) (a0_5)
        · rw [if_pos y] at h
          simp only [Prod.mk.injEq] at h
          obtain ⟨rfl, rfl, rfl, rfl, rfl, rfl, rfl⟩ := h
          rw [if_pos ⟨(fit_snd _).trans (decide_eq_true y.2.1), (fit_snd _).trans (decide_eq_true y.2.2.1), decide_eq_true (by rw [fit_fst y.2.1, fit_fst y.2.2.1]; exact y.2.2.2.2)⟩, fit_fst y.2.1, fit_fst y.2.2.1]
        · rw [if_neg y] at h
          simp only [Prod.mk.injEq] at h
          obtain ⟨rfl, rfl, rfl, rfl, rfl, rfl, rfl⟩ := h
          rw [if_neg]
          rintro ⟨z0, z1, z2⟩
          rw [fit_snd] at z0
          replace z0 := of_decide_eq_true z0
          rw [fit_snd] at z1
          replace z1 := of_decide_eq_true z1
          replace z2 := of_decide_eq_true z2
          rw [fit_fst z0, fit_fst z1] at z2
          exact y ⟨i5, z0, z1, i4, z2⟩
  · rw [if_pos g] at h hw
    simp only [Prod.mk.injEq] at h
    obtain ⟨rfl, rfl, rfl, rfl, rfl, rfl, rfl⟩ := h
    exact move_wrong _ _ _ _ _ _ _ 12 _ _ _ _ w hw (by decide)


end Go.Proofs.Ytdpbfiifdphpcaa.G
