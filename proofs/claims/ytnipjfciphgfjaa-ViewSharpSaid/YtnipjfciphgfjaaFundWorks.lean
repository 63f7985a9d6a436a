/- The walk of the chapter's example. -/
import Derived.Test.YtnipjfciphgfjaaFundPlain
namespace Go.Proofs.Ytnipjfciphgfjaa.V
open Go.RowKit Go.Proofs.Ytnipjfciphgfjaa.G Go.Proofs.YtnipjfciphgfjaaW.PrintWords Go.Proofs.YtnipjfciphgfjaaW.PrintLast Go.Proofs.YtnipjfciphgfjaaW.PrintMore
set_option linter.unusedVariables false
set_option linter.unusedSimpArgs false
set_option maxHeartbeats 2000000
set_option maxRecDepth 100000
theorem eqA49 (d : Nat) (w : World) (x0 y0 : Int) (x1 y1 : Int) (x2 y2 : Int) :
    (Op.equalIn (d + 2) 49 (.agg #[.int .i64 x0, .int .i64 x1, .int .i64 x2]) (.agg #[.int .i64 y0, .int .i64 y1, .int .i64 y2])).run Try.prog w = .ok (x0 == y0 && (x1 == y1 && (x2 == y2))) w := by
  refine eqA_of Try.underlying49 (by kernel_rfl) ?_
  refine eqf_cons (by rfl) (by go_simp; rfl) (by go_simp; rfl) (by go_simp) ?_
  refine eqf_cons (by rfl) (by go_simp; rfl) (by go_simp; rfl) (by go_simp) ?_
  exact eqf_last (by rfl) (by go_simp; rfl) (by go_simp; rfl) (by go_simp)
attribute [local go_sem high] eqA49
theorem one_row {α : Type} {d : Kd α} {w : World} {b : Nat} {cs : Array Value} {t : TypeId} {x : α} (h : w.heap[b]? = some (.cells cs t (0, 0))) (hK : d.K w x cs.toList) : d.C w (some ⟨b, 0, none⟩) 1 [x] := by
  refine ⟨rfl, by decide, fun _ => ⟨⟨b, 0, none⟩, rfl, fun j p hj => ?_⟩⟩
  cases j with
  | zero =>
    obtain rfl : x = p := by simpa using hj
    refine ⟨cs.toList, d.K_len hK, hK, fun i u hu => ?_⟩
    have : (⟨b, 0, none⟩ : Addr).add (0 * d.sz + i) = ⟨b, i, none⟩ := by
      simp [Addr.add, Nat.zero_mul]; exact fun h => h.symm
    rw [this]
    exact (blk_cell h i).trans (by simpa using hu)
  | succ j => simp at hj
def d0 : S60 := ⟨⟨1, 0, 0⟩, 0, 5, 9⟩
def M1 : Rowmap := (stepOf grantOf (newMap [d0]) (1, 0, 0) (-2)).1
theorem M1_is : M1 (1, 0, 0) = some (0, 9, 5, 3, 5, 3) := by decide +kernel
theorem M1_code : (stepOf grantOf (newMap [d0]) (1, 0, 0) (-2)).2 = 0 := by decide +kernel
theorem M1_free : farV 0 3 = 3 := by decide +kernel
theorem M1_room : farV 5 9 = 4 := by decide +kernel
theorem M1_seen : seen M1 0 0 = ⟨3, 3, 5⟩ := by unfold seen; rw [M1_is]; rfl
theorem M1_spans : spansOf M1 1 1 0 = [⟨3, 3, 5⟩] := by
  have e : spansOf M1 1 1 0 = seens M1 0 1 := rfl
  rw [e]
  show [seen M1 0 0] = _
  rw [M1_seen]
theorem M0_wf : WF (newMap [d0]) := WF.new _ (by
  intro d hd
  obtain rfl := List.mem_singleton.1 hd
  unfold DIn In64 d0; simp)
/-- A fund is made: three new blocks, and no elder one is turned. -/
theorem fund_New'.calls (w : World) (A : Option Addr) (c : Nat) (l : List S60) (hr : Kd.C k60 w A l.length l) (hc : l.length ≤ c) (hl : l.length ≤ 40) (hk : ∀ d ∈ l, DKey d) :
    Calls Try.prog 7 #[.slice A l.length c] w fun e w' => ∃ f t b, e = .returned (.pointer (some ⟨f, 0, none⟩)) ∧ Below w.heap.size w w' ∧ IsFund w' f t b l.length (newMap l) ∧ w.heap.size ≤ b :=
  (fund_New.calls w A c l hr hc hl hk).mono fun e w' ⟨h1, h2, h3⟩ => ⟨_, _, _, h1, h2, h3, Nat.le_refl _⟩
theorem new_d0 (w : World) (b : Nat) (h : w.heap[b]? = some (.cells #[.int .u8 1, .int .u8 0, .int .u8 0, .int .i64 0, .int .i64 5, .int .i64 9] 60 (0, 0))) :
    Calls Try.prog 7 #[.slice (some ⟨b, 0, none⟩) 1 1] w fun e w' => ∃ f t c, e = .returned (.pointer (some ⟨f, 0, none⟩)) ∧ Below w.heap.size w w' ∧ IsFund w' f t c 1 (newMap [d0]) ∧ w.heap.size ≤ c :=
  fund_New'.calls w _ 1 [d0] (one_row h (k60_mk w d0)) (Nat.le_refl _) (by decide) (by
    intro d hd
    obtain rfl := List.mem_singleton.1 hd
    exact ⟨u8_iff.2 (by decide), u8_iff.2 (by decide), u8_iff.2 (by decide)⟩)
theorem grant_d0 (w : World) (f t b : Nat) (h : IsFund w f t b 1 (newMap [d0])) :
    Calls Try.prog 8 #[.pointer (some ⟨f, 0, none⟩), .agg #[.int .u8 1, .int .u8 0, .int .u8 0, .int .i64 (-2)]] w fun e w' => e = .returned (.int .i64 0) ∧ w.grownBy w' (some b) ∧ IsFund w' f t b 2 M1 := by
  have z := fund_Grant.calls grantOf w f t b 1 (newMap [d0]) 1 0 0 (-2) h (by decide) (u8_iff.2 (by decide)) (u8_iff.2 (by decide)) (u8_iff.2 (by decide)) (fun x hx => makes_grant x _ (M0_wf _ x hx).1 (by decide))
  rw [M1_code] at z
  exact z
theorem free_d0 (w : World) (f t b : Nat) (h : IsFund w f t b 2 M1) :
    Calls Try.prog 9 #[.pointer (some ⟨f, 0, none⟩), .agg #[.int .u8 1, .int .u8 0, .int .u8 0]] w fun e w' => e = .returned (.int .i64 3) ∧ Below w.heap.size w w' :=
  view_Free.calls w f t b 2 M1 1 0 0 0 9 5 3 5 3 3 h (u8_iff.2 (by decide)) (u8_iff.2 (by decide)) (u8_iff.2 (by decide)) (by rw [M1_is]; rfl) (by rw [view_far_eq, M1_free])
theorem room_d0 (w : World) (f t b : Nat) (h : IsFund w f t b 2 M1) :
    Calls Try.prog 10 #[.pointer (some ⟨f, 0, none⟩), .agg #[.int .u8 1, .int .u8 0, .int .u8 0]] w fun e w' => e = .returned (.int .i64 4) ∧ Below w.heap.size w w' :=
  view_Room.calls w f t b 2 M1 1 0 0 0 9 5 3 5 3 4 h (u8_iff.2 (by decide)) (u8_iff.2 (by decide)) (u8_iff.2 (by decide)) (by rw [M1_is]; rfl) (by rw [view_far_eq, M1_room])
theorem spans_d0 (w : World) (f t b : Nat) (h : IsFund w f t b 2 M1) :
    Calls Try.prog 13 #[.agg (cfg 1 1), .pointer (some ⟨f, 0, none⟩), .int .u8 0] w fun e w' => ∃ ad c, e = .returned (.slice (some ad) 1 c) ∧ 1 ≤ c ∧ w'.cell? ad = some (.int .i64 3) ∧ w'.cell? ⟨ad.block, ad.off + 1, none⟩ = some (.int .i64 3) ∧ w'.cell? ⟨ad.block, ad.off + 2, none⟩ = some (.int .i64 5) ∧ Below w.heap.size w w' :=
  (view_Spans.calls w f t b 2 M1 1 1 0 h (u8_iff.2 (by decide)) (by decide) (by decide)).mono fun e w' ⟨v, h1, h2, h3⟩ => by
    rw [M1_spans] at h2
    obtain ⟨A, c, rfl, hc, hC⟩ := Kd.R_reads h2
    obtain ⟨ad, rfl, e0, e1, e2⟩ := at_T49 hC 0 (by decide) (by decide)
    have ea : ad.add (Int.toNat 0 * 3) = ad := by simp [Addr.add]
    rw [ea] at e0 e1 e2
    exact ⟨ad, c, h1, hc, e0, e1, e2, h3⟩
theorem works.calls (w : World) : Calls Try.prog 6 #[] w fun e w' => e = .returned (.bool true) ∧ Below w.heap.size w w' := by
  go_enter Try.func6, Try.ntmps6
  go_wp2_with (first
    | (go_at_call 7; ((with_reducible refine (new_d0 _ _ (blk_new1 _ _ _)).mono ?_); rintro e w1 ⟨f, t, b, rfl, hb1, hF1, hbb⟩; have HF1 := Aside0.mk hF1; have HB1 := Aside0.mk (below_step (below_alloc (below_alloc (Below.refl _ _) _) _) hb1); have HK1 := Aside0.mk (blk_below (blk_alloc (blk_new _ _) _) hb1); have HBB := Aside0.mk (Nat.lt_of_lt_of_le (show w.heap.size < ((w.alloc _).alloc _).heap.size by simp; omega) hbb); clear hF1 hb1 hbb; have k0 := (blk_cell HK1.out 0).trans rfl; have k1 := (blk_cell HK1.out 1).trans rfl; have k2 := (blk_cell HK1.out 2).trans rfl))
    | (go_at_call 8; ((with_reducible refine (grant_d0 _ _ _ _ HF1.out).mono ?_); rintro e w2 ⟨rfl, hg2, hF2⟩; have HF2 := Aside0.mk hF2; have HB2 := Aside0.mk (HB1.out.grown hg2 (below_size HB1.out) (fun k hk => by cases hk; exact Nat.le_of_lt HBB.out)); have HK2 := Aside0.mk (blk_grown HK1.out hg2 (fun hk => by injection hk with hk; exact absurd HBB.out (by rw [hk]; exact Nat.lt_irrefl _))); clear hg2 hF2 k0 k1 k2))
    | (go_at_call 13; ((with_reducible refine (spans_d0 _ _ _ _ HF2.out).mono ?_); rintro e w3 ⟨ad, cp, rfl, hcp, c0, c1, c2, hb3⟩; have HF3 := Aside0.mk (HF2.out.below hb3); have HB3 := Aside0.mk (below_step HB2.out hb3); have HK3 := Aside0.mk (blk_below HK2.out hb3); clear hb3; have k0 := (blk_cell HK3.out 0).trans rfl; have k1 := (blk_cell HK3.out 1).trans rfl; have k2 := (blk_cell HK3.out 2).trans rfl))
    | (go_at_call 9; ((with_reducible refine (free_d0 _ _ _ _ HF3.out).mono ?_); rintro e w4 ⟨rfl, hb4⟩; have HF4 := Aside0.mk (HF3.out.below hb4); have HB4 := Aside0.mk (below_step HB3.out hb4); have HK4 := Aside0.mk (blk_below HK3.out hb4); replace c0 := (hb4.cell (World.block_lt_of_cell? _ _ c0)).trans c0; replace c1 := (hb4.cell (World.block_lt_of_cell? _ _ c1)).trans c1; replace c2 := (hb4.cell (World.block_lt_of_cell? _ _ c2)).trans c2; clear hb4 k0 k1 k2; have k0 := (blk_cell HK4.out 0).trans rfl; have k1 := (blk_cell HK4.out 1).trans rfl; have k2 := (blk_cell HK4.out 2).trans rfl))
    | (go_at_call 10; ((with_reducible refine (room_d0 _ _ _ _ HF4.out).mono ?_); rintro e w5 ⟨rfl, hb5⟩; have HB5 := Aside0.mk (below_step HB4.out hb5); replace c0 := (hb5.cell (World.block_lt_of_cell? _ _ c0)).trans c0; replace c1 := (hb5.cell (World.block_lt_of_cell? _ _ c1)).trans c1; replace c2 := (hb5.cell (World.block_lt_of_cell? _ _ c2)).trans c2; clear hb5 k0 k1 k2)))
  go_ret
  exact ⟨rfl, HB5.out⟩
end Go.Proofs.Ytnipjfciphgfjaa.V
