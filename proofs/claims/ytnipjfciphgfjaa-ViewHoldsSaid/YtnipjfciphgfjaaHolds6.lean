/- WHAT A CLIENT SEES HOLDS, WHATEVER COMES OF IT: the law ViewHolds of the program's view layer answers true at every input, and leaves its input as it was: the row, out of the walk and the plain law. -/
import Derived.Test.YtnipjfciphgfjaaHolds5
/- The walk of the law ViewHolds: it answers true. -/
namespace Go.Proofs.Ytnipjfciphgfjaa.V
open Go.RowKit Go.Proofs.Ytnipjfciphgfjaa.G Go.Proofs.YtnipjfciphgfjaaW.PrintWords Go.Proofs.YtnipjfciphgfjaaW.PrintLast Go.Proofs.YtnipjfciphgfjaaW.PrintMore
set_option linter.unusedVariables false
set_option linter.unusedSimpArgs false
set_option maxHeartbeats 2000000
set_option maxRecDepth 100000
attribute [local go_sem ↓ high] load44_is
theorem settle_in (w : World) (f t b n : Nat) (M : Rowmap) (k0 k1 k2 d : Int) (hF : IsFund w f t b n M) (hn : n < maxLen) (hI : ∀ x, M (k0, k1, k2) = some x → In6 x) (ho : OIn ⟨⟨k0, k1, k2⟩, d⟩) :
    Calls Try.prog 19 #[.pointer (some ⟨f, 0, none⟩), .agg #[.int .u8 k0, .int .u8 k1, .int .u8 k2, .int .i64 d]] w fun e w' =>
      e = .returned (.int .i64 (stepOf settleOf M (k0, k1, k2) d).2) ∧ w.grownBy w' (some b) ∧ IsFund w' f t b (n + 1) (stepOf settleOf M (k0, k1, k2) d).1 :=
  fund_Settle.calls settleOf w f t b n M k0 k1 k2 d hF hn ho.1 ho.2.1 ho.2.2.1 (fun x hx => makes_settle x d (hI x hx) ho.2.2.2)
theorem undo_in (w : World) (f t b n : Nat) (M : Rowmap) (k0 k1 k2 d : Int) (hF : IsFund w f t b n M) (hn : n < maxLen) (hI : ∀ x, M (k0, k1, k2) = some x → In6 x) (ho : OIn ⟨⟨k0, k1, k2⟩, d⟩) :
    Calls Try.prog 20 #[.pointer (some ⟨f, 0, none⟩), .agg #[.int .u8 k0, .int .u8 k1, .int .u8 k2, .int .i64 d]] w fun e w' =>
      e = .returned (.int .i64 (stepOf undoOf M (k0, k1, k2) d).2) ∧ w.grownBy w' (some b) ∧ IsFund w' f t b (n + 1) (stepOf undoOf M (k0, k1, k2) d).1 :=
  fund_Undo.calls undoOf w f t b n M k0 k1 k2 d hF hn ho.1 ho.2.1 ho.2.2.1 (fun x hx => makes_undo x d (hI x hx) ho.2.2.2)
theorem grant6_in (w : World) (f t b n : Nat) (M : Rowmap) (k0 k1 k2 d : Int) (hF : IsFund w f t b n M) (hn : n < maxLen) (hI : ∀ x, M (k0, k1, k2) = some x → In6 x) (ho : OIn ⟨⟨k0, k1, k2⟩, d⟩) :
    Calls Try.prog 8 #[.pointer (some ⟨f, 0, none⟩), .agg #[.int .u8 k0, .int .u8 k1, .int .u8 k2, .int .i64 d]] w fun e w' =>
      e = .returned (.int .i64 (stepOf grantOf M (k0, k1, k2) d).2) ∧ w.grownBy w' (some b) ∧ IsFund w' f t b (n + 1) (stepOf grantOf M (k0, k1, k2) d).1 :=
  fund_Grant.calls grantOf w f t b n M k0 k1 k2 d hF hn ho.1 ho.2.1 ho.2.2.1 (fun x hx => makes_grant x d (hI x hx) ho.2.2.2)
/-- Four values in line. -/
abbrev four (vs : Nat → Value) : Array Value := #[vs 0, vs 1, vs 2, vs 3]
theorem four_set (vs : Nat → Value) (j : Nat) (v : Value) (h : j < 4) : (four vs).setIfInBounds j v = four (fun p => if p = j then v else vs p) := by
  have : j = 0 ∨ j = 1 ∨ j = 2 ∨ j = 3 := by omega
  rcases this with rfl | rfl | rfl | rfl <;> rfl
theorem four_get (vs : Nat → Value) (j : Nat) (h : j < 4) : (four vs)[j]? = some (vs j) := by
  have : j = 0 ∨ j = 1 ∨ j = 2 ∨ j = 3 := by omega
  rcases this with rfl | rfl | rfl | rfl <;> rfl
theorem spans_four (M : Rowmap) (s : Nat) (h : s < 4) : spansOf M 4 4 (s : Int) = seens M (s : Int) 4 := by
  unfold spansOf
  have e : mn 4 4 = 4 := rfl
  rw [e, if_neg (by omega)]
  rfl
theorem seens_len (M : Rowmap) (s : Int) (n : Nat) : (seens M s n).length = n := by simp [seens]
theorem seens_rd (M : Rowmap) (s : Int) (n k : Nat) (h : k < n) : rd_T49 (seens M s n) (k : Int) = seen M s (k : Int) := by
  simp [rd_T49, seens, h]
theorem at_bool {w : World} {A : Option Addr} {n : Nat} {xs : List Bool} (h : Kd.C Kd.bool w A n xs) (i : Int) (h0 : 0 ≤ i) (h1 : i < n) : ∃ ad, A = some ad ∧ w.cell? (ad.add i.toNat) = some (.bool (xs.getD i.toNat false)) := by
  obtain ⟨ad, c, e, _, hK, hc0⟩ := Kd.C_get h false i h0 h1
  obtain rfl : c = [.bool (xs.getD i.toNat false)] := hK
  have := hc0 0 _ rfl
  have e1 : i.toNat * Kd.bool.sz + 0 = i.toNat := by show i.toNat * 1 + 0 = _; omega
  rw [e1] at this
  exact ⟨ad, e, this⟩
/-- A store into a block: what is told of rows elsewhere stays. -/
theorem below_store {w W : World} {g j : Nat} {v : Value} {m : Nat} (h : Below m w W) (hg : m ≤ g) : Below m w (W.setCell ⟨g, j, none⟩ v) := h.setCell hg _
theorem four_of {w : World} {base : Nat} {ok : Nat → Prop} {v : Value} {M : Rowmap} {s : Nat} (hs : s < 4) (h : Kd.R k49 49 w base ok v (spansOf M 4 4 (s : Int))) : ∃ A c, v = .slice A 4 c ∧ 4 ≤ c ∧ Kd.C k49 w A 4 (seens M (s : Int) 4) := by
  rw [spans_four M s hs] at h
  obtain ⟨A, c, rfl, hc, hC⟩ := Kd.R_reads h
  rw [seens_len] at hc hC
  exact ⟨A, c, by rw [seens_len], hc, hC⟩
theorem spans4 (w : World) (f t b n : Nat) (M : Rowmap) (s : Nat) (hs : s < 4) (hF : IsFund w f t b n M) :
    Calls Try.prog 13 #[.agg (cfg 4 4), .pointer (some ⟨f, 0, none⟩), .int .u8 (s : Int)] w fun e w' => ∃ A c, e = .returned (.slice A 4 c) ∧ 4 ≤ c ∧ Kd.C k49 w' A 4 (seens M (s : Int) 4) ∧ Below w.heap.size w w' :=
  (view_Spans.calls w f t b n M 4 4 (s : Int) hF (u8_iff.2 (by omega)) (by decide) (by decide)).mono fun e w' ⟨v, h1, h2, h3⟩ => by
    obtain ⟨A, c, rfl, hc, hC⟩ := four_of hs h2
    exact ⟨A, c, h1, hc, hC, h3⟩
theorem ViewHolds.calls (w : World) (A B C : Option Addr) (c1 c2 c3 : Nat) (l : List S60) (ops : List S27) (st : List Bool) (hr : Kd.C k60 w A l.length l) (hc : l.length ≤ c1) (hl : ∀ x ∈ l, DKey x ∧ DIn x) (hr2 : Kd.C k27 w B ops.length ops) (hc2 : ops.length ≤ c2) (hops : ∀ x ∈ ops, OIn x) (hr3 : Kd.C Kd.bool w C st.length st) (hc3 : st.length ≤ c3) (hml : l.length ≤ maxLen) (hmo : ops.length ≤ maxLen) (hms : st.length ≤ maxLen) :
    Calls Try.prog 5 #[.slice A l.length c1, .slice B ops.length c2, .slice C st.length c3] w fun e w' => e = .returned (.bool true) ∧ Below w.heap.size w w' := by
  have HR := Aside0.mk hr
  have HC := Aside0.mk hc
  have HL := Aside0.mk hl
  have HR2 := Aside0.mk hr2
  have HC2 := Aside0.mk hc2
  have HOPS := Aside0.mk hops
  have HR3 := Aside0.mk hr3
  have HC3 := Aside0.mk hc3
  have HMS := Aside0.mk hms
  clear hr hc hl hr2 hc2 hops hr3 hc3 hms hml hmo
  by_cases h1 : (40 : Int) < (l.length : Int)
  · have e1 : decide ((40 : Int) < (l.length : Int)) = true := decide_eq_true h1
    go_enter Try.func5, Try.ntmps5
    go_wp2_with (go_at_call 6; ((with_reducible refine (works.calls _).mono ?_); rintro e w1 ⟨rfl, hb1⟩))
    go_ret
    exact ⟨rfl, hb1⟩
  · have e1 : decide ((40 : Int) < (l.length : Int)) = false := decide_eq_false h1
    by_cases h2 : (40 : Int) < (ops.length : Int)
    · have e2 : decide ((40 : Int) < (ops.length : Int)) = true := decide_eq_true h2
      go_enter Try.func5, Try.ntmps5
      go_wp2_with (go_at_call 6; ((with_reducible refine (works.calls _).mono ?_); rintro e w1 ⟨rfl, hb1⟩))
      go_ret
      exact ⟨rfl, hb1⟩
    · have e2 : decide ((40 : Int) < (ops.length : Int)) = false := decide_eq_false h2
      have HL40 : Aside0 (l.length ≤ 40) := ⟨by omega⟩
      have HO40 : Aside0 (ops.length ≤ 40) := ⟨by omega⟩
      obtain ⟨hA1, hA2⟩ := fresh_mof (Fresh.new l (fun x hx => (HL.out x hx).2))
      generalize baseOf (newMap l) = A0 at hA1 hA2
      have HA1 := Aside0.mk hA1
      have HA2 := Aside0.mk hA2
      clear hA1 hA2
      go_enter Try.func5, Try.ntmps5
      go_wp2_with (first
        | (go_at_call 7; ((with_reducible refine (fund_New'.calls _ A c1 l HR.out HC.out HL40.out (fun x hx => (HL.out x hx).1)).mono ?_); rintro e w1 ⟨f, t, b, rfl, hb1, hF1, hbb⟩; have HB1 := Aside0.mk hb1; have HF1 := Aside0.mk (hF1.mono HL40.out); have HBB := Aside0.mk hbb; clear hb1 hF1 hbb))
        | ((with_reducible refine gate_dst (N := 8) rfl ?_); refine box_event ?hg (N := 8) ?hd (cs := cfg 0 0) (t := 44) ?hr ?_; (case hd => rfl); (case hg => rfl); (case hr => first | (go_simp; done) | (go_simp; rfl)); intro gc hgb w2 hbox hb2; have HG2 := Aside0.mk hbox; have HB2 := Aside0.mk hb2; have HGB := Aside0.mk hgb; clear hbox hb2 hgb)
        | ((with_reducible refine gate_store (t := 44) (p := 8) (v := .tmp 30) rfl ?_); refine store_cfg (s := 4) (k := 4) rfl rfl rfl rfl rfl HG2.out ?_; intro w3 hG3 hg3; have HG3 := Aside0.mk hG3; have Hg3 := Aside0.mk hg3; clear hG3 hg3))
      have HB3 := Aside0.mk (HB2.out.grown Hg3.out HB2.out.size (fun k hk => by cases hk; rw [HGB.out]; exact Nat.le_refl _))
      have HF3 : Aside0 (IsFund w3 f t b (40 + 0) (Mof A0 [])) := ⟨by rw [HA1.out]; exact HF1.out.below HB3.out⟩
      have HBW3 := Aside0.mk (below_step HB1.out HB3.out)
      have HLT : Aside0 (f < w3.heap.size ∧ t < w3.heap.size ∧ b < w3.heap.size ∧ gc < w3.heap.size ∧ b ≠ gc) := ⟨by
        obtain ⟨q1, q2, q3⟩ := HF3.out.lts
        have q4 := blk_lt HG3.out
        have q5 := HF1.out.lts.2.2
        have q6 := HGB.out
        exact ⟨q1, q2, q3, q4, by omega⟩⟩
      clear HG2 HB2 HF1 HB1 HB3 Hg3 HGB
      go_wp2
      go_loopg [9, 10] ops.length (fun kq v9 v10 w' => ∃ (i : Nat) (got : List S27), v10 = .int .i64 (i : Int) ∧ Aside0 (kq + i = ops.length) ∧ Aside0 (Kd.R k27 27 w' w.heap.size (fun k => w3.heap.size ≤ k) v9 got) ∧ Aside0 (got.length ≤ i) ∧ Aside0 (Inv A0 got) ∧ Aside0 (∀ o ∈ got, OIn o) ∧ Aside0 (IsFund w' f t b (40 + i) (Mof A0 got)) ∧ Aside0 (w'.heap[gc]? = some (.cells (cfg 4 4) 44 (0, 0))) ∧ Aside0 (Below w.heap.size w w') ∧ Aside0 (w3.heap.size ≤ w'.heap.size))
      case atStart => exact ⟨0, [], rfl, ⟨rfl⟩, ⟨Kd.R_nil _ _ _ _ _⟩, ⟨Nat.le_refl _⟩, HA2, ⟨fun o ho => by cases ho⟩, HF3, HG3, HBW3, ⟨Nat.le_refl _⟩⟩
      case round =>
        clear HF3 HG3 HBW3 HA1 HA2
        obtain ⟨i, got, rfl, HI, HRW, HLEN, HINV, HGO, HF, HG, HB, HSZ⟩ := hrel
        cases gk with
        | zero =>
          have hi := HI.out
          have c2 : decide ((i : Int) < (ops.length : Int)) = false := decide_eq_false (by omega)
          have c2' : decide (i < ops.length) = false := decide_eq_false (by omega)
          have HGL : Aside0 (got.length ≤ 40) := ⟨by have := HLEN.out; have := HO40.out; omega⟩
          have HF' := Aside0.mk (HF.out.mono (show 40 + i ≤ 80 by have := HO40.out; omega))
          clear hi HF
          rename World => wa
          obtain ⟨AG, cG, rfl, hcG, hCG⟩ := Kd.R_reads HRW.out
          have HcG := Aside0.mk hcG
          have HRG := Aside0.mk (Kd.R_mono (Kd.R_bound HRW.out) (fun k hk => (⟨hk.1, hk.2.2.1⟩ : w3.heap.size ≤ k ∧ k < wa.heap.size)))
          clear hcG hCG HRW
          go_wp2_with ((with_reducible refine gate_dst (N := 11) rfl ?_); refine box_event ?hg (N := 11) ?hd (cs := four fun _ => .slice none 0 0) (t := 57) ?hr ?_; (case hd => rfl); (case hg => rfl); (case hr => first | (go_simp; done) | (go_simp; rfl)); intro gw hgw w5 hbox hb5; have HGW5 := Aside0.mk hbox; have HB5 := Aside0.mk hb5; have HGW := Aside0.mk hgw; clear hbox hb5 hgw)
          go_loopg [12] 4 (fun kq v12 w' => ∃ (s : Nat) (vs : Nat → Value), v12 = .int .u8 (s : Int) ∧ Aside0 (kq + s = 4) ∧ Aside0 (w'.heap[gw]? = some (.cells (four vs) 57 (0, 0))) ∧ Aside0 (∀ j, j < s → Kd.R k49 49 w' w5.heap.size (fun k => w5.heap.size ≤ k) (vs j) (spansOf (Mof A0 got) 4 4 (j : Int))) ∧ Aside0 (Below wa.heap.size wa w') ∧ Aside0 (w5.heap.size ≤ w'.heap.size))
          case atStart => exact ⟨0, _, rfl, ⟨rfl⟩, HGW5, ⟨fun j hj => absurd hj (Nat.not_lt_zero j)⟩, HB5, ⟨Nat.le_refl _⟩⟩
          case round =>
            have HLW : Aside0 (gw < w5.heap.size) := ⟨blk_lt HGW5.out⟩
            clear HGW5 HB5
            obtain ⟨s, vs, rfl, HJ, HGV, HVS, HBR, HSR⟩ := hrel
            cases gk with
            | zero =>
              have hj := HJ.out
              obtain rfl : s = 4 := by omega
              have c3 : decide (((4 : Nat) : Int) < 4) = false := by decide
              clear hj
              rename World => wb
              have HFb := Aside0.mk (HF'.out.below HBR.out)
              have HGb := Aside0.mk (blk_below HG.out HBR.out)
              have HRGb := Aside0.mk (Kd.R_below HRG.out HBR.out)
              have HBWb := Aside0.mk (below_step HB.out HBR.out)
              have HLa : Aside0 (gw < w5.heap.size ∧ f < w5.heap.size ∧ t < w5.heap.size ∧ b < w5.heap.size ∧ gc < w5.heap.size ∧ b < gw ∧ b ≠ gc ∧ w3.heap.size ≤ gw ∧ b < w3.heap.size) := ⟨by
                obtain ⟨q1, q2, q3, q4, q5⟩ := HLT.out
                have q6 := HSZ.out
                have q7 := HLW.out
                have q8 := HGW.out
                exact ⟨q7, by omega, by omega, by omega, by omega, by omega, q5, by omega, q3⟩⟩
              have HWI := Aside0.mk (Within.refl A0 got)
              clear HF' HG HRG HB HBR HLT HSZ HLW
              go_wp2
              go_loopg [13] got.length (fun kq v13 w' => ∃ (i : Nat) (A : Bases), v13 = .int .i64 (i : Int) ∧ Aside0 (kq + i = got.length) ∧ Aside0 (Inv A (got.drop i)) ∧ Aside0 (Within A (got.drop i) A0 got) ∧ Aside0 (IsFund w' f t b (80 + i) (Mof A (got.drop i))) ∧ Aside0 (w'.heap[gc]? = some (.cells (cfg 4 4) 44 (0, 0))) ∧ Aside0 (w'.heap[gw]? = some (.cells (four vs) 57 (0, 0))) ∧ Aside0 (∀ j, j < 4 → Kd.R k49 49 w' w5.heap.size (fun k => w5.heap.size ≤ k) (vs j) (spansOf (Mof A0 got) 4 4 (j : Int))) ∧ Aside0 (Kd.R k27 27 w' w.heap.size (fun k => w3.heap.size ≤ k ∧ k < wa.heap.size) (.slice AG got.length cG) got) ∧ Aside0 (Below w.heap.size w w'))
              case atStart => exact ⟨0, A0, rfl, ⟨rfl⟩, HINV, HWI, HFb, HGb, HGV, HVS, HRGb, HBWb⟩
              case round =>
                clear HINV HWI HFb HGb HGV HVS HRGb HBWb
                obtain ⟨i, A', rfl, HJ, HINV, HWI, HF, HG, HGV, HVS, HRG, HB⟩ := hrel
                cases gk with
                | zero =>
                  have hj := HJ.out
                  obtain rfl : i = got.length := by omega
                  have c3 : decide ((got.length : Int) < (got.length : Int)) = false := by simp
                  have c3' : decide (got.length < got.length) = false := decide_eq_false (Nat.lt_irrefl _)
                  rw [List.drop_length] at HINV HWI HF
                  rename World => we
                  go_wp2
                  go_loopg [15] 4 (fun kq v15 w' => ∃ s : Nat, v15 = .int .u8 (s : Int) ∧ Aside0 (kq + s = 4) ∧ Aside0 (Below we.heap.size we w'))
                  case atStart => exact ⟨0, rfl, ⟨rfl⟩, ⟨Below.refl _ _⟩⟩
                  case round =>
                    obtain ⟨s, rfl, HJ6, HB6⟩ := hrel
                    clear c3 c3' hj HJ
                    cases gk with
                    | zero =>
                      have hj := HJ6.out
                      obtain rfl : s = 4 := by omega
                      have c5 : decide (((4 : Nat) : Int) < 4) = false := by decide
                      go_wp2_with (go_at_call 6; ((with_reducible refine (works.calls _).mono ?_); rintro e w7 ⟨rfl, hb7⟩))
                      go_ret
                      exact ⟨rfl, below_step (below_step HB.out HB6.out) hb7⟩
                    | succ k2 =>
                      have hj := HJ6.out
                      have hs4 : s < 4 := by omega
                      have c5 : decide ((s : Int) < 4) = true := decide_eq_true (by omega)
                      have hi4 : (s : Int) < 4 := by omega
                      have hm8 : ((s : Int) + 1) % 256 = ((s : Int) + 1) := by omega
                      have H13 := Aside0.mk (spans4 wr f t b _ (Mof A' []) s hs4 (HF.out.below HB6.out))
                      obtain ⟨As, cs, hvs, hcs, hCs⟩ := four_of hs4 (Kd.R_below (HVS.out s hs4) HB6.out)
                      have hcr := cfg_read (blk_below HG.out HB6.out)
                      have HCs := Aside0.mk hCs
                      have HGV6 := Aside0.mk (blk_below HGV.out HB6.out)
                      have Hcs := Aside0.mk hcs
                      have Hvs := Aside0.mk hvs
                      clear hCs hcs hvs
                      go_wp2_with (go_at_call 13; ((with_reducible refine (H13.out).mono ?_); rintro e w6 ⟨A6, c6, rfl, hc6, hC6, hb6⟩; have HC6 := Aside0.mk hC6; have Hc6 := Aside0.mk hc6; have Hb6 := Aside0.mk hb6; have HGV7 := Aside0.mk (blk_below HGV6.out hb6); have HCs7 := Aside0.mk (Kd.C_below HCs.out hb6); clear hC6 hc6 hb6; have hcw := ((blk_cell HGV7.out s).trans (four_get vs s hs4)).trans (congrArg some Hvs.out)))
                      go_loopg [17] 4 (fun kq v17 w' => ∃ k : Nat, v17 = .int .i64 (k : Int) ∧ Aside0 (kq + k = 4) ∧ Aside0 (Below w6.heap.size w6 w'))
                      case atStart => exact ⟨0, rfl, ⟨rfl⟩, ⟨Below.refl _ _⟩⟩
                      case round =>
                        obtain ⟨k, rfl, HJ7, HB7⟩ := hrel
                        cases gk with
                        | zero =>
                          have hj7 := HJ7.out
                          obtain rfl : k = 4 := by omega
                          have c7 : decide (((4 : Nat) : Int) < 4) = false := by decide
                          go_wp2
                          go_roundg k2
                          case measure => omega
                          case rel => exact ⟨s + 1, by simp, ⟨by omega⟩, ⟨below_step (below_step HB6.out Hb6.out) HB7.out⟩⟩
                        | succ k3 =>
                          have hj7 := HJ7.out
                          have hk4 : k < 4 := by omega
                          have c7 : decide ((k : Int) < 4) = true := decide_eq_true (by omega)
                          have hki : (k : Int) < 4 := by omega
                          obtain ⟨ad6, e6, y0, y1, y2⟩ := at_T49 (Kd.C_below HC6.out HB7.out) (k : Int) (by omega) (by omega)
                          obtain ⟨ads, es, x0, x1, x2⟩ := at_T49 (Kd.C_below HCs7.out HB7.out) (k : Int) (by omega) (by omega)
                          cases e6
                          cases es
                          rw [seens_rd _ _ _ _ hk4] at y0 y1 y2 x0 x1 x2
                          have hheld := held_at HWI.out (s : Int) (k : Int)
                          generalize seen (Mof A0 got) (s : Int) (k : Int) = X at *
                          generalize seen (Mof A' []) (s : Int) (k : Int) = Y at *
                          obtain ⟨p0, p1, p2⟩ := X
                          obtain ⟨r0, r1, r2⟩ := Y
                          simp only [Int.toNat_natCast] at y0 y1 y2 x0 x1 x2
                          unfold Held at hheld
                          simp only at hheld
                          obtain ⟨g1, g2, g3, g4, g5⟩ := hheld
                          subst g3
                          have hcw' := (HB7.out.cell (World.block_lt_of_cell? _ _ hcw)).trans hcw
                          have k1' : decide (r1 < p0) = false := decide_eq_false (by omega)
                          have k2' : decide (p2 < r1) = false := decide_eq_false (by omega)
                          have k3' : decide (p1 < p0) = false := decide_eq_false (by omega)
                          have k4' : decide (p2 < p1) = false := decide_eq_false (by omega)
                          clear hcw
                          go_wp2
                          have hWb : Below wr.heap.size wr (wr.alloc (.cells #[.int .i64 p0, .int .i64 p1, .int .i64 p2] 49 (0, 0))) := below_alloc (Below.refl _ _) _
                          have z0 : (wr.alloc (.cells #[.int .i64 p0, .int .i64 p1, .int .i64 p2] 49 (0, 0))).cell? ⟨wr.heap.size, 0, none⟩ = some (.int .i64 p0) := (blk_cell (blk_new _ _) 0).trans rfl
                          have z1 : (wr.alloc (.cells #[.int .i64 p0, .int .i64 p1, .int .i64 p2] 49 (0, 0))).cell? ⟨wr.heap.size, 1, none⟩ = some (.int .i64 p1) := (blk_cell (blk_new _ _) 1).trans rfl
                          have z2 : (wr.alloc (.cells #[.int .i64 p0, .int .i64 p1, .int .i64 p2] 49 (0, 0))).cell? ⟨wr.heap.size, 2, none⟩ = some (.int .i64 p2) := (blk_cell (blk_new _ _) 2).trans rfl
                          replace y0 := (hWb.cell (World.block_lt_of_cell? _ _ y0)).trans y0
                          replace y1 := (hWb.cell (World.block_lt_of_cell? _ _ y1)).trans y1
                          replace y2 := (hWb.cell (World.block_lt_of_cell? _ _ y2)).trans y2
                          have HB8 := Aside0.mk (below_step HB7.out hWb)
                          clear hWb hcw' x0 x1 x2 hcr
                          generalize wr.alloc (.cells #[.int .i64 p0, .int .i64 p1, .int .i64 p2] 49 (0, 0)) = w8 at *
                          go_region
                          all_goals go_wp2
                          all_goals
                            go_roundg k3
                            case measure => omega
                            case rel => exact ⟨k + 1, by simp, ⟨by omega⟩, ⟨below_drew1 HB8.out⟩⟩

                | succ k2 =>
                  have hj := HJ.out
                  have hi : i < got.length := by omega
                  have c3 : decide ((i : Int) < (got.length : Int)) = true := decide_eq_true (by omega)
                  have hdrop : got.drop i = rd_T27 got (i : Int) :: got.drop (i + 1) := by rw [rd27_eq got i hi]; exact List.drop_eq_getElem_cons hi
                  rw [hdrop] at HINV HWI HF
                  obtain ⟨ad, e0, hx0, hx1, hx2, hx3⟩ := at_T27 (Kd.R_reads' HRG.out).2.2 (i : Int) (by omega) (by omega)
                  cases e0
                  have hD := HGO.out _ (rd27_mem got i hi)
                  have p0 : (0 ≤ (i : Int)) = True := eq_true (by omega)
                  have q0 : ((i : Int) < (got.length : Int)) = True := eq_true (by omega)
                  have hio : i ≤ 40 := by have := HGL.out; omega
                  have HN0 : Aside0 (80 + i < maxLen) := ⟨Nat.lt_of_le_of_lt (show 80 + i ≤ 120 by omega) (by decide)⟩
                  clear hdrop
                  generalize rd_T27 got (i : Int) = o at *
                  obtain ⟨⟨j0, j1, j2⟩, dd⟩ := o
                  simp only [Int.toNat_natCast] at hx0 hx1 hx2 hx3
                  have HD := Aside0.mk hD
                  clear hD
                  by_cases hst : i < st.length
                  · have c4 : decide ((i : Int) < (st.length : Int)) = true := decide_eq_true (by omega)
                    have c4' : decide (i < st.length) = true := decide_eq_true hst
                    have q4 : ((i : Int) < (st.length : Int)) = True := eq_true (by omega)
                    obtain ⟨asd, ea, hxs⟩ := at_bool (Kd.C_below HR3.out HB.out) (i : Int) (by omega) (by omega)
                    cases ea
                    simp only [Int.toNat_natCast] at hxs
                    cases hsb : st.getD i false with
                    | true =>
                      rw [hsb] at hxs
                      obtain ⟨A2, q1, q2, q3⟩ := step_settle HINV.out HWI.out
                      simp only [keyOf] at q1
                      have HC := settle_in wr f t b (80 + i) (Mof A' (⟨⟨j0, j1, j2⟩, dd⟩ :: got.drop (i + 1))) j0 j1 j2 dd HF.out HN0.out (fun x hx => HINV.out.in6 _ x hx) HD.out
                      rw [q1] at HC
                      have HCS := Aside0.mk HC
                      have HQ2 := Aside0.mk q2
                      have HQ3 := Aside0.mk q3
                      clear q1 q2 q3 HC hsb
                      go_wp2_with (go_at_call 19; ((with_reducible refine (HCS.out).mono ?_); rintro e w6 ⟨rfl, hg6, hF6⟩))
                      go_roundg k2
                      case measure => omega
                      case rel =>
                        exact ⟨i + 1, A2, by simp, ⟨by omega⟩, HQ2, HQ3, ⟨hF6⟩, ⟨blk_grown HG.out hg6 (fun hk => by injection hk with hk; exact HLa.out.2.2.2.2.2.2.1 hk.symm)⟩, ⟨blk_grown HGV.out hg6 (fun hk => by injection hk with hk; exact absurd HLa.out.2.2.2.2.2.1 (by rw [hk]; exact Nat.lt_irrefl _))⟩, ⟨fun j hj2 => Kd.R_grown (HVS.out j hj2) hg6 (fun k hk hkb => by injection hkb with hkb; exact absurd HLa.out.2.2.2.1 (by rw [← hkb]; exact Nat.not_lt.2 hk))⟩, ⟨Kd.R_grown HRG.out hg6 (fun k hk hkb => by injection hkb with hkb; exact absurd HLa.out.2.2.2.2.2.2.2.2 (by rw [← hkb]; exact Nat.not_lt.2 hk.1))⟩, ⟨HB.out.grown hg6 (below_size HB.out) (fun k hk => by cases hk; exact HBB.out)⟩⟩
                    | false =>
                      rw [hsb] at hxs
                      obtain ⟨q1, q2, q3⟩ := step_undo HINV.out HWI.out
                      simp only [keyOf] at q1
                      have HC := undo_in wr f t b (80 + i) (Mof A' (⟨⟨j0, j1, j2⟩, dd⟩ :: got.drop (i + 1))) j0 j1 j2 dd HF.out HN0.out (fun x hx => HINV.out.in6 _ x hx) HD.out
                      rw [q1] at HC
                      have HCU := Aside0.mk HC
                      have HQ2 := Aside0.mk q2
                      have HQ3 := Aside0.mk q3
                      clear q1 q2 q3 HC
                      clear hsb
                      go_wp2_with (go_at_call 20; ((with_reducible refine (HCU.out).mono ?_); rintro e w6 ⟨rfl, hg6, hF6⟩))
                      go_roundg k2
                      case measure => omega
                      case rel =>
                        exact ⟨i + 1, A', by simp, ⟨by omega⟩, HQ2, HQ3, ⟨hF6⟩, ⟨blk_grown HG.out hg6 (fun hk => by injection hk with hk; exact HLa.out.2.2.2.2.2.2.1 hk.symm)⟩, ⟨blk_grown HGV.out hg6 (fun hk => by injection hk with hk; exact absurd HLa.out.2.2.2.2.2.1 (by rw [hk]; exact Nat.lt_irrefl _))⟩, ⟨fun j hj2 => Kd.R_grown (HVS.out j hj2) hg6 (fun k hk hkb => by injection hkb with hkb; exact absurd HLa.out.2.2.2.1 (by rw [← hkb]; exact Nat.not_lt.2 hk))⟩, ⟨Kd.R_grown HRG.out hg6 (fun k hk hkb => by injection hkb with hkb; exact absurd HLa.out.2.2.2.2.2.2.2.2 (by rw [← hkb]; exact Nat.not_lt.2 hk.1))⟩, ⟨HB.out.grown hg6 (below_size HB.out) (fun k hk => by cases hk; exact HBB.out)⟩⟩
                  · have c4 : decide ((i : Int) < (st.length : Int)) = false := decide_eq_false (by omega)
                    have c4' : decide (i < st.length) = false := decide_eq_false hst
                    obtain ⟨q1, q2, q3⟩ := step_undo HINV.out HWI.out
                    simp only [keyOf] at q1
                    have HC := undo_in wr f t b (80 + i) (Mof A' (⟨⟨j0, j1, j2⟩, dd⟩ :: got.drop (i + 1))) j0 j1 j2 dd HF.out HN0.out (fun x hx => HINV.out.in6 _ x hx) HD.out
                    rw [q1] at HC
                    have HCU := Aside0.mk HC
                    have HQ2 := Aside0.mk q2
                    have HQ3 := Aside0.mk q3
                    clear q1 q2 q3 HC
                    go_wp2_with (go_at_call 20; ((with_reducible refine (HCU.out).mono ?_); rintro e w6 ⟨rfl, hg6, hF6⟩))
                    go_roundg k2
                    case measure => omega
                    case rel =>
                      exact ⟨i + 1, A', by simp, ⟨by omega⟩, HQ2, HQ3, ⟨hF6⟩, ⟨blk_grown HG.out hg6 (fun hk => by injection hk with hk; exact HLa.out.2.2.2.2.2.2.1 hk.symm)⟩, ⟨blk_grown HGV.out hg6 (fun hk => by injection hk with hk; exact absurd HLa.out.2.2.2.2.2.1 (by rw [hk]; exact Nat.lt_irrefl _))⟩, ⟨fun j hj2 => Kd.R_grown (HVS.out j hj2) hg6 (fun k hk hkb => by injection hkb with hkb; exact absurd HLa.out.2.2.2.1 (by rw [← hkb]; exact Nat.not_lt.2 hk))⟩, ⟨Kd.R_grown HRG.out hg6 (fun k hk hkb => by injection hkb with hkb; exact absurd HLa.out.2.2.2.2.2.2.2.2 (by rw [← hkb]; exact Nat.not_lt.2 hk.1))⟩, ⟨HB.out.grown hg6 (below_size HB.out) (fun k hk => by cases hk; exact HBB.out)⟩⟩

            | succ k2 =>
              have hj := HJ.out
              have c3 : decide ((s : Int) < 4) = true := decide_eq_true (by omega)
              have hs4 : s < 4 := by omega
              have hi4 : (s : Int) < 4 := by omega
              have hw8 : IntKind.u8.wrap ((s : Int) + 1) = ((s : Int) + 1) := by rw [IntKind.wrap_u8]; omega
              have hm8 : ((s : Int) + 1) % 256 = ((s : Int) + 1) := by omega
              have H13 := Aside0.mk (view_Spans.calls wr f t b 80 (Mof A0 got) 4 4 (s : Int) (HF'.out.below HBR.out) (u8_iff.2 (by omega)) (by decide) (by decide))
              have hcr := cfg_read (blk_below HG.out HBR.out)
              go_wp2_with (go_at_call 13; ((with_reducible refine (H13.out).mono ?_); rintro e w6 ⟨v6, rfl, hR6, hb6⟩; obtain ⟨A6, c6, rfl, hc6, hC6⟩ := Kd.R_reads hR6; have HG6 := Aside0.mk (blk_below HGV.out hb6); have hcell := (blk_cell HG6.out s).trans (four_get vs s hs4); have hfroz := blk_frozen HG6.out s))
              have hgw : ∀ k, w5.heap.size ≤ k → k ≠ gw := fun k hk z => absurd HLW.out (by rw [← z]; exact Nat.not_lt.2 hk)
              have r1 := Kd.R_lower (Kd.R_mono (Kd.R_bound hR6) (fun k hk => (Nat.le_trans HSR.out hk.2.1 : w5.heap.size ≤ k))) HSR.out
              go_roundg k2
              case measure => omega
              case rel =>
                refine ⟨s + 1, fun p => if p = s then .slice A6 (spansOf (Mof A0 got) 4 4 (s : Int)).length c6 else vs p, by simp, ⟨by omega⟩, ⟨blk_put HG6.out s _ (four_set vs s _ hs4)⟩, ⟨fun j hj2 => ?_⟩, ⟨below_store (below_step HBR.out hb6) (by rw [HGW.out]; exact Nat.le_refl _)⟩, ⟨by simpa [World.setCell] using Nat.le_trans HSR.out hb6.size⟩⟩
                by_cases c : j = s
                · subst c
                  simp only [if_true]
                  exact Kd.R_far (p := ⟨gw, j, none⟩) r1 hgw _
                · simp only [c, if_false]
                  exact Kd.R_far (p := ⟨gw, s, none⟩) (Kd.R_below (HVS.out j (by omega)) hb6) hgw _

        | succ k' =>
          have hi : i < ops.length := by have := HI.out; omega
          have c2 : decide ((i : Int) < (ops.length : Int)) = true := decide_eq_true (by omega)
          obtain ⟨ad, e0, hx0, hx1, hx2, hx3⟩ := at_T27 HR2.out (i : Int) (by omega) (by omega)
          cases e0
          have hD := HOPS.out _ (rd27_mem ops i hi)
          have p0 : (0 ≤ (i : Int)) = True := eq_true (by omega)
          have q0 : ((i : Int) < (ops.length : Int)) = True := eq_true (by omega)
          have hio : i ≤ 40 := by have := HO40.out; omega
          have HN0 : Aside0 (40 + i < maxLen) := ⟨Nat.lt_of_le_of_lt (show 40 + i ≤ 80 by omega) (by decide)⟩
          generalize rd_T27 ops (i : Int) = o at *
          obtain ⟨⟨j0, j1, j2⟩, dd⟩ := o
          simp only [Int.toNat_natCast] at hx0 hx1 hx2 hx3
          have HD := Aside0.mk hD
          have HX0 := Aside0.mk hx0
          have HX1 := Aside0.mk hx1
          have HX2 := Aside0.mk hx2
          have HX3 := Aside0.mk hx3
          replace hx0 := (HB.out.cell (World.block_lt_of_cell? w _ HX0.out)).trans HX0.out
          replace hx1 := (HB.out.cell (World.block_lt_of_cell? w _ HX1.out)).trans HX1.out
          replace hx2 := (HB.out.cell (World.block_lt_of_cell? w _ HX2.out)).trans HX2.out
          replace hx3 := (HB.out.cell (World.block_lt_of_cell? w _ HX3.out)).trans HX3.out
          have hstep := step_grant HINV.out ⟨⟨j0, j1, j2⟩, dd⟩ hD.2.2.2
          simp only [keyOf] at hstep
          have HGR := Aside0.mk (grant6_in wr f t b (40 + i) (Mof A0 got) j0 j1 j2 dd HF.out HN0.out (fun x hx => HINV.out.in6 _ x hx) HD.out)
          generalize stepOf grantOf (Mof A0 got) (j0, j1, j2) dd = S at hstep HGR
          obtain ⟨S1, ev⟩ := S
          simp only at HGR
          clear hD
          rcases hstep with ⟨he, hinv⟩ | ⟨he, hS1⟩
          · obtain ⟨rfl, rfl⟩ := Prod.mk.injEq _ _ _ _ ▸ he
            have HINV' := Aside0.mk hinv
            clear he hinv
            go_wp2_with (first | (go_at_call 8; ((with_reducible refine (HGR.out).mono ?_); rintro e w4 ⟨rfl, hg4, hF4⟩; have HB3 := Aside0.mk (HB.out.grown hg4 (below_size HB.out) (fun k hk => by cases hk; exact HBB.out)); have HG3 := Aside0.mk (blk_grown HG.out hg4 (fun hk => by injection hk with hk; exact absurd hk (fun z => HLT.out.2.2.2.2 z.symm))); have HRW3 := Aside0.mk (Kd.R_grown HRW.out hg4 (fun k hk hkb => by injection hkb with hkb; exact absurd HLT.out.2.2.1 (by rw [← hkb]; exact Nat.not_lt.2 hk))); have HF4 := Aside0.mk hF4; have HSZ3 := Aside0.mk (Nat.le_trans HSZ.out hg4.size); clear hg4 hF4; replace hx0 := (HB3.out.cell (World.block_lt_of_cell? w _ HX0.out)).trans HX0.out; replace hx1 := (HB3.out.cell (World.block_lt_of_cell? w _ HX1.out)).trans HX1.out; replace hx2 := (HB3.out.cell (World.block_lt_of_cell? w _ HX2.out)).trans HX2.out; replace hx3 := (HB3.out.cell (World.block_lt_of_cell? w _ HX3.out)).trans HX3.out)) | ((with_reducible refine gate_builtin (b := .append) (xs := #[.tmp 44, .tmp 49]) rfl ?_); at_builtin; refine Kd.R_append k27 (w0 := w) w.heap.size rfl (.tmp 44) (.tmp 49) 23 27 (.agg #[.int .u8 0, .int .u8 0, .int .u8 0, .int .i64 0]) 16 rfl Try.underlying23 info27 rfl (by decide) (by decide) u9 got ⟨⟨j0, j1, j2⟩, dd⟩ [.int .u8 j0, .int .u8 j1, .int .u8 j2, .int .i64 dd] (fun k => w3.heap.size ≤ k) (fun _ => False) rfl rfl (k27_mkM _ _ _ ⟨⟨j0, j1, j2⟩, dd⟩) (fun _ hk => hk.elim) (fun k hk => Nat.le_trans HSZ3.out hk) HRW3.out HB3.out (below_size HB3.out) ?aL ?_; (case aL => have := HLEN.out; omega); intro v1 w5 ho5 hb5 hg5 _; have HB5 := Aside0.mk hb5; have HG5 := Aside0.mk (blk_grown HG3.out hg5 (fun hk => absurd (HRW3.out.1 gc hk.symm) (Nat.not_le.2 HLT.out.2.2.2.1))); have HF5 := Aside0.mk (HF4.out.keep (S := fun k => w3.heap.size ≤ k) ⟨hg5.size, fun k hk hn => hg5.block k hk (fun z => hn (HRW3.out.1 k z.symm))⟩ (Nat.not_le.2 HLT.out.1) (Nat.not_le.2 HLT.out.2.1) (Nat.not_le.2 HLT.out.2.2.1)); have HSZ5 := Aside0.mk (Nat.le_trans HSZ3.out hg5.size); clear hb5 hg5))
            go_roundg k'
            case measure => omega
            case rel =>
              exact ⟨i + 1, got ++ [⟨⟨j0, j1, j2⟩, dd⟩], by simp, ⟨by have := HI.out; omega⟩, ⟨ho5⟩, ⟨by have := HLEN.out; rw [List.length_append, List.length_singleton]; omega⟩, HINV', ⟨fun q hq => (List.mem_append.1 hq).elim (HGO.out q) (fun z => by obtain rfl := List.mem_singleton.1 z; exact HD.out)⟩, ⟨HF5.out⟩, HG5, HB5, HSZ5⟩
          · simp only at he hS1
            subst hS1
            have e3 : (ev == 0) = false := beq_eq_false_iff_ne.mpr he
            have e4 : decide (ev = 0) = false := decide_eq_false he
            clear he
            go_wp2_with ((go_at_call 8; ((with_reducible refine (HGR.out).mono ?_); rintro e w4 ⟨rfl, hg4, hF4⟩; have HB3 := Aside0.mk (HB.out.grown hg4 (below_size HB.out) (fun k hk => by cases hk; exact HBB.out)); have HG3 := Aside0.mk (blk_grown HG.out hg4 (fun hk => by injection hk with hk; exact absurd hk (fun z => HLT.out.2.2.2.2 z.symm))); have HRW3 := Aside0.mk (Kd.R_grown HRW.out hg4 (fun k hk hkb => by injection hkb with hkb; exact absurd HLT.out.2.2.1 (by rw [← hkb]; exact Nat.not_lt.2 hk))); have HF4 := Aside0.mk hF4; have HSZ3 := Aside0.mk (Nat.le_trans HSZ.out hg4.size); clear hg4 hF4; replace hx0 := (HB3.out.cell (World.block_lt_of_cell? w _ HX0.out)).trans HX0.out; replace hx1 := (HB3.out.cell (World.block_lt_of_cell? w _ HX1.out)).trans HX1.out; replace hx2 := (HB3.out.cell (World.block_lt_of_cell? w _ HX2.out)).trans HX2.out; replace hx3 := (HB3.out.cell (World.block_lt_of_cell? w _ HX3.out)).trans HX3.out)))
            go_roundg k'
            case measure => omega
            case rel =>
              exact ⟨i + 1, got, by simp, ⟨by have := HI.out; omega⟩, HRW3, ⟨by have := HLEN.out; omega⟩, HINV, HGO, ⟨HF4.out⟩, HG3, HB3, HSZ3⟩
end Go.Proofs.Ytnipjfciphgfjaa.V
namespace Go.Proofs.Ytnipjfciphgfjaa.viewHolds
open Go.ChangeShapes Go.WideShapes Go.ChangeAt Go.RowKit Go.Proofs.Ytnipjfciphgfjaa.V Go.Proofs.YtnipjfciphgfjaaW.PrintWords Go.Proofs.YtnipjfciphgfjaaW.PrintLast Go.Proofs.YtnipjfciphgfjaaW.PrintMore
set_option linter.unusedVariables false
set_option maxRecDepth 100000 in
theorem lifted (os : Os) (started : os.Started) (H : Type) (enc : TypeId × Value → H) :
    ReturnsInHanded {} Try.checked os 5 .any (Rows.viewHoldsSpec.pre6 enc Try.prog Try.f5 Rows.viewHoldsRow.domain false) (Rows.viewHoldsSpec.post enc Try.prog Try.f5 false true false false) := by
  refine returnsInHanded_of_change_sized (C := Try.checked) own started (by kernel_rfl) Try.func5
    (ChangeSpec.witness6 (enc := enc) (C := Try.checked) false ⟨#[], #[.slice none 0 0, .slice none 0 0, .slice none 0 0], []⟩ 8 (by kernel_rfl) (by kernel_rfl) (by kernel_rfl) (by kernel_rfl)) ?_
  intro W base args ds gs before hval0 hW hcnd hsz0 _
  have hval : ∀ (j : Nat) t v, Try.f5.params[j]? = some t → args[j]? = some v → Value.okWide Try.prog W .any base t v := hval0
  have hW' := hW
  obtain ⟨p, q, hA0, hV, rfl, hfz, hnd⟩ := hW
  have hA : DataW.TrodAll enc Try.prog W 0 (fun _ => true) true Try.f5.params.toList args.toList ds p := hA0
  rw [Try.params5] at hA hval
  obtain ⟨v0, vs0, d0, ds0, p0, q0, hargs, rfl, rfl, h0, r0⟩ := trodAll_cons hA
  obtain ⟨v1, vs1, d1, ds1, p1, q1, rfl, rfl, rfl, h1, r1⟩ := trodAll_cons r0
  obtain ⟨v2, vs2, d2, ds2, p2, q2, rfl, rfl, rfl, h2, r2⟩ := trodAll_cons r1
  obtain ⟨rfl, rfl, rfl⟩ := trodAll_nil r2
  obtain rfl : args = #[v0, v1, v2] := by cases args; simp_all
  obtain ⟨rfl, rfl⟩ := trodVars_none hV
  have k0 := h0
  have lt0 : ∀ x ∈ p0, x.block < W.heap.size := by obtain ⟨m, hm⟩ := k0; exact DataW.trod_lt m _ _ _ hm
  have k1 := h1
  have lt1 : ∀ x ∈ p1, x.block < W.heap.size := by obtain ⟨m, hm⟩ := k1; exact DataW.trod_lt m _ _ _ hm
  have k2 := h2
  have lt2 : ∀ x ∈ p2, x.block < W.heap.size := by obtain ⟨m, hm⟩ := k2; exact DataW.trod_lt m _ _ _ hm
  obtain ⟨A0, l0, c0, rfl, hc0, hm0, hr0, hg0⟩ := open_rows G.k60 (fun d => DKey d ∧ DIn d) Try.underlying22 cells60 (fun _ _ _ h => read_decl h) (hval 0 22 v0 rfl rfl) h0
  obtain ⟨A1, l1, c1, rfl, hc1, hm1, hr1, hg1⟩ := open_rows k27 OIn Try.underlying23 cells27 (fun _ _ _ h => read_op' h) (hval 1 23 v1 rfl rfl) h1
  obtain ⟨A2, l2, c2, rfl, hc2, hm2, hr2, hg2⟩ := open_rows Kd.bool (fun _ => True) Try.underlying56 cells4 (fun _ _ _ h => read_bool h) (hval 2 56 v2 rfl rfl) h2
  clear hA0 hval0 hsz0
  refine (ViewHolds.calls W A0 A1 A2 c0 c1 c2 l0 l1 l2 hr0 hc0 hg0 hr1 hc1 hg1 hr2 hc2 hm0 hm1 hm2).mono ?_
  rintro e W' ⟨rfl, bel⟩
  exact ⟨_, rfl, _, _, _, [], _, [], hW', trodAll_mk1 (shut_bool Try.underlying4 _), (trodAll_cons_mk (Below.trod laidOut (by kernel_rfl) (of_decide_eq_true (by kernel_rfl)) k0 bel lt0) (trodAll_cons_mk (Below.trod laidOut (by kernel_rfl) (of_decide_eq_true (by kernel_rfl)) k1 bel lt1) (trodAll_cons_mk (Below.trod laidOut (by kernel_rfl) (of_decide_eq_true (by kernel_rfl)) k2 bel lt2) trodAll_mk0))), rfl, bel.frame _, fun h => by cases h⟩
theorem over : Rows.viewHoldsRow.holds Try.pinned (OpenSpec.ofChange Rows.viewHoldsSpec) :=
  OpenClaim.holds_of_wide 5 Try.f5 rfl rfl rfl rfl rfl rfl rfl ⟨rfl, rfl, rfl, rfl, rfl⟩ rfl rfl rfl rfl rfl (by kernel_rfl) Try.func5 (by kernel_rfl)
    (of_decide_eq_true (by kernel_rfl)) (by unfold Func.isWrapper; first | (rw [if_pos (by decide +kernel)]; kernel_rfl) | (rw [if_neg (by decide +kernel)]; exact ⟨rfl, rfl⟩))
    (fun os started H enc _ => lifted os started H enc)
theorem proved : Rows.ViewHoldsSaid := over
#print axioms proved
end Go.Proofs.Ytnipjfciphgfjaa.viewHolds
namespace Go.Proofs.Ytnipjfciphgfjaa
/-- The row, under a short name, for the claim. -/
theorem viewHolds_holds : Rows.ViewHoldsSaid := viewHolds.proved
end Go.Proofs.Ytnipjfciphgfjaa
