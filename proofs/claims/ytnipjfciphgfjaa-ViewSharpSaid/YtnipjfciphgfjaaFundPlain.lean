/- What grants make of what a fund holds: plain Lean. -/
import Derived.Test.YtnipjfciphgfjaaFundFrees
namespace Go.Proofs.Ytnipjfciphgfjaa.V
open Go.RowKit Go.Proofs.Ytnipjfciphgfjaa.G Go.Proofs.YtnipjfciphgfjaaW.PrintWords Go.Proofs.YtnipjfciphgfjaaW.PrintLast Go.Proofs.YtnipjfciphgfjaaW.PrintMore
set_option linter.unusedVariables false
set_option linter.unusedSimpArgs false
/-- What an addition makes of the lower end, of the upper one. -/
def infOf (inf d : Int) : Int := if d < 0 then inf + d else inf
def supOf (sup d : Int) : Int := if d < 0 then sup else sup + d
/-- The addition d is granted. -/
def Gr (lo hi base inf sup val d : Int) : Prop := GoodP lo hi base inf sup val ∧ d ≠ 0 ∧ d ≠ -9223372036854775808 ∧ lo ≤ infOf inf d ∧ supOf sup d ≤ hi
instance (a b c d e f g : Int) : Decidable (Gr a b c d e f g) := inferInstanceAs (Decidable (_ ∧ _))
def In7 (lo hi base inf sup val d : Int) : Prop := In64 lo ∧ In64 hi ∧ In64 base ∧ In64 inf ∧ In64 sup ∧ In64 val ∧ In64 d
theorem in7_pos {α : Type} {lo hi base inf sup val d : Int} (h : In7 lo hi base inf sup val d) (x y : α) : (if In64 lo ∧ In64 hi ∧ In64 base ∧ In64 inf ∧ In64 sup ∧ In64 val ∧ In64 d then x else y) = x := if_pos h
theorem Gr.good {lo hi base inf sup val d : Int} (g : Gr lo hi base inf sup val d) : GoodP lo hi base (infOf inf d) (supOf sup d) (val + d) := by
  unfold Gr GoodP infOf supOf at *
  obtain ⟨⟨h1, h2, h3, h4, h5, h6⟩, _, _, h9, h10⟩ := g
  by_cases c : d < 0
  · simp only [if_pos c] at *; omega
  · simp only [if_neg c] at *; omega
theorem Gr.ins {lo hi base inf sup val d : Int} (g : Gr lo hi base inf sup val d) (h : In7 lo hi base inf sup val d) : In64 (infOf inf d) ∧ In64 (supOf sup d) ∧ In64 (val + d) := by
  have q := g.good
  unfold In7 In64 at h
  unfold GoodP at q
  unfold In64
  omega
theorem grantP_yes {lo hi base inf sup val d : Int} (h : In7 lo hi base inf sup val d) (g : Gr lo hi base inf sup val d) : grantP lo hi base inf sup val d = (lo, hi, base, infOf inf d, supOf sup d, val + d, 0) := by
  have hi' := g.ins h
  unfold In7 at h
  unfold grantP
  rw [if_neg (fun z => z g.1), if_neg (by have := g.2; omega)]
  obtain ⟨_, _, _, g4, g5⟩ := g
  unfold infOf supOf at *
  unfold In64 at hi'
  by_cases c : d < 0
  · simp only [if_pos c] at *
    rw [if_neg (by omega), if_neg (by omega)]
  · simp only [if_neg c] at *
    rw [if_neg (by omega), if_neg (by omega)]
theorem grantP_no {lo hi base inf sup val d : Int} (h : In7 lo hi base inf sup val d) (g : ¬ Gr lo hi base inf sup val d) : ∃ e : Int, e ≠ 0 ∧ grantP lo hi base inf sup val d = (lo, hi, base, inf, sup, val, e) := by
  unfold In7 at h
  unfold grantP
  by_cases c1 : GoodP lo hi base inf sup val
  · rw [if_neg (fun z => z c1)]
    by_cases c2 : d = 0 ∨ d = -9223372036854775808
    · rw [if_pos c2]; exact ⟨1, by decide, rfl⟩
    · rw [if_neg c2]
      have g' : ¬ (lo ≤ infOf inf d ∧ supOf sup d ≤ hi) := fun z => g ⟨c1, fun y => c2 (.inl y), fun y => c2 (.inr y), z.1, z.2⟩
      unfold infOf supOf at g'
      unfold GoodP at c1
      unfold In64 at h
      by_cases c : d < 0
      · simp only [if_pos c] at *
        by_cases c3 : inf + d < -9223372036854775808
        · rw [if_pos c3]; exact ⟨2, by decide, rfl⟩
        · rw [if_neg c3, if_pos (by omega)]; exact ⟨3, by decide, rfl⟩
      · simp only [if_neg c] at *
        by_cases c3 : sup + d > 9223372036854775807
        · rw [if_pos c3]; exact ⟨2, by decide, rfl⟩
        · rw [if_neg c3, if_pos (by omega)]; exact ⟨3, by decide, rfl⟩
  · rw [if_pos c1]; exact ⟨12, by decide, rfl⟩
def In6 : F6 → Prop
  | (x0, x1, x2, x3, x4, x5) => In64 x0 ∧ In64 x1 ∧ In64 x2 ∧ In64 x3 ∧ In64 x4 ∧ In64 x5
def Good6 : F6 → Prop
  | (x0, x1, x2, x3, x4, x5) => GoodP x0 x1 x2 x3 x4 x5
def sixOf (r : Int × Int × Int × Int × Int × Int × Int) : F6 × Int := ((r.1, r.2.1, r.2.2.1, r.2.2.2.1, r.2.2.2.2.1, r.2.2.2.2.2.1), r.2.2.2.2.2.2)
/-- What Grant makes of a field. -/
def grantOf : F6 → Int → F6 × Int
  | (x0, x1, x2, x3, x4, x5), d => sixOf (grantP x0 x1 x2 x3 x4 x5 d)
theorem makes_grant (x : F6) (d : Int) (h : In6 x) (hd : In64 d) : Makes 26 x d (grantOf x d).1 (grantOf x d).2 := by
  obtain ⟨x0, x1, x2, x3, x4, x5⟩ := x
  intro w
  exact field_Grant.calls x0 x1 x2 x3 x4 x5 d _ _ _ _ _ _ _ w (if_pos ⟨h.1, h.2.1, h.2.2.1, h.2.2.2.1, h.2.2.2.2.1, h.2.2.2.2.2, hd⟩)
/-- All that is held is in order. -/
def WF (M : Rowmap) : Prop := ∀ k x, M k = some x → In6 x ∧ Good6 x
theorem WF.put {M : Rowmap} (h : WF M) {x : F6} (k : Int × Int × Int) (hx : In6 x ∧ Good6 x) : WF (M.put k x) := by
  intro j y hy
  unfold Rowmap.put at hy
  split at hy
  · injection hy with hy; exact hy ▸ hx
  · exact h j y hy
/-- A declaration's numbers are of 64 bits. -/
def DIn (d : S60) : Prop := In64 d.f1 ∧ In64 d.f2 ∧ In64 d.f3
theorem WF.decl {M : Rowmap} (h : WF M) (d : S60) (hd : DIn d) : WF (addDecl M d) := by
  unfold addDecl newOf
  obtain ⟨h1, h2, h3⟩ := hd
  by_cases c : d.f1 ≤ d.f2 ∧ d.f2 ≤ d.f3
  · rw [if_pos c]
    exact h.put _ ⟨⟨h1, h3, h2, h2, h2, h2⟩, c.1, Int.le_refl _, Int.le_refl _, Int.le_refl _, Int.le_refl _, c.2⟩
  · rw [if_neg c]; exact h
theorem WF.new (l : List S60) (h : ∀ d ∈ l, DIn d) : WF (newMap l) := by
  have : ∀ (M : Rowmap), WF M → WF (l.foldl addDecl M) := by
    induction l with
    | nil => exact fun M h => h
    | cons d t ih => exact fun M hM => ih (fun x hx => h x (List.mem_cons_of_mem _ hx)) _ (hM.decl d (h d List.mem_cons_self))
  exact this _ (fun k x hx => by cases hx)
theorem grantOf_wf {x : F6} {d : Int} (hx : In6 x ∧ Good6 x) (hd : In64 d) : In6 (grantOf x d).1 ∧ Good6 (grantOf x d).1 := by
  obtain ⟨x0, x1, x2, x3, x4, x5⟩ := x
  obtain ⟨⟨h0, h1, h2, h3, h4, h5⟩, hg⟩ := hx
  have h7 : In7 x0 x1 x2 x3 x4 x5 d := ⟨h0, h1, h2, h3, h4, h5, hd⟩
  by_cases g : Gr x0 x1 x2 x3 x4 x5 d
  · simp only [grantOf, grantP_yes h7 g, sixOf]
    exact ⟨⟨h0, h1, h2, g.ins h7⟩, g.good⟩
  · obtain ⟨e, he, hr⟩ := grantP_no h7 g
    simp only [grantOf, hr, sixOf]
    exact ⟨⟨h0, h1, h2, h3, h4, h5⟩, hg⟩
theorem WF.step {M : Rowmap} (h : WF M) {how : F6 → Int → F6 × Int} {k : Int × Int × Int} {d : Int} (hh : ∀ x, M k = some x → In6 (how x d).1 ∧ Good6 (how x d).1) : WF (stepOf how M k d).1 := by
  unfold stepOf
  cases hM : M k with
  | none => exact h
  | some x =>
    simp only
    split
    · exact h.put _ (hh x hM)
    · exact h
/-- An addition: a key, a number. -/
structure S27 where
  f0 : S25
  f1 : Int
def z27 : S27 := ⟨z25, (0 : Int)⟩
def k27 : Kd S27 := Kd.iso (Kd.pair k25 (Kd.int .i64)) (fun x : S27 => (x.f0, x.f1))
theorem k27_open {w : World} {x : S27} {cs : List Value} (h : k27.K w x cs) : cs = [.int .u8 x.f0.f0, .int .u8 x.f0.f1, .int .u8 x.f0.f2, .int .i64 x.f1] := by
  obtain ⟨_, _, rfl, s0, rfl⟩ := h
  obtain rfl := k25_open s0
  exact rfl
theorem k27_mkM (w : World) (base : Nat) (ok : Nat → Prop) (x : S27)  : k27.M w base ok x [.int .u8 x.f0.f0, .int .u8 x.f0.f1, .int .u8 x.f0.f2, .int .i64 x.f1] := ⟨[.int .u8 x.f0.f0, .int .u8 x.f0.f1, .int .u8 x.f0.f2], [.int .i64 x.f1], rfl, (k25_mkM w base ok x.f0), rfl⟩
theorem k27_mk (w : World) (x : S27)  : k27.K w x [.int .u8 x.f0.f0, .int .u8 x.f0.f1, .int .u8 x.f0.f2, .int .i64 x.f1] := ⟨[.int .u8 x.f0.f0, .int .u8 x.f0.f1, .int .u8 x.f0.f2], [.int .i64 x.f1], rfl, (k25_mk w x.f0), rfl⟩
def rd_T27 (xs : List S27) (i : Int) : S27 := xs.getD i.toNat z27
theorem at_T27 {w : World} {A : Option Addr} {n : Nat} {xs : List S27} (h : Kd.C k27 w A n xs) (i : Int) (h0 : 0 ≤ i) (h1 : i < n) : ∃ ad , A = some ad ∧ w.cell? (ad.add (i.toNat * 4)) = some (.int .u8 (rd_T27 xs i).f0.f0) ∧ w.cell? ⟨(ad.add (i.toNat * 4)).block, (ad.add (i.toNat * 4)).off + 1, none⟩ = some (.int .u8 (rd_T27 xs i).f0.f1) ∧ w.cell? ⟨(ad.add (i.toNat * 4)).block, (ad.add (i.toNat * 4)).off + 2, none⟩ = some (.int .u8 (rd_T27 xs i).f0.f2) ∧ w.cell? ⟨(ad.add (i.toNat * 4)).block, (ad.add (i.toNat * 4)).off + 3, none⟩ = some (.int .i64 (rd_T27 xs i).f1) := by
  obtain ⟨ad, c, e, _, hK, hc0⟩ := Kd.C_get h z27 i h0 h1
  have hc : ∀ j u, c[j]? = some u → w.cell? (ad.add (i.toNat * 4 + j)) = some u := hc0
  obtain rfl := k27_open hK
  exact ⟨ad, e, hc 0 _ rfl, by rw [← add_field _ _ 1 (by omega)]; exact hc 1 _ rfl, by rw [← add_field _ _ 2 (by omega)]; exact hc 2 _ rfl, by rw [← add_field _ _ 3 (by omega)]; exact hc 3 _ rfl⟩
theorem info27 : (Try.prog.info? 27).map (fun i => (i.zero, i.size, i.bytes)) = some (some (.agg #[.int .u8 0, .int .u8 0, .int .u8 0, .int .i64 0]), 4, 16) := by kernel_rfl
def keyOf (o : S27) : Int × Int × Int := (o.f0.f0, o.f0.f1, o.f0.f2)
/-- An addition may be one. -/
def OIn (o : S27) : Prop := U8 o.f0.f0 ∧ U8 o.f0.f1 ∧ U8 o.f0.f2 ∧ In64 o.f1
/-- What is held behind additions. -/
def grants (M : Rowmap) (l : List S27) : Rowmap := l.foldl (fun M o => (stepOf grantOf M (keyOf o) o.f1).1) M
theorem grants_snoc (M : Rowmap) (l : List S27) (o : S27) : grants M (l ++ [o]) = (stepOf grantOf (grants M l) (keyOf o) o.f1).1 := by simp [grants]
theorem rd27_eq (l : List S27) (i : Nat) (h : i < l.length) : rd_T27 l (i : Int) = l[i] := by simp [rd_T27, h]
theorem take27 (l : List S27) (i : Nat) (h : i < l.length) : l.take (i + 1) = l.take i ++ [rd_T27 l (i : Int)] := by
  rw [rd27_eq l i h, List.take_append_getElem h]
theorem rd27_mem (l : List S27) (i : Nat) (h : i < l.length) : rd_T27 l (i : Int) ∈ l := by
  rw [rd27_eq l i h]; exact List.getElem_mem h
theorem WF.grant {M : Rowmap} (h : WF M) (o : S27) (ho : OIn o) : WF (stepOf grantOf M (keyOf o) o.f1).1 := h.step fun x hx => grantOf_wf (h _ x hx) ho.2.2.2
theorem WF.grants {M : Rowmap} (h : WF M) (l : List S27) (hl : ∀ o ∈ l, OIn o) : WF (V.grants M l) := by
  unfold V.grants
  induction l generalizing M with
  | nil => exact h
  | cons o t ih => exact ih (h.grant o (hl o List.mem_cons_self)) (fun x hx => hl x (List.mem_cons_of_mem _ hx))
theorem farV_eq {a b : Int} (ha : In64 a) (hb : In64 b) : farV a b = if b < a then 0 else if 9223372036854775808 ≤ b - a then 9223372036854775807 else b - a := by
  unfold In64 at ha hb
  unfold farV view_far.f calc_Dist.f calc_Fits.f
  by_cases h : b < a
  · rw [if_pos h, if_pos h]; simp [wrap64]
  · rw [if_neg h, if_neg h]
    have e : IntKind.u64.wrap (IntKind.u64.wrap b - IntKind.u64.wrap a) = b - a := by simp only [IntKind.wrap_u64]; omega
    rw [Option.bind_some, e]
    by_cases h2 : 9223372036854775808 ≤ b - a
    · rw [if_pos h2, if_pos h2]; simp
    · rw [if_neg h2, if_neg (by omega)]
      have e2 : wrap64 (b - a) = b - a := by unfold wrap64; omega
      simp [e2]
end Go.Proofs.Ytnipjfciphgfjaa.V
