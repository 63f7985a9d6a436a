/- The table of a fund: a map whose key is a struct, told by a function from keys to fields. -/
import Derived.Test.YtnipjfciphgfjaaProg
import Derived.Maps.OwnSet
import Derived.Maps.Views
import Derived.DeepKeys4
import Derived.Carry
import Derived.KernelRfl
import Derived.WalkKit
import Derived.Below
namespace Go.Proofs.Ytnipjfciphgfjaa.V
open Go.RowKit
theorem laidOut : laidOutB Try.prog = true := by kernel_rfl
theorem keyType25 : Try.prog.keyType 25 = true := by kernel_rfl
theorem K25 : Maps.Keyed Try.prog 25 := .of_law (deep_law_laid laidOut (m := Try.prog.types.size + 1) (of_decide_eq_true (by kernel_rfl)) (of_decide_eq_true (by kernel_rfl)) (by kernel_rfl) (by kernel_rfl))
theorem sz : ∃ m, Try.prog.types.size = m + 3 := ⟨Try.prog.types.size - 3, by kernel_rfl⟩
def U8 (a : Int) : Prop := (Lit.int .u8 a).wf = true
def kv (a b c : Int) : Value := .agg #[.int .u8 a, .int .u8 b, .int .u8 c]
/-- A key's letter. -/
def kl (a b c : Int) : Lit := .string (keyBytes [.int .u8 a, .int .u8 b, .int .u8 c])
theorem cells5 : Try.prog.cellsOf 5 = 1 := by kernel_rfl
theorem cells25 : Try.prog.cellsOf 25 = 3 := by kernel_rfl
theorem key_some {a b c : Int} (ha : U8 a) (hb : U8 b) (hc : U8 c) : keyOf Try.prog 25 (kv a b c) = some (kl a b c) := by
  obtain ⟨m, hm⟩ := sz
  have hf : (kv a b c).formed Try.prog 25 = true := by
    unfold kv Value.formed
    simp only [Try.underlying25, cells25]
    rfl
  unfold keyOf
  rw [Try.underlying25]
  simp only [keyType25, hf, Bool.and_self, if_true, hm]
  simp only [U8] at ha hb hc
  unfold Program.keyLits
  rw [Try.underlying25]
  simp only [kv, Value.cells, cells25, List.mapM_cons, List.mapM_nil, cells5]
  simp [Program.keyLits, Try.underlying5, ha, hb, hc, kl]
/-- A field: least, greatest, base, inf, sup, value. -/
abbrev F6 := Int × Int × Int × Int × Int × Int
def F6.zero : F6 := (0, 0, 0, 0, 0, 0)
def fv : F6 → Value
  | (x0, x1, x2, x3, x4, x5) => .agg #[.int .i64 x0, .int .i64 x1, .int .i64 x2, .int .i64 x3, .int .i64 x4, .int .i64 x5]
theorem fv_inj {x y : F6} (h : fv x = fv y) : x = y := by
  obtain ⟨x0, x1, x2, x3, x4, x5⟩ := x
  obtain ⟨y0, y1, y2, y3, y4, y5⟩ := y
  simp [fv] at h
  simp [h]
/-- What a table holds. -/
abbrev Rowmap := Int × Int × Int → Option F6
def Rowmap.put (M : Rowmap) (k : Int × Int × Int) (x : F6) : Rowmap := fun j => if j = k then some x else M j
def RR (v : Value) : Option (DataW Value × List MemPlace) := some (.held v, [])
/-- Block b of w is a table's map, of at most n entries. -/
def Tab (w : World) (b n : Nat) (M : Rowmap) : Prop :=
  ∃ D : DataW Value, w.ownsMap Try.prog 25 RR b n D ∧ Maps.IsMap D ∧ ∀ a0 a1 a2, U8 a0 → U8 a1 → U8 a2 →
    Maps.has D (kl a0 a1 a2) = (M (a0, a1, a2)).isSome ∧ ∀ z, D.atKey (kl a0 a1 a2) z = ((M (a0, a1, a2)).map fun x => .held (fv x)).getD z
theorem Tab.made (w : World) : Tab (w.alloc (.map #[] 0)) w.heap.size 0 (fun _ => none) :=
  ⟨_, World.ownsMap_made w _ _ _, Maps.isMap_empty, fun _ _ _ _ _ _ => ⟨rfl, fun _ => rfl⟩⟩
theorem Tab.mono {w : World} {b n m : Nat} {M : Rowmap} (h : Tab w b n M) (hn : n ≤ m) : Tab w b m M := by
  obtain ⟨D, h1, h2⟩ := h
  exact ⟨D, h1.mono hn, h2⟩
theorem Tab.lt {w : World} {b n : Nat} {M : Rowmap} (h : Tab w b n M) : b < w.heap.size := by
  obtain ⟨D, h1, h2⟩ := h
  exact h1.lt
/-- Whoever leaves the block leaves the table. -/
theorem Tab.kept {w w' : World} {b n : Nat} {M : Rowmap} (h : Tab w b n M) (he : w'.heap[b]? = w.heap[b]?) : Tab w' b n M := by
  obtain ⟨D, ⟨es, clock, h1, h2⟩, h3⟩ := h
  exact ⟨D, ⟨es, clock, he.trans h1, h2⟩, h3⟩
theorem zero64 (w : World) : (zeroValue 64).run Try.prog w = .ok (fv F6.zero) w := by kernel_rfl
/-- 'v, is := m[k]' at a table. -/
theorem run_look {w : World} {b n : Nat} {M : Rowmap} (h : Tab w b n M) {k0 k1 k2 : Int} (u0 : U8 k0) (u1 : U8 k1) (u2 : U8 k2) {x0 x1 x2 x3 x4 x5 : Int} {s : Bool} (hv : (M (k0, k1, k2)).getD F6.zero = (x0, x1, x2, x3, x4, x5)) (hs : (M (k0, k1, k2)).isSome = s) :
    (Instr.lookup 90 (.map (some b)) (.agg #[.int .u8 k0, .int .u8 k1, .int .u8 k2]) true).run Try.prog w = .ok (.tuple #[.agg #[.int .i64 x0, .int .i64 x1, .int .i64 x2, .int .i64 x3, .int .i64 x4, .int .i64 x5], .bool s]) w := by
  obtain ⟨D, h1, h2, h3⟩ := h
  obtain ⟨e1, e2⟩ := h3 k0 k1 k2 u0 u1 u2
  obtain ⟨v, ps, hrun, hr⟩ := h1.look_ok K25 Try.underlying90 (zero64 w) (zd := .held (fv F6.zero)) (zp := []) rfl (key_some u0 u1 u2)
  refine hrun.trans ?_
  simp only [RR, Option.some.injEq, Prod.mk.injEq] at hr
  obtain ⟨hr, -⟩ := hr
  rw [e2] at hr
  rw [e1, hs]
  cases hM : M (k0, k1, k2) with
  | none =>
    rw [hM] at hr hv
    simp only [Option.map_none, Option.getD_none, DataW.held.injEq] at hr hv
    subst hr
    rw [hv]; rfl
  | some y =>
    rw [hM] at hr hv
    simp only [Option.map_some, Option.getD_some, DataW.held.injEq] at hr hv
    subst hr
    rw [hv]; rfl
theorem run_put {w : World} {b n : Nat} {M : Rowmap} (h : Tab w b n M) (hn : n < maxLen) {k0 k1 k2 : Int} (u0 : U8 k0) (u1 : U8 k1) (u2 : U8 k2) (x0 x1 x2 x3 x4 x5 : Int) :
    ∃ w', (Instr.mapUpdate 90 (.map (some b)) (.agg #[.int .u8 k0, .int .u8 k1, .int .u8 k2]) (.agg #[.int .i64 x0, .int .i64 x1, .int .i64 x2, .int .i64 x3, .int .i64 x4, .int .i64 x5])).run Try.prog w = .ok () w' ∧
      Tab w' b (n + 1) (M.put (k0, k1, k2) (x0, x1, x2, x3, x4, x5)) ∧ w.mapTurned w' b := by
  obtain ⟨D, h1, h2, h3⟩ := h
  obtain ⟨w', hrun, ho, ht⟩ := h1.store K25 Try.underlying90 hn (key := kv k0 k1 k2) (val := fv (x0, x1, x2, x3, x4, x5)) (d := .held (fv (x0, x1, x2, x3, x4, x5))) (ps := []) (key_some u0 u1 u2) rfl
  refine ⟨w', hrun, ⟨_, ho, h2.put _ _, fun a0 a1 a2 v0 v1 v2 => ?_⟩, ht⟩
  by_cases e : (a0, a1, a2) = (k0, k1, k2)
  · obtain ⟨rfl, rfl, rfl⟩ := by simpa using e
    have ik : WideAt.IsKeyLit (kl a0 a1 a2) := K25.key (key_some v0 v1 v2)
    exact ⟨(Maps.has_put_same h2 ik _).trans (by simp [Rowmap.put]), fun z => (Maps.atKey_put_same h2 ik _ _).trans (by simp [Rowmap.put])⟩
  · have hne : kl a0 a1 a2 ≠ kl k0 k1 k2 := fun q => e (by
      have := K25.inj (key_some v0 v1 v2) ((key_some u0 u1 u2).trans (congrArg some q.symm))
      simp [kv] at this
      simp [this])
    obtain ⟨e1, e2⟩ := h3 a0 a1 a2 v0 v1 v2
    exact ⟨(Maps.has_put_other hne _).trans (by rw [e1]; simp [Rowmap.put, e]), fun z => (Maps.atKey_put_other hne _ _).trans (by rw [e2]; simp [Rowmap.put, e])⟩
/-- The world behind a store. -/
noncomputable def putW (w : World) (b : Nat) (k v : Value) : World :=
  open Classical in if h : ∃ w', (Instr.mapUpdate 90 (.map (some b)) k v).run Try.prog w = .ok () w' then Classical.choose h else w
theorem run_putW {w : World} {b n : Nat} {M : Rowmap} (h : Tab w b n M) (hn : n < maxLen) {k0 k1 k2 : Int} (u0 : U8 k0) (u1 : U8 k1) (u2 : U8 k2) (x0 x1 x2 x3 x4 x5 : Int) :
    (Instr.mapUpdate 90 (.map (some b)) (.agg #[.int .u8 k0, .int .u8 k1, .int .u8 k2]) (.agg #[.int .i64 x0, .int .i64 x1, .int .i64 x2, .int .i64 x3, .int .i64 x4, .int .i64 x5])).run Try.prog w =
      .ok () (putW w b (.agg #[.int .u8 k0, .int .u8 k1, .int .u8 k2]) (.agg #[.int .i64 x0, .int .i64 x1, .int .i64 x2, .int .i64 x3, .int .i64 x4, .int .i64 x5])) := by
  obtain ⟨w', hr, _⟩ := run_put h hn u0 u1 u2 x0 x1 x2 x3 x4 x5
  unfold putW
  rw [dif_pos ⟨w', hr⟩]
  exact Classical.choose_spec (p := fun w' => (Instr.mapUpdate 90 (.map (some b)) _ _).run Try.prog w = .ok () w') ⟨w', hr⟩
theorem putW_tab {w : World} {b n : Nat} {M : Rowmap} (h : Tab w b n M) (hn : n < maxLen) {k0 k1 k2 : Int} (u0 : U8 k0) (u1 : U8 k1) (u2 : U8 k2) (x0 x1 x2 x3 x4 x5 : Int) :
    Tab (putW w b (.agg #[.int .u8 k0, .int .u8 k1, .int .u8 k2]) (.agg #[.int .i64 x0, .int .i64 x1, .int .i64 x2, .int .i64 x3, .int .i64 x4, .int .i64 x5])) b (n + 1) (M.put (k0, k1, k2) (x0, x1, x2, x3, x4, x5)) ∧
    w.mapTurned (putW w b (.agg #[.int .u8 k0, .int .u8 k1, .int .u8 k2]) (.agg #[.int .i64 x0, .int .i64 x1, .int .i64 x2, .int .i64 x3, .int .i64 x4, .int .i64 x5])) b := by
  obtain ⟨w', hr, h1, h2⟩ := run_put h hn u0 u1 u2 x0 x1 x2 x3 x4 x5
  have e := (run_putW h hn u0 u1 u2 x0 x1 x2 x3 x4 x5).symm.trans hr
  simp only [Result.ok.injEq, true_and] at e
  rw [e]; exact ⟨h1, h2⟩
end Go.Proofs.Ytnipjfciphgfjaa.V
