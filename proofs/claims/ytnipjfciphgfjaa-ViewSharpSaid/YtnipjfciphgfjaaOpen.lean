/- How the arguments of the laws of this seat read: rows of declarations, of additions, of truth values; an addition, a question. -/
import Derived.Test.YtnipjfciphgfjaaRows
import Derived.Test.YtnipjfciphgfjaaFundPlain
import Derived.Test.YtnipjfciphgfjaaWSized
import Derived.WalkKit
import Derived.ProofKit
import Derived.OpenShut
import Derived.ShutString
import Derived.ChangeOld
import Derived.Below
import Derived.SizedLaws
namespace Go.Proofs.Ytnipjfciphgfjaa.V
open Go.ChangeShapes Go.WideShapes Go.ChangeAt Go.RowKit Go.Proofs.Ytnipjfciphgfjaa.G Go.Proofs.YtnipjfciphgfjaaW.PrintWords Go.Proofs.YtnipjfciphgfjaaW.PrintLast
set_option linter.unusedVariables false
set_option maxRecDepth 100000
section
variable {H : Type} {enc : TypeId × Value → H} {W : World} {base b0 : Nat} {spare : Nat → Bool} {held : Bool}
theorem trod_fields {P : Program} {t : TypeId} {fs : Array Field} {fuel : Nat} {cs : List Value} {x : DataW H × List MemPlace} (ht : P.underlying t = some (.struct fs)) (h : DataW.trod enc P W base spare held fuel t cs = some x) :
    ∃ n, cs.length = P.cellsOf t ∧ ∀ (i : Nat) (f : Field), fs[i]? = some f → ∃ y, DataW.trod enc P W base spare held n f.type ((cs.drop f.offset).take (P.cellsOf f.type)) = some y := by
  obtain ⟨xs, n, _, _, hl, hx, hg⟩ := DataW.trod_struct ht h
  refine ⟨n, hl, fun i f hf => ?_⟩
  have hi : i < xs.length := by rw [hx]; exact (Array.getElem?_eq_some_iff.1 hf).1
  exact ⟨xs[i], by rw [hg i f hf]; exact List.getElem?_eq_getElem hi⟩
theorem part_of {P : Program} {t : TypeId} {cs cs' : List Value} {k n m : Nat} {y : DataW H × List MemPlace} (hc : P.cellsOf t = m) (h : DataW.trod enc P W base spare held n t ((cs.drop k).take (P.cellsOf t)) = some y) (he : (cs.drop k).take m = cs') :
    DataW.trod enc P W base spare held n t cs' = some y := by rw [hc, he] at h; exact h
theorem cells2 : Try.prog.cellsOf 2 = 1 := by kernel_rfl
theorem cells3 : Try.prog.cellsOf 3 = 1 := by kernel_rfl
theorem cells4 : Try.prog.cellsOf 4 = 1 := by kernel_rfl
theorem cells27 : Try.prog.cellsOf 27 = 4 := by kernel_rfl
theorem cells60 : Try.prog.cellsOf 60 = 6 := by kernel_rfl
theorem cells36 : Try.prog.cellsOf 36 = 5 := by kernel_rfl
theorem wf_in {a : Int} (h : (Lit.int .i64 a).wf = true) : In64 a := by
  simp [Lit.wf, IntKind.min, IntKind.max, IntKind.signed, IntKind.bits] at h
  unfold In64; omega
theorem read_key {n : Nat} {cs : List Value} {x : DataW H × List MemPlace} (h : DataW.trod enc Try.prog W base spare held n 25 cs = some x) :
    ∃ a0 a1 a2, cs = [.int .u8 a0, .int .u8 a1, .int .u8 a2] ∧ U8 a0 ∧ U8 a1 ∧ U8 a2 := by
  obtain ⟨m, hl, hf⟩ := trod_fields Try.underlying25 h
  rw [cells25] at hl
  match cs, hl with
  | [c0, c1, c2], _ =>
  obtain ⟨y0, h0⟩ := hf 0 _ rfl
  obtain ⟨y1, h1⟩ := hf 1 _ rfl
  obtain ⟨y2, h2⟩ := hf 2 _ rfl
  obtain ⟨a0, e0, _, w0⟩ := DataW.trod_int Try.underlying5 (part_of (m := 1) cells5 h0 rfl)
  obtain ⟨a1, e1, _, w1⟩ := DataW.trod_int Try.underlying5 (part_of (m := 1) cells5 h1 rfl)
  obtain ⟨a2, e2, _, w2⟩ := DataW.trod_int Try.underlying5 (part_of (m := 1) cells5 h2 rfl)
  cases e0; cases e1; cases e2
  exact ⟨a0, a1, a2, rfl, w0, w1, w2⟩
theorem read_decl {n : Nat} {cs : List Value} {x : DataW H × List MemPlace} (h : DataW.trod enc Try.prog W base spare held n 60 cs = some x) :
    ∃ d : S60, k60.K W d cs ∧ DKey d ∧ DIn d := by
  obtain ⟨m, hl, hf⟩ := trod_fields Try.underlying60 h
  rw [cells60] at hl
  match cs, hl with
  | [c0, c1, c2, c3, c4, c5], _ =>
  obtain ⟨y0, h0⟩ := hf 0 _ rfl
  obtain ⟨y3, h3⟩ := hf 1 _ rfl
  obtain ⟨y4, h4⟩ := hf 2 _ rfl
  obtain ⟨y5, h5⟩ := hf 3 _ rfl
  obtain ⟨a0, a1, a2, e0, w0, w1, w2⟩ := read_key (part_of (m := 3) cells25 h0 rfl)
  obtain ⟨a3, e3, _, w3⟩ := DataW.trod_int Try.underlying2 (part_of (m := 1) cells2 h3 rfl)
  obtain ⟨a4, e4, _, w4⟩ := DataW.trod_int Try.underlying2 (part_of (m := 1) cells2 h4 rfl)
  obtain ⟨a5, e5, _, w5⟩ := DataW.trod_int Try.underlying2 (part_of (m := 1) cells2 h5 rfl)
  cases e0; cases e3; cases e4; cases e5
  exact ⟨⟨⟨a0, a1, a2⟩, a3, a4, a5⟩, k60_mk W _, ⟨w0, w1, w2⟩, wf_in w3, wf_in w4, wf_in w5⟩
theorem read_op {n : Nat} {cs : List Value} {x : DataW H × List MemPlace} (h : DataW.trod enc Try.prog W base spare held n 27 cs = some x) :
    ∃ a0 a1 a2 a3, cs = [.int .u8 a0, .int .u8 a1, .int .u8 a2, .int .i64 a3] ∧ U8 a0 ∧ U8 a1 ∧ U8 a2 ∧ In64 a3 := by
  obtain ⟨m, hl, hf⟩ := trod_fields Try.underlying27 h
  rw [cells27] at hl
  match cs, hl with
  | [c0, c1, c2, c3], _ =>
  obtain ⟨y0, h0⟩ := hf 0 _ rfl
  obtain ⟨y3, h3⟩ := hf 1 _ rfl
  obtain ⟨a0, a1, a2, e0, w0, w1, w2⟩ := read_key (part_of (m := 3) cells25 h0 rfl)
  obtain ⟨a3, e3, _, w3⟩ := DataW.trod_int Try.underlying2 (part_of (m := 1) cells2 h3 rfl)
  cases e0; cases e3
  exact ⟨a0, a1, a2, a3, rfl, w0, w1, w2, wf_in w3⟩
theorem read_op' {n : Nat} {cs : List Value} {x : DataW H × List MemPlace} (h : DataW.trod enc Try.prog W base spare held n 27 cs = some x) :
    ∃ o : S27, k27.K W o cs ∧ OIn o := by
  obtain ⟨a0, a1, a2, a3, rfl, w⟩ := read_op h
  exact ⟨⟨⟨a0, a1, a2⟩, a3⟩, k27_mk W _, w⟩
theorem read_ask {n : Nat} {cs : List Value} {x : DataW H × List MemPlace} (h : DataW.trod enc Try.prog W base spare held n 36 cs = some x) :
    ∃ a0 a1 a2 a3 a4, cs = [.int .u8 a0, .int .u8 a1, .int .u8 a2, .int .i64 a3, .int .i64 a4] ∧ U8 a0 ∧ U8 a1 ∧ U8 a2 ∧ In64 a3 ∧ In64 a4 := by
  obtain ⟨m, hl, hf⟩ := trod_fields Try.underlying36 h
  rw [cells36] at hl
  match cs, hl with
  | [c0, c1, c2, c3, c4], _ =>
  obtain ⟨y0, h0⟩ := hf 0 _ rfl
  obtain ⟨y3, h3⟩ := hf 1 _ rfl
  obtain ⟨y4, h4⟩ := hf 2 _ rfl
  obtain ⟨a0, a1, a2, e0, w0, w1, w2⟩ := read_key (part_of (m := 3) cells25 h0 rfl)
  obtain ⟨a3, e3, _, w3⟩ := DataW.trod_int Try.underlying3 (part_of (m := 1) cells3 h3 rfl)
  obtain ⟨a4, e4, _, w4⟩ := DataW.trod_int Try.underlying3 (part_of (m := 1) cells3 h4 rfl)
  cases e0; cases e3; cases e4
  exact ⟨a0, a1, a2, a3, a4, rfl, w0, w1, w2, wf_in w3, wf_in w4⟩
theorem read_bool {n : Nat} {cs : List Value} {x : DataW H × List MemPlace} (h : DataW.trod enc Try.prog W base spare held n 4 cs = some x) :
    ∃ b : Bool, Kd.bool.K W b cs ∧ True := by
  obtain ⟨b, e0, _⟩ := DataW.trod_bool Try.underlying4 h
  exact ⟨b, e0, trivial⟩
/-- A row of elements that read. -/
theorem read_rows {α : Type} (d : Kd α) (G : α → Prop) {t e : TypeId} {n : Nat} {cs : List Value} {x : DataW H × List MemPlace} (ht : Try.prog.underlying t = some (.slice e)) (hc : Try.prog.cellsOf e = d.sz)
    (hr : ∀ n cs x, DataW.trod enc Try.prog W base spare held n e cs = some x → ∃ p : α, d.K W p cs ∧ G p) (h : DataW.trod enc Try.prog W base spare held n t cs = some x) :
    ∃ A l c, cs = [.slice A (List.length l) c] ∧ l.length ≤ c ∧ l.length ≤ maxLen ∧ d.C W A l.length l ∧ ∀ p ∈ l, G p := by
  rcases DataW.trod_slice ht h with ⟨rfl, _⟩ | ⟨a, len, cap, elems, rest, m, _, rfl, _, hb, hl, hm, hlen, hel, _, _⟩
  · exact ⟨none, [], 0, rfl, Nat.le_refl _, Nat.zero_le _, ⟨rfl, Nat.zero_le _, fun h => absurd h (Nat.lt_irrefl 0)⟩, by intro p hp; cases hp⟩
  · have key : ∀ k, k ≤ len → ∃ l : List α, l.length = k ∧ (∀ p ∈ l, G p) ∧ ∀ j p, l[j]? = some p → ∃ c, c.length = d.sz ∧ d.K W p c ∧ ∀ i u, c[i]? = some u → W.cell? (a.add (j * d.sz + i)) = some u := by
      intro k
      induction k with
      | zero => exact fun _ => ⟨[], rfl, (by intro p hp; cases hp), (by intro j p hj; simp at hj)⟩
      | succ k ih =>
        intro hk
        obtain ⟨l, h1, h2, h3⟩ := ih (by omega)
        have he := hel k (by omega)
        rw [List.getElem?_eq_getElem (by omega), Option.bind_eq_some_iff] at he
        obtain ⟨c, hc1, hc2⟩ := he
        obtain ⟨p, hp, hg⟩ := hr _ _ _ hc2
        obtain ⟨_, hcl, hcell⟩ := World.cells?_some hc1
        rw [hc] at hcl hcell
        refine ⟨l ++ [p], by simp [h1], fun q hq => ?_, fun j q hj => ?_⟩
        · rcases List.mem_append.1 hq with hq | hq
          · exact h2 q hq
          · obtain rfl := List.mem_singleton.1 hq; exact hg
        · rcases Nat.lt_or_ge j l.length with hjl | hjl
          · rw [List.getElem?_append_left hjl] at hj
            exact h3 j q hj
          · rw [List.getElem?_append_right hjl] at hj
            have hj0 : j - l.length = 0 := by
              have := (List.getElem?_eq_some_iff.1 hj).1
              simp at this; omega
            rw [hj0] at hj
            obtain rfl : p = q := by simpa using hj
            obtain rfl : j = k := by omega
            refine ⟨c, hcl, hp, fun i u hu => ?_⟩
            have hi : i < d.sz := by rw [← hcl]; exact (List.getElem?_eq_some_iff.1 hu).1
            have := hcell i hi
            rw [hu] at this
            rw [← this, Addr.add_add]
    obtain ⟨l, h1, h2, h3⟩ := key len (Nat.le_refl _)
    subst h1
    exact ⟨some a, l, cap, rfl, hl, by omega, ⟨rfl, by have : maxLen = 9223372036854775807 := rfl; omega, fun _ => ⟨a, rfl, h3⟩⟩, h2⟩
theorem open_rows {α : Type} (d : Kd α) (G : α → Prop) {t e : TypeId} {v : Value} {D : DataW H} {p : List MemPlace} (ht : Try.prog.underlying t = some (.slice e)) (hc : Try.prog.cellsOf e = d.sz)
    (hr : ∀ n cs x, DataW.trod enc Try.prog W base spare held n e cs = some x → ∃ p : α, d.K W p cs ∧ G p) (hv : Value.okWide Try.prog W .any b0 t v) (h : DataW.Trod enc Try.prog W base spare held t v D p) :
    ∃ A l c, v = .slice A (List.length l) c ∧ l.length ≤ c ∧ l.length ≤ maxLen ∧ d.C W A l.length l ∧ ∀ p ∈ l, G p := by
  obtain ⟨a, len, cap, rfl⟩ := okWide_slice ht hv
  obtain ⟨fuel, hf⟩ := h
  obtain ⟨A, l, c, e, r⟩ := read_rows d G ht hc hr hf
  simp [Value.cells] at e
  obtain ⟨rfl, rfl, rfl⟩ := e
  exact ⟨_, l, _, rfl, r⟩
theorem open_op {v : Value} {D : DataW H} {p : List MemPlace} (hv : Value.okWide Try.prog W .any b0 27 v) (h : DataW.Trod enc Try.prog W base spare held 27 v D p) :
    ∃ a0 a1 a2 a3, v = .agg #[.int .u8 a0, .int .u8 a1, .int .u8 a2, .int .i64 a3] ∧ U8 a0 ∧ U8 a1 ∧ U8 a2 ∧ In64 a3 := by
  obtain ⟨⟨l⟩, rfl, _⟩ := okWide_struct Try.underlying27 hv
  obtain ⟨fuel, hf⟩ := h
  obtain ⟨a0, a1, a2, a3, e, w⟩ := read_op hf
  obtain rfl : l = _ := e
  exact ⟨a0, a1, a2, a3, rfl, w⟩
theorem open_ask {v : Value} {D : DataW H} {p : List MemPlace} (hv : Value.okWide Try.prog W .any b0 36 v) (h : DataW.Trod enc Try.prog W base spare held 36 v D p) :
    ∃ a0 a1 a2 a3 a4, v = .agg #[.int .u8 a0, .int .u8 a1, .int .u8 a2, .int .i64 a3, .int .i64 a4] ∧ U8 a0 ∧ U8 a1 ∧ U8 a2 ∧ In64 a3 ∧ In64 a4 := by
  obtain ⟨⟨l⟩, rfl, _⟩ := okWide_struct Try.underlying36 hv
  obtain ⟨fuel, hf⟩ := h
  obtain ⟨a0, a1, a2, a3, a4, e, w⟩ := read_ask hf
  obtain rfl : l = _ := e
  exact ⟨a0, a1, a2, a3, a4, rfl, w⟩
end
theorem own : ownKnob Try.prog.godebug = none := by kernel_rfl
end Go.Proofs.Ytnipjfciphgfjaa.V
