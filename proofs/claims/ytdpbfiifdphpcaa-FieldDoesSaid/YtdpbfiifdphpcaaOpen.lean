/- How the arguments of the laws of this seat read: a field is six numbers, a declaration three bytes and three numbers, a run a declaration and two rows. -/
import Derived.Test.YtdpbfiifdphpcaaRows
import Derived.Test.YtdpbfiifdphpcaaWSized
import Derived.WalkKit
import Derived.ProofKit
import Derived.OpenShut
import Derived.ShutString
import Derived.ChangeOld
import Derived.Below
import Derived.SizedLaws
namespace Go.Proofs.Ytdpbfiifdphpcaa.Open
open Go.ChangeShapes Go.WideShapes Go.ChangeAt Go.RowKit
section
variable {H : Type} {enc : TypeId × Value → H} {W : World} {base b0 : Nat} {spare : Nat → Bool} {held : Bool}

theorem trod_fields {P : Program} {t : TypeId} {fs : Array Field} {fuel : Nat} {cs : List Value} {x : DataW H × List MemPlace} (ht : P.underlying t = some (.struct fs)) (h : DataW.trod enc P W base spare held fuel t cs = some x) :
    ∃ n, cs.length = P.cellsOf t ∧ ∀ (i : Nat) (f : Field), fs[i]? = some f → ∃ y, DataW.trod enc P W base spare held n f.type ((cs.drop f.offset).take (P.cellsOf f.type)) = some y := by
  obtain ⟨xs, n, _, _, hl, hx, hg⟩ := DataW.trod_struct ht h
  refine ⟨n, hl, fun i f hf => ?_⟩
  have hi : i < xs.length := by rw [hx]; exact (Array.getElem?_eq_some_iff.1 hf).1
  exact ⟨xs[i], (hg i f hf).trans (List.getElem?_eq_getElem hi)⟩
theorem part_of {P : Program} {t : TypeId} {cs cs' : List Value} {k n m : Nat} {y : DataW H × List MemPlace} (hc : P.cellsOf t = m) (h : DataW.trod enc P W base spare held n t ((cs.drop k).take (P.cellsOf t)) = some y) (he : (cs.drop k).take m = cs') :
    DataW.trod enc P W base spare held n t cs' = some y := by
  rw [hc, he] at h; exact h
theorem cells2 : Try.prog.cellsOf 2 = 1 := by kernel_rfl
theorem cells5 : Try.prog.cellsOf 5 = 1 := by kernel_rfl
theorem cells23 : Try.prog.cellsOf 23 = 3 := by kernel_rfl
theorem cells25 : Try.prog.cellsOf 25 = 6 := by kernel_rfl
theorem cells27 : Try.prog.cellsOf 27 = 6 := by kernel_rfl
theorem cells38 : Try.prog.cellsOf 38 = 1 := by kernel_rfl
theorem cells39 : Try.prog.cellsOf 39 = 1 := by kernel_rfl
theorem cells41 : Try.prog.cellsOf 41 = 8 := by kernel_rfl
theorem six {l : List Value} (h : l.length = 6) : ∃ c0 c1 c2 c3 c4 c5, l = [c0, c1, c2, c3, c4, c5] := by
  match l, h with
  | [c0, c1, c2, c3, c4, c5], _ => exact ⟨_, _, _, _, _, _, rfl⟩
theorem eight {l : List Value} (h : l.length = 8) : ∃ c0 c1 c2 c3 c4 c5 c6 c7, l = [c0, c1, c2, c3, c4, c5, c6, c7] := by
  match l, h with
  | [c0, c1, c2, c3, c4, c5, c6, c7], _ => exact ⟨_, _, _, _, _, _, _, _, rfl⟩
def In (k : IntKind) (n : Int) : Prop := (Lit.int k n).wf = true

theorem read_field {n : Nat} {cs : List Value} {x : DataW H × List MemPlace} (h : DataW.trod enc Try.prog W base spare held n 27 cs = some x) :
    ∃ a0 a1 a2 a3 a4 a5, cs = [.int .i64 a0, .int .i64 a1, .int .i64 a2, .int .i64 a3, .int .i64 a4, .int .i64 a5] ∧ In .i64 a0 ∧ In .i64 a1 ∧ In .i64 a2 ∧ In .i64 a3 ∧ In .i64 a4 ∧ In .i64 a5 := by
  obtain ⟨m, hl, hf⟩ := trod_fields Try.underlying27 h
  rw [cells27] at hl
  obtain ⟨c0, c1, c2, c3, c4, c5, rfl⟩ := six hl
  obtain ⟨y0, h0⟩ := hf 0 _ rfl
  obtain ⟨y1, h1⟩ := hf 1 _ rfl
  obtain ⟨y2, h2⟩ := hf 2 _ rfl
  obtain ⟨y3, h3⟩ := hf 3 _ rfl
  obtain ⟨y4, h4⟩ := hf 4 _ rfl
  obtain ⟨y5, h5⟩ := hf 5 _ rfl
  obtain ⟨a0, e0, _, w0⟩ := DataW.trod_int Try.underlying2 (part_of (m := 1) cells2 h0 rfl)
  obtain ⟨a1, e1, _, w1⟩ := DataW.trod_int Try.underlying2 (part_of (m := 1) cells2 h1 rfl)
  obtain ⟨a2, e2, _, w2⟩ := DataW.trod_int Try.underlying2 (part_of (m := 1) cells2 h2 rfl)
  obtain ⟨a3, e3, _, w3⟩ := DataW.trod_int Try.underlying2 (part_of (m := 1) cells2 h3 rfl)
  obtain ⟨a4, e4, _, w4⟩ := DataW.trod_int Try.underlying2 (part_of (m := 1) cells2 h4 rfl)
  obtain ⟨a5, e5, _, w5⟩ := DataW.trod_int Try.underlying2 (part_of (m := 1) cells2 h5 rfl)
  cases e0; cases e1; cases e2; cases e3; cases e4; cases e5
  exact ⟨a0, a1, a2, a3, a4, a5, rfl, w0, w1, w2, w3, w4, w5⟩
theorem read_key {n : Nat} {cs : List Value} {x : DataW H × List MemPlace} (h : DataW.trod enc Try.prog W base spare held n 23 cs = some x) :
    ∃ a0 a1 a2, cs = [.int .u8 a0, .int .u8 a1, .int .u8 a2] ∧ In .u8 a0 ∧ In .u8 a1 ∧ In .u8 a2 := by
  obtain ⟨m, hl, hf⟩ := trod_fields Try.underlying23 h
  rw [cells23] at hl
  match cs, hl with
  | [c0, c1, c2], _ =>
  obtain ⟨y0, h0⟩ := hf 0 _ rfl
  obtain ⟨y1, h1⟩ := hf 1 _ rfl
  obtain ⟨y2, h2⟩ := hf 2 _ rfl
  obtain ⟨a0, e0, _, w0⟩ := DataW.trod_int Try.underlying5 (part_of (m := 1) cells5 h0 rfl)
  obtain ⟨a1, e1, _, w1⟩ := DataW.trod_int Try.underlying5 (part_of (m := 1) cells5 h1 rfl)
  obtain ⟨a2, e2, _, w2⟩ := DataW.trod_int Try.underlying5 (part_of (m := 1) cells5 h2 rfl)
  cases e0; cases e1; cases e2
  exact ⟨a0, a1, a2, rfl, w0, w1, w2⟩
theorem read_decl {n : Nat} {cs : List Value} {x : DataW H × List MemPlace} (h : DataW.trod enc Try.prog W base spare held n 25 cs = some x) :
    ∃ a0 a1 a2 a3 a4 a5, cs = [.int .u8 a0, .int .u8 a1, .int .u8 a2, .int .i64 a3, .int .i64 a4, .int .i64 a5] ∧ In .u8 a0 ∧ In .u8 a1 ∧ In .u8 a2 ∧ In .i64 a3 ∧ In .i64 a4 ∧ In .i64 a5 := by
  obtain ⟨m, hl, hf⟩ := trod_fields Try.underlying25 h
  rw [cells25] at hl
  obtain ⟨c0, c1, c2, c3, c4, c5, rfl⟩ := six hl
  obtain ⟨y0, h0⟩ := hf 0 _ rfl
  obtain ⟨y3, h3⟩ := hf 1 _ rfl
  obtain ⟨y4, h4⟩ := hf 2 _ rfl
  obtain ⟨y5, h5⟩ := hf 3 _ rfl
  obtain ⟨a0, a1, a2, e0, w0, w1, w2⟩ := read_key (part_of (m := 3) cells23 h0 rfl)
  obtain ⟨a3, e3, _, w3⟩ := DataW.trod_int Try.underlying2 (part_of (m := 1) cells2 h3 rfl)
  obtain ⟨a4, e4, _, w4⟩ := DataW.trod_int Try.underlying2 (part_of (m := 1) cells2 h4 rfl)
  obtain ⟨a5, e5, _, w5⟩ := DataW.trod_int Try.underlying2 (part_of (m := 1) cells2 h5 rfl)
  cases e0; cases e3; cases e4; cases e5
  exact ⟨a0, a1, a2, a3, a4, a5, rfl, w0, w1, w2, w3, w4, w5⟩

def IsRow (k : IntKind) (w : World) (a : Option Addr) (len cap : Nat) (zs : List Int) : Prop :=
  (a = none ∧ len = 0 ∧ cap = 0 ∧ zs = []) ∨
  ∃ x, a = some x ∧ len ≤ cap ∧ cap ≤ maxLen ∧ zs.length = cap ∧ (∀ i, i < zs.length → w.cell? (x.add i) = some (.int k (zs.getD i 0))) ∧ ∀ n ∈ zs, (Lit.int k n).wf = true
theorem read_row {t e : TypeId} {k : IntKind} {n : Nat} {cs : List Value} {x : DataW H × List MemPlace} (ht : Try.prog.underlying t = some (.slice e)) (he : Try.prog.underlying e = some (.int k)) (hc : Try.prog.cellsOf e = 1) (h : DataW.trod enc Try.prog W base (fun _ => true) held n t cs = some x) :
    ∃ a len cap zs, cs = [.slice a len cap] ∧ IsRow k W a len cap zs := by
  rcases open_ints ht he hc h with ⟨hcs, _⟩ | ⟨x, l, c, zs, hcs, _, hl, hm, hz, _, hcell, hwz⟩
  · exact ⟨none, 0, 0, [], hcs, .inl ⟨rfl, rfl, rfl, rfl⟩⟩
  · exact ⟨some x, l, c, zs, hcs, .inr ⟨_, rfl, hl, hm, by simpa using hz, hcell, hwz⟩⟩

theorem open_field {v : Value} {d : DataW H} {p : List MemPlace} (hv : Value.okWide Try.prog W .any b0 27 v) (h : DataW.Trod enc Try.prog W base spare held 27 v d p) :
    ∃ a0 a1 a2 a3 a4 a5, v = .agg #[.int .i64 a0, .int .i64 a1, .int .i64 a2, .int .i64 a3, .int .i64 a4, .int .i64 a5] ∧ In .i64 a0 ∧ In .i64 a1 ∧ In .i64 a2 ∧ In .i64 a3 ∧ In .i64 a4 ∧ In .i64 a5 := by
  obtain ⟨⟨l⟩, rfl, _⟩ := okWide_struct Try.underlying27 hv
  obtain ⟨fuel, hf⟩ := h
  obtain ⟨a0, a1, a2, a3, a4, a5, e, w⟩ := read_field hf
  obtain rfl : l = _ := e
  exact ⟨a0, a1, a2, a3, a4, a5, rfl, w⟩
theorem open_decl {v : Value} {d : DataW H} {p : List MemPlace} (hv : Value.okWide Try.prog W .any b0 25 v) (h : DataW.Trod enc Try.prog W base spare held 25 v d p) :
    ∃ a0 a1 a2 a3 a4 a5, v = .agg #[.int .u8 a0, .int .u8 a1, .int .u8 a2, .int .i64 a3, .int .i64 a4, .int .i64 a5] ∧ In .u8 a0 ∧ In .u8 a1 ∧ In .u8 a2 ∧ In .i64 a3 ∧ In .i64 a4 ∧ In .i64 a5 := by
  obtain ⟨⟨l⟩, rfl, _⟩ := okWide_struct Try.underlying25 hv
  obtain ⟨fuel, hf⟩ := h
  obtain ⟨a0, a1, a2, a3, a4, a5, e, w⟩ := read_decl hf
  obtain rfl : l = _ := e
  exact ⟨a0, a1, a2, a3, a4, a5, rfl, w⟩
theorem open_run {v : Value} {d : DataW H} {p : List MemPlace} (hv : Value.okWide Try.prog W .any b0 41 v) (h : DataW.Trod enc Try.prog W base (fun _ => true) held 41 v d p) :
    ∃ a0 a1 a2 a3 a4 a5 b l c zs b' l' c' zs', v = .agg #[.int .u8 a0, .int .u8 a1, .int .u8 a2, .int .i64 a3, .int .i64 a4, .int .i64 a5, .slice b l c, .slice b' l' c'] ∧ In .u8 a0 ∧ In .u8 a1 ∧ In .u8 a2 ∧ In .i64 a3 ∧ In .i64 a4 ∧ In .i64 a5 ∧
      IsRow .i64 W b l c zs ∧ IsRow .u8 W b' l' c' zs' := by
  obtain ⟨⟨q⟩, rfl, _⟩ := okWide_struct Try.underlying41 hv
  obtain ⟨fuel, hf⟩ := h
  obtain ⟨m, hl, hg⟩ := trod_fields Try.underlying41 hf
  rw [cells41] at hl
  obtain ⟨c0, c1, c2, c3, c4, c5, c6, c7, e⟩ := eight hl
  obtain rfl : q = _ := e
  obtain ⟨y0, h0⟩ := hg 0 _ rfl
  obtain ⟨y1, h1⟩ := hg 1 _ rfl
  obtain ⟨y2, h2⟩ := hg 2 _ rfl
  obtain ⟨a0, a1, a2, a3, a4, a5, e0, w0, w1, w2, w3, w4, w5⟩ := read_decl (part_of (m := 6) cells25 h0 rfl)
  obtain ⟨b, l, c, zs, e1, r1⟩ := read_row Try.underlying38 Try.underlying2 cells2 (part_of (m := 1) cells38 h1 rfl)
  obtain ⟨b', l', c', zs', e2, r2⟩ := read_row Try.underlying39 Try.underlying5 cells5 (part_of (m := 1) cells39 h2 rfl)
  cases e0; cases e1; cases e2
  exact ⟨a0, a1, a2, a3, a4, a5, b, l, c, zs, b', l', c', zs', rfl, w0, w1, w2, w3, w4, w5, r1, r2⟩
end
theorem own : ownKnob Try.prog.godebug = none := by kernel_rfl
theorem laidOut : laidOutB Try.prog = true := by kernel_rfl
end Go.Proofs.Ytdpbfiifdphpcaa.Open
