/- The law FieldSharp of the program's field layer holds for every input: the row, out of the printed walk and the plain law. -/
import Derived.Test.YtdpbfiifdphpcaaOpen
import Derived.Test.YtdpbfiifdphpcaaPureFieldSharp
namespace Go.Proofs.Ytdpbfiifdphpcaa.fieldSharp
open Go.ChangeShapes Go.WideShapes Go.ChangeAt Go.RowKit Go.Proofs.Ytdpbfiifdphpcaa.Open Go.Proofs.YtdpbfiifdphpcaaW.PrintWords Go.Proofs.YtdpbfiifdphpcaaW.PrintLast Go.Proofs.YtdpbfiifdphpcaaW.PrintMore
set_option linter.unusedVariables false
set_option maxRecDepth 100000 in
theorem lifted (os : Os) (started : os.Started) (H : Type) (enc : TypeId × Value → H) :
    ReturnsInHanded {} Try.checked os 6 .any (Rows.fieldSharpSpec.pre6 enc Try.prog Try.f6 Rows.fieldSharpRow.domain false) (Rows.fieldSharpSpec.post enc Try.prog Try.f6 false true false false) := by
  refine returnsInHanded_of_change_sized (C := Try.checked) own started (by kernel_rfl) Try.func6
    (ChangeSpec.witness6 (enc := enc) (C := Try.checked) false ⟨#[], #[.agg #[.int .u8 0, .int .u8 0, .int .u8 0, .int .i64 0, .int .i64 0, .int .i64 0, .slice none 0 0, .slice none 0 0], .int .i64 0], []⟩ 8 (by kernel_rfl) (by kernel_rfl) (by kernel_rfl) (by kernel_rfl)) ?_
  intro W base args ds gs before hval0 hW hcnd hsz0 _
  have hval : ∀ (j : Nat) t v, Try.f6.params[j]? = some t → args[j]? = some v → Value.okWide Try.prog W .any base t v := hval0
  have hW' := hW
  obtain ⟨p, q, hA0, hV, rfl, hfz, hnd⟩ := hW
  have hA : DataW.TrodAll enc Try.prog W 0 (fun _ => true) true Try.f6.params.toList args.toList ds p := hA0
  rw [Try.params6] at hA hval
  obtain ⟨v0, vs0, d0, ds0, p0, q0, hargs, rfl, rfl, h0, r0⟩ := trodAll_cons hA
  obtain ⟨v1, vs1, d1, ds1, p1, q1, rfl, rfl, rfl, h1, r1⟩ := trodAll_cons r0
  obtain ⟨rfl, rfl, rfl⟩ := trodAll_nil r1
  obtain rfl : args = #[v0, v1] := by cases args; simp_all
  obtain ⟨rfl, rfl⟩ := trodVars_none hV
  have k0 := h0
  have lt0 : ∀ x ∈ p0, x.block < W.heap.size := by obtain ⟨m, hm⟩ := k0; exact DataW.trod_lt m _ _ _ hm
  obtain ⟨a0_0, a0_1, a0_2, a0_3, a0_4, a0_5, A6, n6, c6, z6, A7, n7, c7, z7, rfl, w0_0, w0_1, w0_2, w0_3, w0_4, w0_5, r6, r7⟩ := open_run (hval 0 41 v0 rfl rfl) h0
  obtain ⟨l6, rfl, hr6, hm6, hw6, hc6⟩ := ReadsInt.ofRowC r6
  obtain ⟨l7, rfl, hr7, hm7, hw7, hc7⟩ := ReadsInt.ofRowC r7
  obtain ⟨a1, rfl, rfl, rfl, w1⟩ := open_int Try.underlying2 (hval 1 2 v1 rfl rfl) h1
  clear hA0 hval0 hsz0
  obtain ⟨k, h⟩ := Pure.FieldSharp a0_0 a0_1 a0_2 a0_3 a0_4 a0_5 l6 l7 a1 w0_0 w0_1 w0_2 w0_3 w0_4 w0_5 hm6 hw6 hm7 hw7 w1
  refine (G.pledgelaw17_FieldSharp.calls k a0_0 a0_1 a0_2 a0_3 a0_4 a0_5 _ _ l6 _ _ l7 a1 true W (Kd.C_of_reads (d := (0 : Int)) (h1 := fun _ => rfl) hr6) hc6 (Kd.C_of_reads (d := (0 : Int)) (h1 := fun _ => rfl) hr7) hc7 ⟨rfl⟩ h).mono ?_
  rintro e W' ⟨rfl, bel⟩
  exact ⟨_, rfl, _, _, _, [], _, [], hW', trodAll_mk1 (shut_bool Try.underlying4 _), (trodAll_cons_mk (Below.trod laidOut (by kernel_rfl) (of_decide_eq_true (by kernel_rfl)) k0 bel lt0) (trodAll_cons_mk (shut_int Try.underlying2 w1) trodAll_mk0)), rfl, bel.frame _, fun h => by cases h⟩
theorem over : Rows.fieldSharpRow.holds Try.pinned (OpenSpec.ofChange Rows.fieldSharpSpec) :=
  OpenClaim.holds_of_wide 6 Try.f6 rfl rfl rfl rfl rfl rfl rfl ⟨rfl, rfl, rfl, rfl, rfl⟩ rfl rfl rfl rfl rfl (by kernel_rfl) Try.func6 (by kernel_rfl)
    (of_decide_eq_true (by kernel_rfl)) (by unfold Func.isWrapper; first | (rw [if_pos (by decide +kernel)]; kernel_rfl) | (rw [if_neg (by decide +kernel)]; exact ⟨rfl, rfl⟩))
    (fun os started H enc _ => lifted os started H enc)
theorem proved : Rows.FieldSharpSaid := over
#print axioms proved
end Go.Proofs.Ytdpbfiifdphpcaa.fieldSharp
namespace Go.Proofs.Ytdpbfiifdphpcaa
/-- The row, under a short name, for the claim. -/
theorem fieldSharp_holds : Rows.FieldSharpSaid := fieldSharp.proved
end Go.Proofs.Ytdpbfiifdphpcaa
