/- The walks of what a view tells of one field. -/
import Derived.Test.YtnipjfciphgfjaaFundGrant
namespace Go.Proofs.Ytnipjfciphgfjaa.V
open Go.RowKit Go.Proofs.Ytnipjfciphgfjaa.G Go.Proofs.YtnipjfciphgfjaaW.PrintWords Go.Proofs.YtnipjfciphgfjaaW.PrintLast Go.Proofs.YtnipjfciphgfjaaW.PrintMore
set_option linter.unusedVariables false
set_option linter.unusedSimpArgs false
set_option maxHeartbeats 2000000
set_option maxRecDepth 100000
theorem view_Free.calls (w : World) (f t b n : Nat) (M : Rowmap) (k0 k1 k2 x0 x1 x2 x3 x4 x5 r : Int) (hF : IsFund w f t b n M) (u0 : U8 k0) (u1 : U8 k1) (u2 : U8 k2) (hv : (M (k0, k1, k2)).getD F6.zero = (x0, x1, x2, x3, x4, x5)) (hr : view_far.f x0 x3 = some r) :
    Calls Try.prog 9 #[.pointer (some ⟨f, 0, none⟩), .agg #[.int .u8 k0, .int .u8 k1, .int .u8 k2]] w fun e w' => e = .returned (.int .i64 r) ∧ Below w.heap.size w w' := by
  have hg : ∀ W, Below w.heap.size w W → Calls Try.prog 27 #[.pointer (some ⟨f, 0, none⟩), .agg #[.int .u8 k0, .int .u8 k1, .int .u8 k2]] W fun e w' =>
      e = .returned (.tuple #[.agg #[.int .i64 x0, .int .i64 x1, .int .i64 x2, .int .i64 x3, .int .i64 x4, .int .i64 x5], .bool (M (k0, k1, k2)).isSome]) ∧ Below W.heap.size W w' :=
    fun W hW => fund_Get.calls W f t b n M k0 k1 k2 x0 x1 x2 x3 x4 x5 _ (hF.below hW).fund (hF.below hW).table (hF.below hW).map u0 u1 u2 hv rfl
  have HG := Aside0.mk hg
  have HR := Aside0.mk hr
  clear hg hF u0 u1 u2 hv hr
  go_enter Try.func9, Try.ntmps9
  go_wp2_with (first | (go_at_call 27; ((with_reducible refine (HG.out _ (below_alloc (Below.refl _ _) _)).mono ?_); rintro e w1 ⟨rfl, hb⟩; have h3 : Below w.heap.size w w1 := below_step (below_alloc (Below.refl _ _) _) hb; obtain ⟨hcc, hff⟩ := bcell hb)) | (go_at_call 28; ((with_reducible refine (view_far.calls _ _ _ _ HR.out).mono ?_); rintro e w2 ⟨rfl, ⟨nd, rfl⟩⟩)))
  refine bodyPost_ret (v := .int .i64 r) (by simp [results, Try.results9, go_sem]) rfl ⟨rfl, ?_⟩
  exact pw_below_drewN (below_alloc h3 _) nd
theorem view_Room.calls (w : World) (f t b n : Nat) (M : Rowmap) (k0 k1 k2 x0 x1 x2 x3 x4 x5 r : Int) (hF : IsFund w f t b n M) (u0 : U8 k0) (u1 : U8 k1) (u2 : U8 k2) (hv : (M (k0, k1, k2)).getD F6.zero = (x0, x1, x2, x3, x4, x5)) (hr : view_far.f x4 x1 = some r) :
    Calls Try.prog 10 #[.pointer (some ⟨f, 0, none⟩), .agg #[.int .u8 k0, .int .u8 k1, .int .u8 k2]] w fun e w' => e = .returned (.int .i64 r) ∧ Below w.heap.size w w' := by
  have hg : ∀ W, Below w.heap.size w W → Calls Try.prog 27 #[.pointer (some ⟨f, 0, none⟩), .agg #[.int .u8 k0, .int .u8 k1, .int .u8 k2]] W fun e w' =>
      e = .returned (.tuple #[.agg #[.int .i64 x0, .int .i64 x1, .int .i64 x2, .int .i64 x3, .int .i64 x4, .int .i64 x5], .bool (M (k0, k1, k2)).isSome]) ∧ Below W.heap.size W w' :=
    fun W hW => fund_Get.calls W f t b n M k0 k1 k2 x0 x1 x2 x3 x4 x5 _ (hF.below hW).fund (hF.below hW).table (hF.below hW).map u0 u1 u2 hv rfl
  have HG := Aside0.mk hg
  have HR := Aside0.mk hr
  clear hg hF u0 u1 u2 hv hr
  go_enter Try.func10, Try.ntmps10
  go_wp2_with (first | (go_at_call 27; ((with_reducible refine (HG.out _ (below_alloc (Below.refl _ _) _)).mono ?_); rintro e w1 ⟨rfl, hb⟩; have h3 : Below w.heap.size w w1 := below_step (below_alloc (Below.refl _ _) _) hb; obtain ⟨hcc, hff⟩ := bcell hb)) | (go_at_call 28; ((with_reducible refine (view_far.calls _ _ _ _ HR.out).mono ?_); rintro e w2 ⟨rfl, ⟨nd, rfl⟩⟩)))
  refine bodyPost_ret (v := .int .i64 r) (by simp [results, Try.results10, go_sem]) rfl ⟨rfl, ?_⟩
  exact pw_below_drewN (below_alloc h3 _) nd
end Go.Proofs.Ytnipjfciphgfjaa.V
