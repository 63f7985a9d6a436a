/- What the other calls of the field layer make of a field that is good where they are fit. -/
import Derived.Test.YtdpbfiifdphpcaaGrants
import Derived.Test.YtdpbfiifdphpcaaGx11
import Derived.Test.YtdpbfiifdphpcaaGx12
namespace Go.Proofs.Ytdpbfiifdphpcaa.Pure
open Go.RowKit Go.Proofs.Ytdpbfiifdphpcaa.G Go.Proofs.YtdpbfiifdphpcaaW.PrintWords Go.Proofs.YtdpbfiifdphpcaaW.PrintLast Go.Proofs.Ytdpbfiifdphpcaa.Open
theorem move_yes {lo hi base inf sup val d v b i s : Int} (g : GoodP lo hi base inf sup val) (d0 : d ≠ 0) (d1 : d ≠ -9223372036854775808) (hv : In64 v) (hb : In64 b) (hi' : In64 i) (hs : In64 s) (q : GoodP lo hi b i s v) :
    moveP lo hi base inf sup val d v b i s = (lo, hi, b, i, s, v, 0) := by
  unfold moveP
  rw [if_neg (fun z => z g), if_neg (by omega), if_pos ⟨hv, hb, hi', hs, q⟩]
theorem undo_yes {lo hi base inf sup val d : Int} (h : In7 lo hi base inf sup val d) (g : GoodP lo hi base inf sup val) (d0 : d ≠ 0) (d1 : d ≠ -9223372036854775808)
    (q : GoodP lo hi base (if d < 0 then inf - d else inf) (if d < 0 then sup else sup - d) (val - d)) :
    field_Undo.f lo hi base inf sup val d = some (lo, hi, base, (if d < 0 then inf - d else inf), (if d < 0 then sup else sup - d), val - d, 0) := by
  unfold field_Undo.f
  rw [in7_pos h]
  have h' := h
  have q' := q
  unfold In7 In64 at h'
  unfold GoodP at q'
  rw [move_yes g d0 d1 (by unfold In64; omega) h.2.2.1 (by unfold In64; omega) (by unfold In64; omega) q]
theorem settle_yes {lo hi base inf sup val d : Int} (h : In7 lo hi base inf sup val d) (g : GoodP lo hi base inf sup val) (d0 : d ≠ 0) (d1 : d ≠ -9223372036854775808)
    (q : GoodP lo hi (base + d) (if d < 0 then inf else inf + d) (if d < 0 then sup + d else sup) val) :
    field_Settle.f lo hi base inf sup val d = some (lo, hi, base + d, (if d < 0 then inf else inf + d), (if d < 0 then sup + d else sup), val, 0) := by
  unfold field_Settle.f
  rw [in7_pos h]
  have h' := h
  have q' := q
  unfold In7 In64 at h'
  unfold GoodP at q'
  rw [move_yes g d0 d1 h.2.2.2.2.2.1 (by unfold In64; omega) (by unfold In64; omega) (by unfold In64; omega) q]
end Go.Proofs.Ytdpbfiifdphpcaa.Pure
