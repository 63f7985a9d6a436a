/- Plain lemmas for the laws of the field layer: the worked example is true; what 64 bits hold. -/
import Derived.Test.YtdpbfiifdphpcaaGx6
import Derived.Test.YtdpbfiifdphpcaaOpen
namespace Go.Proofs.Ytdpbfiifdphpcaa.Pure
open Go.RowKit Go.Proofs.Ytdpbfiifdphpcaa.G Go.Proofs.YtdpbfiifdphpcaaW.PrintWords Go.Proofs.YtdpbfiifdphpcaaW.PrintLast Go.Proofs.Ytdpbfiifdphpcaa.Open
theorem works : pledgelaw17_works.f = some true := by decide +kernel
theorem wf64 {a : Int} (h : In .i64 a) : In64 a := by
  unfold In at h
  simp [Lit.wf, IntKind.min, IntKind.max, IntKind.signed, IntKind.bits] at h
  unfold In64; omega
theorem wf8 {a : Int} (h : In .u8 a) : 0 ≤ a ∧ a ≤ 255 := by
  unfold In at h
  simp [Lit.wf, IntKind.min, IntKind.max, IntKind.signed, IntKind.bits] at h
  omega
end Go.Proofs.Ytdpbfiifdphpcaa.Pure
