/- What functions of the program answer, for all inputs of which their Lean functions tell an answer; printed by a program of this session with the kit's printer, over contracts that this session proved by hand. -/
import Derived.Test.YtdlkmnpipneonaaGx0
namespace Go.Proofs.Ytdlkmnpipneonaa.G
open Go.RowKit Go.Proofs.YtdlkmnpipneonaaW.PrintWords Go.Proofs.YtdlkmnpipneonaaW.PrintLast Go.Proofs.YtdlkmnpipneonaaW.PrintMore
attribute [local go_sem] max2_int min2_int max_two min_two max_three min_three max_four min_four   -- for this text's walks alone
set_option linter.unusedVariables false
set_option linter.unusedSimpArgs false

-- NOT PRINTED: function 27 (bits_Add64)

/-! ### calc_Sum: function 10 -/
def calc_Sum.f (l0 : List Int) : Option (Int × Bool) :=
  if (∀ x ∈ l0, -9223372036854775808 ≤ x ∧ x ≤ 9223372036854775807) ∧ l0.length ≤ 140737488355328 then
    (if -9223372036854775808 ≤ l0.sum ∧ l0.sum ≤ 9223372036854775807 then some (l0.sum, true) else some (0, false))
  else none
theorem add64_run (x y c : Int) (hx : 0 ≤ x) (hy : 0 ≤ y) (hc0 : 0 ≤ c) (hc : c ≤ 1) (w : World) : (callFunc 27 #[.int .u64 x, .int .u64 y, .int .u64 c]).run Try.prog w =
    .ok (.value (.tuple #[.int .u64 ((x + y + c) % 18446744073709551616), .int .u64 ((x + y + c) / 18446744073709551616)])) w := by
  rw [run_callFunc_extern Try.func27 (by kernel_rfl) (by kernel_rfl) (by kernel_rfl) (e := add64Entry) (by kernel_rfl), run_add64 x y c hx hy hc0 hc]
  rfl
theorem add64_run0 (x y : Int) (hx : 0 ≤ x) (hy : 0 ≤ y) (w : World) : (callFunc 27 #[.int .u64 x, .int .u64 y, .int .u64 0]).run Try.prog w =
    .ok (.value (.tuple #[.int .u64 ((x + y) % 18446744073709551616), .int .u64 ((x + y) / 18446744073709551616)])) w := by
  simpa using add64_run x y 0 hx hy (Int.le_refl 0) (by decide) w
theorem sum_bounds (l : List Int) (h : ∀ x ∈ l, -9223372036854775808 ≤ x ∧ x ≤ 9223372036854775807) : -9223372036854775808 * (l.length : Int) ≤ l.sum ∧ l.sum ≤ 9223372036854775807 * (l.length : Int) := by
  induction l with
  | nil => simp
  | cons a t ih =>
    have h1 := h a (List.mem_cons_self)
    have h2 := ih (fun x hx => h x (List.mem_cons_of_mem _ hx))
    simp only [List.sum_cons, List.length_cons]
    omega
theorem take_sum (l : List Int) (k : Nat) (hk : k < l.length) : (l.take (k + 1)).sum = (l.take k).sum + rd l k := by
  rw [List.take_succ_eq_append_getElem hk, List.sum_append]
  simp [rd, hk]
theorem rd_mem (l : List Int) (k : Nat) (hk : k < l.length) : rd l k ∈ l := by
  simp [rd, hk]
def hiOf (s : Int) : Int := (s / 18446744073709551616) % 18446744073709551616
def loOf (s : Int) : Int := s % 18446744073709551616
theorem lo_in (s : Int) : 0 ≤ loOf s := by unfold loOf; omega
theorem hi_in (s : Int) : 0 ≤ hiOf s := by unfold hiOf; omega
theorem wrapu_in (a : Int) : 0 ≤ IntKind.u64.wrap a := by rw [IntKind.wrap_u64]; omega
theorem lo_step (s a : Int) : (loOf s + IntKind.u64.wrap a) % 18446744073709551616 = loOf (s + a) := by
  unfold loOf; rw [IntKind.wrap_u64]; omega
theorem carry_in (s a : Int) : 0 ≤ (loOf s + IntKind.u64.wrap a) / 18446744073709551616 ∧ (loOf s + IntKind.u64.wrap a) / 18446744073709551616 ≤ 1 := by
  unfold loOf; rw [IntKind.wrap_u64]; omega
theorem hi_step (s a : Int) (h0 : -9223372036854775808 ≤ a) (h1 : a ≤ 9223372036854775807) : (hiOf s + IntKind.u64.wrap (a / 9223372036854775808) + (loOf s + IntKind.u64.wrap a) / 18446744073709551616) % 18446744073709551616 = hiOf (s + a) := by
  unfold hiOf loOf; rw [IntKind.wrap_u64, IntKind.wrap_u64]
  have h2 : a / 9223372036854775808 = -1 ∨ a / 9223372036854775808 = 0 := by omega
  rcases h2 with h2 | h2 <;> rw [h2] <;> omega
theorem end_val (s : Int) (h : -9223372036854775808 ≤ s ∧ s ≤ 9223372036854775807) : wrap64 (loOf s) = s := by
  unfold loOf wrap64; omega
theorem end_in (s : Int) (h : -9223372036854775808 ≤ s ∧ s ≤ 9223372036854775807) : (IntKind.u64.wrap (s / 9223372036854775808) == hiOf s) = true := by
  rw [IntKind.wrap_u64, beq_iff_eq]; unfold hiOf
  have h2 : s / 9223372036854775808 = -1 ∨ s / 9223372036854775808 = 0 := by omega
  rcases h2 with h2 | h2 <;> rw [h2] <;> omega
theorem end_out (s : Int) (h0 : -1298074214633706907132624082305024 ≤ s) (h1 : s ≤ 1298074214633706907132624082305024) (h : ¬ (-9223372036854775808 ≤ s ∧ s ≤ 9223372036854775807)) : (IntKind.u64.wrap (wrap64 (loOf s) / 9223372036854775808) == hiOf s) = false := by
  rw [IntKind.wrap_u64, beq_eq_false_iff_ne]; unfold hiOf loOf wrap64
  have h2 : ((s % 18446744073709551616 + 9223372036854775808) % 18446744073709551616 - 9223372036854775808) / 9223372036854775808 = -1 ∨ ((s % 18446744073709551616 + 9223372036854775808) % 18446744073709551616 - 9223372036854775808) / 9223372036854775808 = 0 := by omega
  rcases h2 with h2 | h2 <;> rw [h2] <;> omega
set_option maxHeartbeats 1000000 in
theorem calc_Sum.calls (A0 : Option Addr) (c0 : Nat) (l0 : List Int) (r1 : Int) (r2 : Bool) (w : World) (hr0 : Kd.C (Kd.int .i64) w A0 l0.length l0) (hc0 : l0.length ≤ c0) (h : calc_Sum.f l0 = some (r1, r2)) :
    Calls Try.prog 10 #[.slice A0 l0.length c0] w fun e w' => e = .returned (.tuple #[.int .i64 r1, .bool r2]) ∧ Drawn0 w w' := by
  unfold calc_Sum.f at h
  split at h
  case isFalse => simp at h
  case isTrue hh =>
  obtain ⟨hm, hl⟩ := hh
  have HM := Aside0.mk hm
  have HL := Aside0.mk hl
  have HR := Aside0.mk hr0
  have HH := Aside0.mk h
  clear hm hl hr0 h hc0
  go_enter Try.func10, Try.ntmps10
  go_wp2
  go_loop [4, 5, 12] (fun hi lo i => ∃ k : Nat, k ≤ l0.length ∧ i = .int .i64 k ∧ hi = .int .u64 (hiOf (l0.take k).sum) ∧ lo = .int .u64 (loOf (l0.take k).sum)) (fun _ _ i => l0.length - (intOf i).toNat)
  case atStart => exact ⟨0, Nat.zero_le _, rfl, rfl, rfl⟩
  case round =>
    have hl := HL.out
    obtain ⟨k, hk, rfl, rfl, rfl⟩ := hrel
    by_cases hlt : k < l0.length
    · have hmm := HM.out _ (rd_mem l0 k hlt)
      obtain ⟨ad, e1, hx0⟩ := Kd.at_int HR.out k (by omega) (by omega)
      cases e1
      have hx : w.cell? (ad.add k) = some (.int .i64 (rd l0 k)) := hx0
      clear hx0
      have hci := carry_in (l0.take k).sum (rd l0 k)
      have hst := hi_step (l0.take k).sum (rd l0 k) hmm.1 hmm.2
      have HT := Aside0.mk (take_sum l0 k hlt)
      have u0 := lo_in (l0.take k).sum
      have u1 := wrapu_in (rd l0 k)
      have u2 := hi_in (l0.take k).sum
      have u3 := wrapu_in (rd l0 k / 9223372036854775808)
      go_wp2_with (first | simp only [add64_run0 _ _ u0 u1] | simp only [add64_run _ _ _ u2 u3 hci.1 hci.2])
      go_round
      case rel =>
        refine ⟨k + 1, by omega, by go_num, ?_, ?_⟩
        · rw [HT.out]
        · rw [lo_step, HT.out]
      case measure => simp [intOf]; omega
    · obtain rfl : k = l0.length := by omega
      have hb := sum_bounds l0 HM.out
      by_cases hin : -9223372036854775808 ≤ l0.sum ∧ l0.sum ≤ 9223372036854775807
      · have h0 := HH.out
        rw [if_pos hin] at h0
        simp only [Option.some.injEq, Prod.mk.injEq] at h0
        obtain ⟨rfl, rfl⟩ := h0
        have hf := end_in l0.sum hin
        have hv := end_val l0.sum hin
        clear hin hb
        go_wp2
        go_ret2
        exact ⟨rfl, Drawn0.refl _⟩
      · have h0 := HH.out
        rw [if_neg hin] at h0
        simp only [Option.some.injEq, Prod.mk.injEq] at h0
        obtain ⟨rfl, rfl⟩ := h0
        have hf := end_out l0.sum (by omega) (by omega) hin
        clear hin hb
        go_wp2
        go_ret2
        exact ⟨rfl, Drawn0.refl _⟩


end Go.Proofs.Ytdlkmnpipneonaa.G
