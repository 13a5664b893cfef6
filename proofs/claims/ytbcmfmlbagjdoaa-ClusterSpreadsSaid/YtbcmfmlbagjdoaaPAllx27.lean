-- A text of this session, written by a program of its own (wip/tools).
import Derived.Test.YtbcmfmlbagjdoaaPAllx0
import Derived.Laws.Externs
namespace Go.Proofs.Ytbcmfmlbagjdoaa.PAll
open Go.RowKit Go.Proofs.YtbcmfmlbagjdoaaW.PrintWords Go.Proofs.YtbcmfmlbagjdoaaW.PrintLast Go.Proofs.YtbcmfmlbagjdoaaW.PrintMore
attribute [local go_sem] max2_int min2_int max_two min_two max_three min_three max_four min_four   -- for this text's walks alone
set_option linter.unusedVariables false
set_option linter.unusedSimpArgs false

/-! ### bits_Add64: function 33 -/
def bits_Add64.f (a0 : Int) (a1 : Int) (a2 : Int) : Option (Int × Int) := if 0 ≤ a0 ∧ a0 < 18446744073709551616 ∧ 0 ≤ a1 ∧ a1 < 18446744073709551616 ∧ a2 = 0 then some ((a0 + a1) % 18446744073709551616, (a0 + a1) / 18446744073709551616) else none
/-- The model stands in for it: the call runs here and now. -/
theorem bits_Add64.runs {a0 a1 r1 r2 : Int} (h : bits_Add64.f a0 a1 0 = some (r1, r2)) (w : World) :
    (callFunc 33 #[.int .u64 a0, .int .u64 a1, .int .u64 0]).run Try.prog w = .ok (.value (.tuple #[.int .u64 r1, .int .u64 r2])) w := by
  unfold bits_Add64.f at h
  by_cases h0 : 0 ≤ a0 ∧ a0 < 18446744073709551616 ∧ 0 ≤ a1 ∧ a1 < 18446744073709551616 ∧ (0 : Int) = 0
  · rw [if_pos h0] at h
    obtain ⟨rfl, rfl⟩ := Prod.mk.inj (Option.some.inj h)
    clear h
    obtain ⟨p0, p1, p2, p3, _⟩ := h0
    have hr := run_add64 (P := Try.prog) a0 a1 0 p0 p2 (by decide) (by decide) w
    rw [run_callFunc_extern Try.func33 (by kernel_rfl) (by kernel_rfl) (by kernel_rfl) (e := add64Entry) (by kernel_rfl), hr]
    simp only [Result.andThen, Int.add_zero]
  · rw [if_neg h0] at h
    cases h


end Go.Proofs.Ytbcmfmlbagjdoaa.PAll
