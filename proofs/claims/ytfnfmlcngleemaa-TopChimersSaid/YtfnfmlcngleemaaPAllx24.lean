-- A text of this session, written by a program of its own (wip/tools).
import Derived.Test.YtfnfmlcngleemaaPAllx0
import Derived.Test.YtfnfmlcngleemaaTo
namespace Go.Proofs.Ytfnfmlcngleemaa.PAll
open Go.RowKit Go.Proofs.YtfnfmlcngleemaaW.PrintWords Go.Proofs.YtfnfmlcngleemaaW.PrintLast Go.Proofs.YtfnfmlcngleemaaW.PrintMore
attribute [local go_sem] max2_int min2_int max_two min_two max_three min_three max_four min_four   -- for this text's walks alone
set_option linter.unusedVariables false
set_option linter.unusedSimpArgs false

/-! ### interval_change_18: function 18 -/
def interval_change_18.f (l0 : List S51) : Option (List S51) := if l0.length ≤ 100 then some (Ta.sortS l0) else none
theorem interval_change_18.calls (P0_ : Nat → Prop) (u9000_ : Value) (l0 : List (S51)) (r : List (S51)) (w0 w : World) (hB : Below w0.heap.size w0 w) (ho0 : Kd.R k51 51 w w0.heap.size P0_ u9000_ l0) (h : interval_change_18.f l0 = some r) :
    Calls Try.prog 18 #[u9000_, .func (.func 19) #[] #[]] w fun e w' => e = .returned (.tuple #[]) ∧ Kd.R k51 51 w' w0.heap.size (fun k_ => (P0_ k_ ∨ w.heap.size ≤ k_)) u9000_ r ∧ Below w0.heap.size w0 w' ∧ Kept w w' (fun k_ => P0_ k_) := by
  unfold interval_change_18.f at h
  by_cases h0 : l0.length ≤ 100
  · rw [if_pos h0] at h
    obtain rfl := Option.some.inj h
    exact Ta.sort_row hB ho0 h0
  · rw [if_neg h0] at h
    cases h

end Go.Proofs.Ytfnfmlcngleemaa.PAll
