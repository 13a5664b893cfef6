-- A text of this session, written by a program of its own (wip/tools).
import Derived.Test.YtfnfmlcngleemaaPAllx0
import Derived.Test.YtfnfmlcngleemaaTr
namespace Go.Proofs.Ytfnfmlcngleemaa.PAll
open Go.RowKit Go.Proofs.YtfnfmlcngleemaaW.PrintWords Go.Proofs.YtfnfmlcngleemaaW.PrintLast Go.Proofs.YtfnfmlcngleemaaW.PrintMore
attribute [local go_sem] max2_int min2_int max_two min_two max_three min_three max_four min_four   -- for this text's walks alone
set_option linter.unusedVariables false
set_option linter.unusedSimpArgs false

/-! ### interval_run_16: function 16 -/
def interval_run_16.f (l0 : List S44) : Option (List S44) := if l0.length ≤ 1000 then some l0.reverse else none
theorem interval_run_16.calls (P0_ : Nat → Prop) (u9000_ : Value) (l0 : List (S44)) (r : List (S44)) (w0 w : World) (hB : Below w0.heap.size w0 w) (ho0 : Kd.R k44 44 w w0.heap.size P0_ u9000_ l0) (h : interval_run_16.f l0 = some r) :
    Calls Try.prog 16 #[u9000_] w fun e w' => e = .returned (.tuple #[]) ∧ Kd.R k44 44 w' w0.heap.size (fun k_ => (P0_ k_ ∨ w.heap.size ≤ k_)) u9000_ r ∧ Below w0.heap.size w0 w' ∧ Kept w w' (fun k_ => P0_ k_) := by
  unfold interval_run_16.f at h
  by_cases h0 : l0.length ≤ 1000
  · rw [if_pos h0] at h
    obtain rfl := Option.some.inj h
    exact Tr.reverse_row hB ho0 h0
  · rw [if_neg h0] at h
    cases h

end Go.Proofs.Ytfnfmlcngleemaa.PAll
