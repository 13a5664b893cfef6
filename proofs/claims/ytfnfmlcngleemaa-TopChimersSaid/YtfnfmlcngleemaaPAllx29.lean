-- A text of this session, written by a program of its own (wip/tools).
import Derived.Test.YtfnfmlcngleemaaPAllx0
import Derived.Test.YtfnfmlcngleemaaTw
namespace Go.Proofs.Ytfnfmlcngleemaa.PAll
open Go.RowKit Go.Proofs.YtfnfmlcngleemaaW.PrintWords Go.Proofs.YtfnfmlcngleemaaW.PrintLast Go.Proofs.YtfnfmlcngleemaaW.PrintMore
attribute [local go_sem] max2_int min2_int max_two min_two max_three min_three max_four min_four   -- for this text's walks alone
set_option linter.unusedVariables false
set_option linter.unusedSimpArgs false

/-! ### api_Cand: function 10 -/
def api_Cand.f (l0 : List S32) (a1 a2 : Int) : Option (List Int) := if l0.length ≤ 100 then some (Tw.sel a1 a2 l0 l0.length) else none
theorem api_Cand.calls (A0 : Option Addr) (c0 : Nat) (l0 : List S32) (a1 a2 : Int) (r : List Int) (w : World) (hr0 : Kd.C k32 w A0 l0.length l0) (hc0 : l0.length ≤ c0) (h : api_Cand.f l0 a1 a2 = some r) (g : Nat) (hbox : w.heap[g]? = some (.cells #[.int .i64 a1, .int .i64 a2] 25 (0, 0))) :
    Calls Try.prog 10 #[.slice A0 l0.length c0, .func (.func 11) #[] #[.pointer (some ⟨g, 0, none⟩)]] w fun e w' => ∃ v0_ : Value, e = .returned v0_ ∧ Kd.R (Kd.int .i64) 3 w' w.heap.size (fun _ => True) v0_ r ∧ Below w.heap.size w w' := by
  unfold api_Cand.f at h
  by_cases h0 : l0.length ≤ 100
  · rw [if_pos h0] at h
    obtain rfl := Option.some.inj h
    exact Tw.where_any A0 c0 l0 w hr0 g a1 a2 hbox h0
  · rw [if_neg h0] at h
    cases h

end Go.Proofs.Ytfnfmlcngleemaa.PAll
