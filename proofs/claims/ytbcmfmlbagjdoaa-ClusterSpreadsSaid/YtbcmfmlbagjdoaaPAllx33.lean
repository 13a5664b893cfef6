-- A text of this session, written by a program of its own (wip/tools).
import Derived.Test.YtbcmfmlbagjdoaaPAllx0
import Derived.Test.YtbcmfmlbagjdoaaCd
namespace Go.Proofs.Ytbcmfmlbagjdoaa.PAll
open Go.RowKit Go.Proofs.YtbcmfmlbagjdoaaW.PrintWords Go.Proofs.YtbcmfmlbagjdoaaW.PrintLast Go.Proofs.YtbcmfmlbagjdoaaW.PrintMore
attribute [local go_sem] max2_int min2_int max_two min_two max_three min_three max_four min_four   -- for this text's walks alone
set_option linter.unusedVariables false
set_option linter.unusedSimpArgs false

/-! ### api_Cand_26: function 26 -/
def api_Cand_26.f (l0 : List S34) (a1 : Int) (a2 : Int) : Option (List S34) := if 0 ≤ a1 ∧ a1 < (l0.length : Int) ∧ a2 = a1 + 1 then some (l0.eraseIdx a1.toNat) else none
/-- It turns the row itself. -/
theorem api_Cand_26.turns {base : Nat} {A : Option Addr} {n c : Nat} {l r : List S34} {a1 a2 : Int} {w : World} {ok : Nat → Prop} (h : Kd.R k34 34 w base ok (.slice A n c) l) (k : api_Cand_26.f l a1 a2 = some r) :
    Calls Try.prog 26 #[.slice A n c, .int .i64 a1, .int .i64 a2] w fun e w' => ∃ v', e = .returned v' ∧ Kd.R k34 34 w' base (fun _ => True) v' r ∧ (base ≤ w.heap.size → Below base w w') := by
  unfold api_Cand_26.f at k
  by_cases h0 : 0 ≤ a1 ∧ a1 < (l.length : Int) ∧ a2 = a1 + 1
  · rw [if_pos h0] at k
    obtain rfl := Option.some.inj k
    obtain ⟨p0, p1, rfl⟩ := h0
    obtain ⟨i, rfl⟩ := Int.eq_ofNat_of_zero_le p0
    exact Ca.delete_row h i (by omega)
  · rw [if_neg h0] at k
    cases k


end Go.Proofs.Ytbcmfmlbagjdoaa.PAll
