/- FilterStages: plain laws. -/
import Derived.Test.YtkbbjgjbfdpciaaFy
import Derived.Test.YtkbbjgjbfdpciaaPAllx46
namespace Go.Proofs.Ytkbbjgjbfdpciaa.Fi
open Go Go.RowKit Go.Proofs.YtkbbjgjbfdpciaaW.PrintWords Go.Proofs.YtkbbjgjbfdpciaaW.PrintLast Go.Proofs.YtkbbjgjbfdpciaaW.PrintMore Go.Proofs.Ytkbbjgjbfdpciaa.PAll Go.Proofs.Ytkbbjgjbfdpciaa.Pure
set_option linter.unusedVariables false
set_option linter.unusedSimpArgs false

/-- the last eight -/
def last8 (l : List S29) : List S29 := l.drop (l.length - min l.length 8)
theorem last8_len (l : List S29) : (last8 l).length = min l.length 8 := by unfold last8; rw [List.length_drop]; omega
theorem last8_last (l : List S29) : (last8 l).getLast? = l.getLast? := by
  unfold last8
  by_cases h : l = []
  · subst h; rfl
  · rw [List.getLast?_eq_getElem?, List.getLast?_eq_getElem?, List.getElem?_drop, List.length_drop]
    have : 0 < l.length := List.length_pos_iff.2 h
    congr 1
    omega
theorem last8_push (l : List S29) (x : S29) : push (last8 l) x = last8 (l ++ [x]) := by
  unfold push
  rw [last8_len]
  unfold last8
  rw [List.length_append, List.length_singleton]
  by_cases h : min l.length 8 = 8
  · rw [if_pos h, List.tail_drop, h, List.drop_append_of_le_length (by omega)]
    congr 2
    omega
  · rw [if_neg h]
    have e1 : l.length - min l.length 8 = 0 := by omega
    have e2 : l.length + 1 - min (l.length + 1) 8 = 0 := by omega
    rw [e1, e2]; rfl
theorem fits_last (l : List S29) (x : S29) : fits (last8 l) x = fits l x := by unfold fits; rw [last8_last]

theorem same_l0 (l : List S29) : ∀ (n : Nat) (k : Nat) (i : Int), 0 ≤ i → l.length < 9223372036854775807 → (l.length : Int) - i ≤ n → n + 1 ≤ k → timesynclaw22_same.l0 k l l i = some true := by
  intro n
  induction n with
  | zero =>
    intro k i h0 hl hn hk
    obtain ⟨k, rfl⟩ : ∃ m, k = m + 1 := ⟨k - 1, by omega⟩
    simp only [timesynclaw22_same.l0]
    rw [if_neg (by omega)]
  | succ n ih =>
    intro k i h0 hl hn hk
    obtain ⟨k, rfl⟩ : ∃ m, k = m + 1 := ⟨k - 1, by omega⟩
    simp only [timesynclaw22_same.l0]
    by_cases h : i < (l.length : Int)
    · rw [if_pos h, if_pos h0, if_pos h]
      simp only [beq_self_eq_true, Bool.not_true, Bool.or_false, Bool.false_eq_true, if_false]
      rw [Num.w64_in (by omega) (by omega)]
      exact ih k (i + 1) (by omega) hl (by omega) (by omega)
    · rw [if_neg h]
theorem same_tells (l : List S29) (h : l.length ≤ 100) : timesynclaw22_same.f 200 l l = some true := by
  unfold timesynclaw22_same.f
  rw [if_pos rfl]
  exact same_l0 l 100 200 0 (by omega) (by omega) (by omega) (by omega)
end Go.Proofs.Ytkbbjgjbfdpciaa.Fi
