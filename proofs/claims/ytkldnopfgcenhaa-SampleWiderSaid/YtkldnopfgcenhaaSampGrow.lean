/- What Grow computes, as the printed functions tell it. -/
import Derived.Test.YtkldnopfgcenhaaSampBase
import Derived.Test.YtkldnopfgcenhaaPAllx38
namespace Go.Proofs.Ytkldnopfgcenhaa.Pure
open Go Go.RowKit Go.Proofs.Ytkldnopfgcenhaa.PAll Go.Proofs.Ytkldnopfgcenhaa.Num Go.Proofs.YtkldnopfgcenhaaW.PrintWords Go.Proofs.YtkldnopfgcenhaaW.PrintMore
set_option linter.unusedVariables false

/-- a sample at a later time -/
def growS (o d p t n tol : Int) : Int × Int × Int × Int × Int := if fine o d p t ∧ inr n ∧ tolr tol then (if n < t then (0, 0, 0, 0, 12) else keep o d (p + more (n - t) tol) n) else (0, 0, 0, 0, 3)
theorem Grow_tells (o d p t n tol : Int) (k : Nat) (hk : 30 ≤ k) : sample_Grow.f k o d p t n tol = some (growS o d p t n tol) := by
  obtain ⟨k, rfl⟩ : ∃ m, k = m + 1 := ⟨k - 1, by omega⟩
  have no : sample_Grow.j0 (k + 1) n tol true o d p t = some (0, 0, 0, 0, 3) := by simp [sample_Grow.j0]
  unfold sample_Grow.f growS
  rw [Check_tells, inside_tells, tolerance_tells]
  simp only [Option.bind_some, decide_eq_true_eq]
  by_cases g : fine o d p t
  · rw [if_pos g, if_pos rfl]
    by_cases hn : inr n
    · rw [if_pos hn]
      by_cases ht : tolr tol
      · have hc : fine o d p t ∧ inr n ∧ tolr tol := ⟨g, hn, ht⟩
        rw [decide_eq_true ht, if_pos hc]
        simp only [sample_Grow.j0, Bool.not_true]
        rw [if_neg (by decide)]
        by_cases hl : n < t
        · rw [if_pos hl, if_pos hl]
        · rw [if_neg hl, if_neg hl]
          obtain ⟨g1, g2, g3, g4, g5, g6⟩ := g
          unfold inr at g1 g2 hn
          have hb := more_bd (n - t) tol (by omega) (by omega) ht
          rw [w64_in (n := n - t) (by omega) (by omega), growth_tells _ _ (by omega) (by omega) ht k (by omega)]
          simp only [Option.bind_some]
          rw [w64_in (n := p + more (n - t) tol) (by omega) (by omega), valid_tells]
          rfl
      · rw [decide_eq_false ht, if_neg (fun z => ht z.2.2)]
        exact no
    · rw [if_neg hn, if_neg (fun z => hn z.2.1), no]
  · rw [if_neg g, if_neg (by decide), if_neg (fun z => g z.1), no]

end Go.Proofs.Ytkldnopfgcenhaa.Pure
