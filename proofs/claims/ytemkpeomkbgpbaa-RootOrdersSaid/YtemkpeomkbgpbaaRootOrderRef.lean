/- What the reference's Better computes, as the printed functions tell it. -/
import Derived.Test.YtemkpeomkbgpbaaRootOrder
import Derived.Test.YtemkpeomkbgpbaaPAllx32
namespace Go.Proofs.Ytemkpeomkbgpbaa.Pure
open Go Go.RowKit Go.Proofs.Ytemkpeomkbgpbaa.PAll Go.Proofs.Ytemkpeomkbgpbaa.Num Go.Proofs.YtemkpeomkbgpbaaW.PrintWords Go.Proofs.YtemkpeomkbgpbaaW.PrintMore
set_option linter.unusedVariables false

theorem rCheck_tells (s d p i : Int) : timesyncref29_Check.f s d p i = some (if good s d p then 0 else 3) := by
  unfold timesyncref29_Check.f
  by_cases g : good s d p
  · rw [if_pos g]
    obtain ⟨g1, g2, g3, g4, g5, g6⟩ := g
    rw [if_neg (by omega), if_neg (by omega), if_neg (by omega), if_neg (by omega), if_neg (by omega), if_neg (by omega)]
  · rw [if_neg g]
    unfold good at g
    repeat' split
    all_goals first | rfl | omega

theorem rDistance_tells (s d p i : Int) : timesyncref29_Distance.f s d p i = some (dist s d p) := by
  unfold timesyncref29_Distance.f dist
  rw [rCheck_tells]
  simp only [Option.bind_some]
  by_cases g : good s d p
  · rw [if_pos g, if_pos rfl, if_pos g]
    obtain ⟨g1, g2, g3, g4, g5, g6⟩ := g
    rw [w64_in (n := d + 1) (by omega) (by omega), tdiv_pos (by omega), w64_in (n := (d + 1) / 2) (by omega) (by omega), w64_in (by omega) (by omega)]
  · rw [if_neg g, if_neg (by decide), if_neg g]

theorem rBetter_tells (s d p i s' d' p' i' : Int) (k : Nat) (hk : 5 ≤ k) : timesyncref29_Better.f k s d p i s' d' p' i' = some (before s d p i s' d' p' i') := by
  obtain ⟨k, rfl⟩ : ∃ m, k = m + 1 := ⟨k - 1, by omega⟩
  unfold timesyncref29_Better.f before
  rw [rCheck_tells, rCheck_tells]
  simp only [Option.bind_some]
  by_cases g : good s d p
  · by_cases g' : good s' d' p'
    · rw [if_pos g, if_pos g', if_pos rfl]
      simp only [timesyncref29_Better.j0]
      rw [if_neg (by decide), rDistance_tells, rDistance_tells]
      simp only [Option.bind_some]
      generalize dist s d p = e at *
      generalize dist s' d' p' = e' at *
      by_cases hs : s = s'
      · rw [if_pos hs]
        by_cases he : e = e'
        · rw [if_pos he]
          congr 1
          rw [decide_eq_decide]
          simp only [g, g', true_and]
          omega
        · rw [if_neg he]
          congr 1
          rw [decide_eq_decide]
          simp only [g, g', true_and]
          omega
      · rw [if_neg hs]
        congr 1
        rw [decide_eq_decide]
        simp only [g, g', true_and]
        omega
    · rw [if_pos g, if_neg g', if_pos rfl]
      simp only [timesyncref29_Better.j0]
      rw [if_pos (by decide), decide_eq_false (fun z => g' z.2.1)]
  · rw [if_neg g, if_neg (by decide)]
    simp only [timesyncref29_Better.j0]
    rw [if_pos trivial, decide_eq_false (fun z => g z.1)]


end Go.Proofs.Ytemkpeomkbgpbaa.Pure
