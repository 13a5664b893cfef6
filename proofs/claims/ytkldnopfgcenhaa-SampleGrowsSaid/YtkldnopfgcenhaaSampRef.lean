/- What the reference of the layer sample computes, as the printed functions tell it. -/
import Derived.Test.YtkldnopfgcenhaaSampBase
import Derived.Test.YtkldnopfgcenhaaMulRef
import Derived.Test.YtkldnopfgcenhaaPAllx17
import Derived.Test.YtkldnopfgcenhaaPAllx25
import Derived.Test.YtkldnopfgcenhaaPAllx18
namespace Go.Proofs.Ytkldnopfgcenhaa.Pure
open Go Go.RowKit Go.Proofs.Ytkldnopfgcenhaa.PAll Go.Proofs.Ytkldnopfgcenhaa.Num Go.Proofs.Ytkldnopfgcenhaa.PureDiv Go.Proofs.YtkldnopfgcenhaaW.PrintWords Go.Proofs.YtkldnopfgcenhaaW.PrintMore
set_option linter.unusedVariables false

theorem isTime_tells (n : Int) : timesyncref21_isTime.f n = some (decide (inr n)) := by
  unfold timesyncref21_isTime.f
  by_cases h : n ≥ -4503599627370496
  · rw [if_pos h]
    congr 1
    exact decide_eq_decide.2 ⟨fun z => ⟨h, z⟩, fun z => z.2⟩
  · rw [if_neg h, decide_eq_false (fun z : inr n => h z.1)]
theorem isTol_tells (n : Int) : timesyncref21_isTol.f n = some (decide (tolr n)) := by
  unfold timesyncref21_isTol.f
  by_cases h : n ≥ 0
  · rw [if_pos h]
    congr 1
    exact decide_eq_decide.2 ⟨fun z => ⟨h, z⟩, fun z => z.2⟩
  · rw [if_neg h, decide_eq_false (fun z : tolr n => h z.1)]
theorem rCheck_tells (o d p t : Int) : timesyncref21_Check.f o d p t = some (if fine o d p t then 0 else 3) := by
  unfold timesyncref21_Check.f
  rw [isTime_tells, isTime_tells]
  simp only [Option.bind_some, decide_eq_true_eq]
  by_cases g : fine o d p t
  · obtain ⟨g1, g2, g3, g4, g5, g6⟩ := g
    rw [if_pos g1, if_pos g2, if_neg (by omega), if_neg (by omega), if_neg (by omega), if_neg (by omega), if_pos ⟨g1, g2, g3, g4, g5, g6⟩]
  · rw [if_neg g]
    unfold fine at g
    by_cases h1 : inr o
    · by_cases h2 : inr t
      · rw [if_pos h1, if_pos h2]
        repeat' split
        all_goals first | rfl | (exfalso; exact g ⟨h1, h2, by omega, by omega, by omega, by omega⟩)
      · rw [if_pos h1, if_neg h2]
    · rw [if_neg h1]
theorem rgrowth_tells (d t : Int) (hd0 : 0 ≤ d) (hd1 : d ≤ 9007199254740992) (ht : tolr t) (k : Nat) (hk : 130 ≤ k) : timesyncref21_growth.f k d t = some (more d t) := by
  have hb := more_bd d t hd0 hd1 ht
  obtain ⟨t0, t1⟩ := ht
  unfold timesyncref21_growth.f
  rw [w64_in (n := -d) (by omega) (by omega), rMulDiv_tells _ _ _ (by omega) (by omega) (by omega) (by omega) (by omega) (by omega) k hk, md_in (by omega) (by omega)]
  simp only [Option.bind_some]
  rw [w64_in (by omega) (by omega)]
  rfl

end Go.Proofs.Ytkldnopfgcenhaa.Pure
