/- The law SampleDistances: Check, Distance, Bounds and their references return the same, for every sample; and the chapter's examples hold. No condition. -/
import Derived.Test.YtkldnopfgcenhaaSampBase
import Derived.Test.YtkldnopfgcenhaaPAllx33
namespace Go.Proofs.Ytkldnopfgcenhaa.Pure
open Go Go.RowKit Go.Proofs.Ytkldnopfgcenhaa.PAll Go.Proofs.Ytkldnopfgcenhaa.Num Go.Proofs.YtkldnopfgcenhaaW.PrintWords Go.Proofs.YtkldnopfgcenhaaW.PrintMore
set_option linter.unusedVariables false

theorem isTime_tells (n : Int) : timesyncref21_isTime.f n = some (decide (inr n)) := by
  unfold timesyncref21_isTime.f
  by_cases h : n ≥ -4503599627370496
  · rw [if_pos h]
    congr 1
    exact decide_eq_decide.2 ⟨fun z => ⟨h, z⟩, fun z => z.2⟩
  · rw [if_neg h, decide_eq_false (fun z : inr n => h z.1)]
theorem rCheck_tells (o d p t : Int) : timesyncref21_Check.f o d p t = some (if fine o d p t then 0 else 3) := by
  unfold timesyncref21_Check.f
  rw [isTime_tells, isTime_tells]
  simp only [Option.bind_some, decide_eq_true_eq]
  by_cases g : fine o d p t
  · obtain ⟨g1, g2, g3, g4, g5, g6⟩ := g
    rw [if_pos g1, if_pos g2, if_neg (by omega), if_neg (by omega), if_neg (by omega), if_neg (by omega), if_pos ⟨g1, g2, g3, g4, g5, g6⟩]
  · rw [if_neg g]
    unfold fine at g
    by_cases h1 : inr o
    · by_cases h2 : inr t
      · rw [if_pos h1, if_pos h2]
        repeat' split
        all_goals first | rfl | (exfalso; exact g ⟨h1, h2, by omega, by omega, by omega, by omega⟩)
      · rw [if_pos h1, if_neg h2]
    · rw [if_neg h1]
theorem rDistance_tells (o d p t : Int) : timesyncref21_Distance.f o d p t = some (dist o d p t) := by
  unfold timesyncref21_Distance.f dist
  rw [rCheck_tells]
  simp only [Option.bind_some]
  by_cases g : fine o d p t
  · rw [if_pos g, if_pos rfl, if_pos g]
    obtain ⟨g1, g2, g3, g4, g5, g6⟩ := g
    rw [w64_in (n := d + 1) (by omega) (by omega), tdiv_pos (by omega), w64_in (n := (d + 1) / 2) (by omega) (by omega), w64_in (by omega) (by omega)]
  · rw [if_neg g, if_neg (by decide), if_neg g]
theorem rBounds_tells (o d p t : Int) : timesyncref21_Bounds.f o d p t = some (bounds o d p t) := by
  unfold timesyncref21_Bounds.f bounds
  rw [rCheck_tells, rDistance_tells]
  simp only [Option.bind_some]
  by_cases g : fine o d p t
  · rw [if_pos g, if_pos rfl, if_pos g]
    unfold dist
    rw [if_pos g]
    obtain ⟨g1, g2, g3, g4, g5, g6⟩ := g
    unfold inr at g1 g2
    rw [w64_in (n := o - ((d + 1) / 2 + p)) (by omega) (by omega), w64_in (n := o + ((d + 1) / 2 + p)) (by omega) (by omega)]
  · rw [if_neg g, if_neg (by decide), if_neg g]

theorem SampleDistances_walk (a0_0 a0_1 a0_2 a0_3 : Int) (w : World) (w0_0 : (Lit.int .i64 a0_0).wf = true) (w0_1 : (Lit.int .i64 a0_1).wf = true) (w0_2 : (Lit.int .i64 a0_2).wf = true) (w0_3 : (Lit.int .i64 a0_3).wf = true) :
    Calls Try.prog 4 #[.agg #[.int .i64 a0_0, .int .i64 a0_1, .int .i64 a0_2, .int .i64 a0_3]] w fun e w' => e = .returned (.bool true) ∧ Below w.heap.size w w' := by
  refine timesynclaw21_SampleDistances.calls 200 a0_0 a0_1 a0_2 a0_3 true w ?_
  unfold timesynclaw21_SampleDistances.f
  rw [Check_tells, rCheck_tells, Distance_tells, rDistance_tells, Bounds_tells, rBounds_tells, awake_tells 200 (by omega)]
  simp

end Go.Proofs.Ytkldnopfgcenhaa.Pure
