/- The law RootChecks: Check, Primary, Distance, Fields and their references return the same, for every root and dispersion; and the chapter's examples hold. No condition. -/
import Derived.Test.YtemkpeomkbgpbaaRootFields
import Derived.Test.YtemkpeomkbgpbaaPAllx48
namespace Go.Proofs.Ytemkpeomkbgpbaa.Pure
open Go Go.RowKit Go.Proofs.Ytemkpeomkbgpbaa.PAll Go.Proofs.Ytemkpeomkbgpbaa.Num Go.Proofs.YtemkpeomkbgpbaaW.PrintWords Go.Proofs.YtemkpeomkbgpbaaW.PrintMore
set_option linter.unusedVariables false

theorem rCheck_tells (s d p i : Int) : timesyncref29_Check.f s d p i = some (if good s d p then 0 else 3) := by
  unfold timesyncref29_Check.f
  by_cases g : good s d p
  · rw [if_pos g]
    obtain ⟨g1, g2, g3, g4, g5, g6⟩ := g
    rw [if_neg (by omega), if_neg (by omega), if_neg (by omega), if_neg (by omega), if_neg (by omega), if_neg (by omega)]
  · rw [if_neg g]
    unfold good at g
    repeat' split
    all_goals first | rfl | omega


theorem rDistance_tells (s d p i : Int) : timesyncref29_Distance.f s d p i = some (dist s d p) := by
  unfold timesyncref29_Distance.f dist
  rw [rCheck_tells]
  simp only [Option.bind_some]
  by_cases g : good s d p
  · rw [if_pos g, if_pos rfl, if_pos g]
    obtain ⟨g1, g2, g3, g4, g5, g6⟩ := g
    rw [w64_in (n := d + 1) (by omega) (by omega), tdiv_pos (by omega), w64_in (n := (d + 1) / 2) (by omega) (by omega), w64_in (by omega) (by omega)]
  · rw [if_neg g, if_neg (by decide), if_neg g]


theorem right_tells (s d p i : Int) : timesyncref29_right.f s d p i = some (if good s d p then (s, d, p, i, 0) else (0, 0, 0, 0, 3)) := by
  unfold timesyncref29_right.f
  rw [rCheck_tells]
  simp only [Option.bind_some]
  by_cases g : good s d p
  · rw [if_pos g, if_pos rfl, if_pos g]
  · rw [if_neg g, if_neg (by decide), if_neg g]


theorem rShort_tells (n : Int) (h0 : 0 ≤ n) (h1 : n ≤ 9007199254740992) : timesyncref03_Short.f n = some (short n) := by
  unfold timesyncref03_Short.f timesyncref03_split.f short units
  rw [if_neg (by omega), tmod_pos h0, tdiv_pos h0, if_neg (by omega)]
  simp only [Option.bind_some]
  rw [w64_in (n := n / 1000000000) (by omega) (by omega), w64_in (n := n / 1000000000 * 65536) (by omega) (by omega), w64_in (n := n % 1000000000 * 65536) (by omega) (by omega), w64_in (n := n % 1000000000 * 65536 + 1000000000) (by omega) (by omega), w64_in (n := n % 1000000000 * 65536 + 1000000000 - 1) (by omega) (by omega), tdiv_pos (by omega), w64_in (n := (n % 1000000000 * 65536 + 1000000000 - 1) / 1000000000) (by omega) (by omega), w64_in (n := n / 1000000000 * 65536 + (n % 1000000000 * 65536 + 1000000000 - 1) / 1000000000) (by omega) (by omega)]
  have e : n / 1000000000 * 65536 + (n % 1000000000 * 65536 + 1000000000 - 1) / 1000000000 = -(-n * 65536 / 1000000000) := by omega
  rw [e]
  by_cases h : -(-n * 65536 / 1000000000) > 4294967295
  · rw [if_pos h, if_pos h]
  · rw [if_neg h, if_neg h]
    congr 2
    omega

theorem rFields_tells (s d p i : Int) : timesyncref29_Fields.f s d p i = some (fields s d p) := by
  unfold timesyncref29_Fields.f fields
  rw [rCheck_tells]
  simp only [Option.bind_some]
  by_cases g : good s d p
  · rw [if_pos g, if_pos rfl, if_pos g]
    obtain ⟨g1, g2, g3, g4, g5, g6⟩ := g
    rw [rShort_tells d g3 g4, rShort_tells p g5 g6]
    simp only [Option.bind_some]
    unfold short
    by_cases hd : units d > 4294967295
    · rw [if_pos hd, if_pos (show units d > 4294967295 ∨ units p > 4294967295 from Or.inl hd)]
      rfl
    · rw [if_neg hd]
      by_cases hp : units p > 4294967295
      · rw [if_pos hp, if_pos (show units d > 4294967295 ∨ units p > 4294967295 from Or.inr hp)]
        rfl
      · rw [if_neg hp, if_neg (show ¬ (units d > 4294967295 ∨ units p > 4294967295) from fun z => z.elim hd hp)]
        rfl
  · rw [if_neg g, if_neg (by decide), if_neg g]

theorem RootChecks_walk (a0_0 a0_1 a0_2 a0_3 a1 : Int) (w : World) (w0_0 : (Lit.int .i64 a0_0).wf = true) (w0_1 : (Lit.int .i64 a0_1).wf = true) (w0_2 : (Lit.int .i64 a0_2).wf = true) (w0_3 : (Lit.int .u32 a0_3).wf = true) (w1 : (Lit.int .i64 a1).wf = true) :
    Calls Try.prog 6 #[.agg #[.int .i64 a0_0, .int .i64 a0_1, .int .i64 a0_2, .int .u32 a0_3], .int .i64 a1] w fun e w' => e = .returned (.bool true) ∧ Below w.heap.size w w' := by
  refine timesynclaw29_RootChecks.calls 200 a0_0 a0_1 a0_2 a0_3 a1 true w ?_
  unfold timesynclaw29_RootChecks.f root_Primary.f timesyncref29_Primary.f
  rw [valid_tells, right_tells, Fields_tells _ _ _ _ 200 (by omega), rFields_tells, Check_tells, rCheck_tells, Distance_tells, rDistance_tells, awake_tells 200 (by omega)]
  simp [timesynclaw29_RootChecks.j0]

end Go.Proofs.Ytemkpeomkbgpbaa.Pure
