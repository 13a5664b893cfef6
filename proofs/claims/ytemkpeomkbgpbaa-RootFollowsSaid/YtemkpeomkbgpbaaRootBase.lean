/- What root computes, as the printed functions tell it: validity, distance; and the chapter's examples. -/
import Derived.Test.YtemkpeomkbgpbaaNum
import Derived.Test.YtemkpeomkbgpbaaPAllx14
import Derived.Test.YtemkpeomkbgpbaaPAllx23
namespace Go.Proofs.Ytemkpeomkbgpbaa.Pure
open Go Go.RowKit Go.Proofs.Ytemkpeomkbgpbaa.PAll Go.Proofs.Ytemkpeomkbgpbaa.Num Go.Proofs.YtemkpeomkbgpbaaW.PrintWords Go.Proofs.YtemkpeomkbgpbaaW.PrintMore
set_option linter.unusedVariables false

/-- a valid root -/
def good (s d p : Int) : Prop := 1 ≤ s ∧ s ≤ 16 ∧ 0 ≤ d ∧ d ≤ 9007199254740992 ∧ 0 ≤ p ∧ p ≤ 9007199254740992
instance (s d p : Int) : Decidable (good s d p) := by unfold good; infer_instance

theorem wf64 {a : Int} (h : (Lit.int .i64 a).wf = true) : -9223372036854775808 ≤ a ∧ a ≤ 9223372036854775807 := by
  simpa [Lit.wf, IntKind.min, IntKind.max, IntKind.signed, IntKind.bits] using h

theorem isSpan_tells (n : Int) : root_isSpan.f n = some (decide (0 ≤ n ∧ n ≤ 9007199254740992)) := by
  unfold root_isSpan.f
  by_cases h : n ≥ 0
  · rw [if_pos h]
    congr 1
    by_cases h2 : n ≤ 9007199254740992
    · rw [decide_eq_true h2, decide_eq_true ⟨h, h2⟩]
    · rw [decide_eq_false h2, decide_eq_false (fun z => h2 z.2)]
  · rw [if_neg h, decide_eq_false (fun z => h z.1)]

theorem Check_tells (s d p i : Int) : root_Check.f s d p i = some (if good s d p then 0 else 3) := by
  unfold root_Check.f
  rw [isSpan_tells, isSpan_tells]
  simp only [Option.bind_some, decide_eq_true_eq]
  by_cases g : good s d p
  · obtain ⟨g1, g2, g3, g4, g5, g6⟩ := g
    rw [if_neg (by omega), if_neg (by omega), if_pos ⟨g3, g4⟩, if_pos ⟨g5, g6⟩, if_pos ⟨g1, g2, g3, g4, g5, g6⟩]
  · rw [if_neg g]
    unfold good at g
    split
    · rfl
    · split
      · rfl
      · split
        · split
          · omega
          · rfl
        · rfl

/-- the distance -/
def dist (s d p : Int) : Int := if good s d p then (d + 1) / 2 + p else 0

theorem Distance_tells (s d p i : Int) : root_Distance.f s d p i = some (dist s d p) := by
  unfold root_Distance.f dist
  rw [Check_tells]
  simp only [Option.bind_some]
  by_cases g : good s d p
  · rw [if_pos g, if_pos rfl, if_pos g]
    obtain ⟨g1, g2, g3, g4, g5, g6⟩ := g
    rw [w64_in (n := d + 1) (by omega) (by omega), tdiv_pos (by omega), w64_in (n := (d + 1) / 2) (by omega) (by omega), w64_in (by omega) (by omega)]
  · rw [if_neg g, if_neg (by decide), if_neg g]
theorem valid_tells (s d p i : Int) : root_valid.f s d p i = some (if good s d p then (s, d, p, i, 0) else (0, 0, 0, 0, 3)) := by
  unfold root_valid.f
  rw [Check_tells]
  simp only [Option.bind_some]
  by_cases g : good s d p
  · rw [if_pos g, if_pos rfl, if_pos g]
  · rw [if_neg g, if_neg (by decide), if_neg g]
theorem awake_tells (k : Nat) (hk : 40 ≤ k) : timesynclaw29_awake.f k = some true :=
  at_rounds (fun k => timesynclaw29_awake.mono k) hk (by decide +kernel)


end Go.Proofs.Ytemkpeomkbgpbaa.Pure
