/- What Better computes, as the printed functions tell it. -/
import Derived.Test.YtemkpeomkbgpbaaRootBase
import Derived.Test.YtemkpeomkbgpbaaPAllx30
namespace Go.Proofs.Ytemkpeomkbgpbaa.Pure
open Go Go.RowKit Go.Proofs.Ytemkpeomkbgpbaa.PAll Go.Proofs.Ytemkpeomkbgpbaa.Num Go.Proofs.YtemkpeomkbgpbaaW.PrintWords Go.Proofs.YtemkpeomkbgpbaaW.PrintMore
set_option linter.unusedVariables false

/-- the order -/
def before (s d p i s' d' p' i' : Int) : Bool :=
  decide (good s d p ∧ good s' d' p' ∧ (s < s' ∨ s = s' ∧ (dist s d p < dist s' d' p' ∨ dist s d p = dist s' d' p' ∧ i < i')))

theorem Compare_tells (a b : Int) : cmp_Compare_int.f a b = some (if a < b then -1 else if a > b then 1 else 0) := by
  unfold cmp_Compare_int.f cmp_isNaN_int.f
  simp only [bne_self_eq_false, Option.bind_some]
  by_cases h1 : a < b
  · simp [h1]
  · by_cases h2 : a > b
    · simp [h1, h2]
    · simp [h1, h2]
theorem Compare32_tells (a b : Int) : cmp_Compare_uint32.f a b = some (if a < b then -1 else if a > b then 1 else 0) := by
  unfold cmp_Compare_uint32.f cmp_isNaN_uint32.f
  simp only [bne_self_eq_false, Option.bind_some]
  by_cases h1 : a < b
  · simp [h1]
  · by_cases h2 : a > b
    · simp [h1, h2]
    · simp [h1, h2]

theorem Or_tells (a b c : Int) (k : Nat) (hk : 4 ≤ k) : cmp_Or_int.f k [a, b, c] = some (if a = 0 then if b = 0 then c else b else a) := by
  obtain ⟨k, rfl⟩ : ∃ m, k = m + 4 := ⟨k - 4, by omega⟩
  unfold cmp_Or_int.f
  have w1 : wrap64 1 = 1 := w64_in (by omega) (by omega)
  have w2 : wrap64 2 = 2 := w64_in (by omega) (by omega)
  have w3 : wrap64 3 = 3 := w64_in (by omega) (by omega)
  by_cases ha : a = 0 <;> by_cases hb : b = 0 <;> by_cases hc : c = 0 <;> simp [cmp_Or_int.l0, rd, w1, w2, w3, ha, hb, hc]

theorem Better_tells (s d p i s' d' p' i' : Int) (k : Nat) (hk : 5 ≤ k) : root_Better.f k s d p i s' d' p' i' = some (before s d p i s' d' p' i') := by
  obtain ⟨k, rfl⟩ : ∃ m, k = m + 1 := ⟨k - 1, by omega⟩
  unfold root_Better.f before
  rw [Check_tells, Check_tells]
  simp only [Option.bind_some]
  by_cases g : good s d p
  · by_cases g' : good s' d' p'
    · rw [if_pos g, if_pos g', if_pos rfl]
      simp only [root_Better.j0]
      rw [if_neg (by decide), Compare_tells, Compare32_tells, Distance_tells, Distance_tells]
      simp only [Option.bind_some]
      rw [Compare_tells]
      simp only [Option.bind_some]
      rw [Or_tells _ _ _ k (by omega)]
      simp only [Option.bind_some]
      congr 1
      generalize dist s d p = e at *
      generalize dist s' d' p' = e' at *
      rw [decide_eq_decide]
      simp only [g, g', true_and]
      repeat' split
      all_goals omega
    · rw [if_pos g, if_neg g', if_pos rfl]
      simp only [root_Better.j0]
      rw [if_pos (by decide), decide_eq_false (fun z => g' z.2.1)]
  · rw [if_neg g, if_neg (by decide)]
    simp only [root_Better.j0]
    rw [if_pos trivial, decide_eq_false (fun z => g z.1)]

end Go.Proofs.Ytemkpeomkbgpbaa.Pure
