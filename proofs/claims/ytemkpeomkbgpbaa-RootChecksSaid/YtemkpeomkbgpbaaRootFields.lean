/- What Fields, Primary and their references compute, as the printed functions tell them. -/
import Derived.Test.YtemkpeomkbgpbaaRootBase
import Derived.Test.YtemkpeomkbgpbaaMulFix
import Derived.Test.YtemkpeomkbgpbaaPAllx44
namespace Go.Proofs.Ytemkpeomkbgpbaa.Pure
open Go Go.RowKit Go.Proofs.Ytemkpeomkbgpbaa.PAll Go.Proofs.Ytemkpeomkbgpbaa.Num Go.Proofs.Ytemkpeomkbgpbaa.PureDiv Go.Proofs.YtemkpeomkbgpbaaW.PrintWords Go.Proofs.YtemkpeomkbgpbaaW.PrintMore
set_option linter.unusedVariables false

/-- the short form, rounded up -/
def units (n : Int) : Int := -(-n * 65536 / 1000000000)
def short (n : Int) : Int × Int := if units n > 4294967295 then (0, 3) else (units n, 0)

theorem Short_tells (n : Int) (h0 : 0 ≤ n) (h1 : n ≤ 9007199254740992) (k : Nat) (hk : 20 ≤ k) : stamp_Short.f k n = some (short n) := by
  unfold stamp_Short.f short units
  rw [if_neg (by omega), w64_in (n := -n) (by omega) (by omega), MulDiv_tells _ _ _ (by omega) (by omega) (by omega) (by omega) (by omega) (by omega) k hk, md_in (by omega) (by omega)]
  simp only [Option.bind_some, if_true]
  rw [w64_in (n := -(-n * 65536 / 1000000000)) (by omega) (by omega)]
  by_cases h : -(-n * 65536 / 1000000000) > 4294967295
  · rw [if_pos h, if_pos h]
  · rw [if_neg h, if_neg h]
    congr 2
    omega

/-- both fields of a root -/
def fields (s d p : Int) : Int × Int × Int := if good s d p then (if units d > 4294967295 ∨ units p > 4294967295 then (0, 0, 3) else (units d, units p, 0)) else (0, 0, 3)

theorem Fields_tells (s d p i : Int) (k : Nat) (hk : 20 ≤ k) : root_Fields.f k s d p i = some (fields s d p) := by
  unfold root_Fields.f fields
  rw [Check_tells]
  simp only [Option.bind_some]
  by_cases g : good s d p
  · rw [if_pos g, if_pos rfl, if_pos g]
    obtain ⟨g1, g2, g3, g4, g5, g6⟩ := g
    rw [Short_tells d g3 g4 k hk, Short_tells p g5 g6 k hk]
    simp only [Option.bind_some]
    unfold short
    by_cases hd : units d > 4294967295
    · rw [if_pos hd, if_pos (show units d > 4294967295 ∨ units p > 4294967295 from Or.inl hd)]
      rfl
    · rw [if_neg hd]
      by_cases hp : units p > 4294967295
      · rw [if_pos hp, if_pos (show units d > 4294967295 ∨ units p > 4294967295 from Or.inr hp)]
        rfl
      · rw [if_neg hp, if_neg (show ¬ (units d > 4294967295 ∨ units p > 4294967295) from fun z => z.elim hd hp)]
        rfl
  · rw [if_neg g, if_neg (by decide), if_neg g]

end Go.Proofs.Ytemkpeomkbgpbaa.Pure
