/- What Grow and its reference compute, as the printed functions tell them. -/
import Derived.Test.YtemkpeomkbgpbaaRootBase
import Derived.Test.YtemkpeomkbgpbaaMulRef
import Derived.Test.YtemkpeomkbgpbaaPAllx5
import Derived.Test.YtemkpeomkbgpbaaPAllx13
namespace Go.Proofs.Ytemkpeomkbgpbaa.Pure
open Go Go.RowKit Go.Proofs.Ytemkpeomkbgpbaa.PAll Go.Proofs.Ytemkpeomkbgpbaa.Num Go.Proofs.Ytemkpeomkbgpbaa.PureDiv Go.Proofs.YtemkpeomkbgpbaaW.PrintWords Go.Proofs.YtemkpeomkbgpbaaW.PrintMore
set_option linter.unusedVariables false

theorem rCheck_tells (s d p i : Int) : timesyncref29_Check.f s d p i = some (if good s d p then 0 else 3) := by
  unfold timesyncref29_Check.f
  by_cases g : good s d p
  · rw [if_pos g]
    obtain ⟨g1, g2, g3, g4, g5, g6⟩ := g
    rw [if_neg (by omega), if_neg (by omega), if_neg (by omega), if_neg (by omega), if_neg (by omega), if_neg (by omega)]
  · rw [if_neg g]
    unfold good at g
    repeat' split
    all_goals first | rfl | omega

theorem right_tells (s d p i : Int) : timesyncref29_right.f s d p i = some (if good s d p then (s, d, p, i, 0) else (0, 0, 0, 0, 3)) := by
  unfold timesyncref29_right.f
  rw [rCheck_tells]
  simp only [Option.bind_some]
  by_cases g : good s d p
  · rw [if_pos g, if_pos rfl, if_pos g]
  · rw [if_neg g, if_neg (by decide), if_neg g]

/-- how much the dispersion grows -/
def more (n t : Int) : Int := -((-n) * t / 1000000000)

theorem bind5 (o : Option (Int × Int × Int × Int × Int)) : (o.bind fun bt => some (bt.1, bt.2.1, bt.2.2.1, bt.2.2.2.1, bt.2.2.2.2)) = o := by cases o <;> rfl

/-- the growth in whole seconds and the rest -/
theorem more_parts (n t : Int) (hn0 : 0 ≤ n) (ht0 : 0 ≤ t) : more n t = n / 1000000000 * t + (n % 1000000000 * t + 1000000000 - 1) / 1000000000 := by
  unfold more
  have e : n * t = n / 1000000000 * t * 1000000000 + n % 1000000000 * t := by
    have h := Int.mul_ediv_add_emod n 1000000000
    have : n * t = (1000000000 * (n / 1000000000) + n % 1000000000) * t := by rw [h]
    rw [this, Int.add_mul, Int.mul_assoc, Int.mul_comm]
  rw [Int.neg_mul, e]
  generalize n / 1000000000 * t = a
  generalize n % 1000000000 * t = b
  omega

theorem more_bd (n t : Int) (hn0 : 0 ≤ n) (hn1 : n ≤ 9007199254740992) (ht0 : 0 ≤ t) (ht1 : t ≤ 500000) : 0 ≤ more n t ∧ more n t ≤ 4503599627371 ∧ -(4503599627371 : Int) ≤ (-n) * t / 1000000000 ∧ (-n) * t / 1000000000 ≤ 0 := by
  have h := mul_bd hn0 hn1 ht0 ht1
  unfold more
  rw [Int.neg_mul]
  omega

theorem Grow_tells (s d p i n t : Int) : root_Grow.f s d p i n t = some (if good s d p ∧ 0 ≤ n ∧ n ≤ 9007199254740992 ∧ 0 ≤ t ∧ t ≤ 500000 then (if good s d (p + more n t) then (s, d, p + more n t, i, 0) else (0, 0, 0, 0, 3)) else (0, 0, 0, 0, 3)) := by
  unfold root_Grow.f
  rw [Check_tells, isSpan_tells, valid_tells]
  simp only [Option.bind_some]
  by_cases g : good s d p
  · rw [if_pos g, if_pos rfl]
    by_cases hn : 0 ≤ n ∧ n ≤ 9007199254740992
    · rw [decide_eq_true hn, if_pos rfl]
      by_cases ht : t < 0
      · rw [if_pos ht, if_neg (fun z => by omega)]
      · rw [if_neg ht]
        by_cases ht2 : t > 500000
        · rw [if_pos ht2, if_neg (fun z => by omega)]
        · have hc : good s d p ∧ 0 ≤ n ∧ n ≤ 9007199254740992 ∧ 0 ≤ t ∧ t ≤ 500000 := ⟨g, hn.1, hn.2, by omega, by omega⟩
          rw [if_neg ht2, if_pos hc]
          have hp := more_parts n t hn.1 (by omega)
          have hb := more_bd n t hn.1 hn.2 (by omega) (by omega)
          have e : wrap64 (p + wrap64 (wrap64 (wrap64 (n.tdiv 1000000000) * t) + wrap64 ((wrap64 (wrap64 (wrap64 (n.tmod 1000000000 * t) + 1000000000) - 1)).tdiv 1000000000))) = p + more n t := by
            rw [tdiv_pos hn.1, tmod_pos hn.1, w64_in (n := n / 1000000000) (by omega) (by omega)]
            have h1 := mul_bd (x := n / 1000000000) (m := 9007200) (by omega) (by omega) (show 0 ≤ t by omega) (show t ≤ 500000 by omega)
            have h2 := mul_bd (x := n % 1000000000) (m := 999999999) (by omega) (by omega) (show 0 ≤ t by omega) (show t ≤ 500000 by omega)
            rw [hp] at hb ⊢
            clear hp hc
            generalize n / 1000000000 * t = a at *
            generalize n % 1000000000 * t = b at *
            obtain ⟨g1, g2, g3, g4, g5, g6⟩ := g
            rw [w64_in (n := a) (by omega) (by omega), w64_in (n := b) (by omega) (by omega), w64_in (n := b + 1000000000) (by omega) (by omega), w64_in (n := b + 1000000000 - 1) (by omega) (by omega), tdiv_pos (by omega)]
            rw [w64_in (n := (b + 1000000000 - 1) / 1000000000) (by omega) (by omega), w64_in (n := a + (b + 1000000000 - 1) / 1000000000) (by omega) (by omega), w64_in (by omega) (by omega)]
          rw [e]
    · rw [decide_eq_false hn, if_neg (by decide), if_neg (fun z => hn ⟨z.2.1, z.2.2.1⟩)]
  · rw [if_neg g, if_neg (by decide), if_neg (fun z => g z.1)]

theorem rGrow_tells (s d p i n t : Int) (hs0 : -9223372036854775808 ≤ n) (hs1 : n ≤ 9223372036854775807) (ht0 : -9223372036854775808 ≤ t) (ht1 : t ≤ 9223372036854775807) (k : Nat) (hk : 131 ≤ k) :
    timesyncref29_Grow.f k s d p i n t = some (if good s d p ∧ 0 ≤ n ∧ n ≤ 9007199254740992 ∧ 0 ≤ t ∧ t ≤ 500000 then (if good s d (p + more n t) then (s, d, p + more n t, i, 0) else (0, 0, 0, 0, 3)) else (0, 0, 0, 0, 3)) := by
  obtain ⟨k, rfl⟩ : ∃ m, k = m + 1 := ⟨k - 1, by omega⟩
  unfold timesyncref29_Grow.f
  rw [rCheck_tells]
  simp only [Option.bind_some]
  by_cases g : good s d p
  · rw [if_pos g, if_pos rfl]
    have no : timesyncref29_Grow.j0 (k + 1) n t true s d p i = some (0, 0, 0, 0, 3) := by simp [timesyncref29_Grow.j0]
    by_cases h1 : n < 0
    · rw [if_pos h1, no, if_neg (fun z => by omega)]
    · rw [if_neg h1]
      by_cases h2 : n > 9007199254740992
      · rw [if_pos h2, no, if_neg (fun z => by omega)]
      · rw [if_neg h2]
        by_cases h3 : t < 0
        · rw [if_pos h3, no, if_neg (fun z => by omega)]
        · rw [if_neg h3]
          by_cases h4 : t > 500000
          · rw [decide_eq_true h4, no, if_neg (fun z => by omega)]
          · have hc : good s d p ∧ 0 ≤ n ∧ n ≤ 9007199254740992 ∧ 0 ≤ t ∧ t ≤ 500000 := ⟨g, by omega, by omega, by omega, by omega⟩
            rw [decide_eq_false h4, if_pos hc]
            simp only [timesyncref29_Grow.j0]
            have hb := more_bd n t (by omega) (by omega) (by omega) (by omega)
            rw [if_neg (by decide), w64_in (n := -n) (by omega) (by omega), rMulDiv_tells _ _ _ (by omega) (by omega) (by omega) (by omega) (by omega) (by omega) k (by omega), md_in (by omega) (by omega)]
            simp only [Option.bind_some]
            rw [right_tells]
            simp only [Option.bind_some]
            have e : wrap64 (p - -n * t / 1000000000) = p + more n t := by
              obtain ⟨g1, g2, g3, g4, g5, g6⟩ := g
              unfold more at *
              rw [w64_in (by omega) (by omega)]
              omega
            rw [e]
  · rw [if_neg g, if_neg (by decide), if_neg (fun z => g z.1)]
    simp [timesyncref29_Grow.j0]


end Go.Proofs.Ytemkpeomkbgpbaa.Pure
