/- What both MulDiv functions come to: the product over the divisor, rounded down, where that is an int. -/
import Derived.Test.YtkbbjgjbfdpciaaNum
namespace Go.Proofs.Ytkbbjgjbfdpciaa.PureDiv
open Go Go.RowKit Go.Proofs.Ytkbbjgjbfdpciaa.Num
set_option linter.unusedVariables false

/-- a * b / c rounded down, where that is an int -/
def md (a b c : Int) : Int × Bool := if -9223372036854775808 ≤ a * b / c ∧ a * b / c < 9223372036854775808 then (a * b / c, true) else (0, false)

theorem md_in {a b c : Int} (h0 : -9223372036854775808 ≤ a * b / c) (h1 : a * b / c < 9223372036854775808) : md a b c = (a * b / c, true) := if_pos ⟨h0, h1⟩

def mag (a : Int) : Int := if a < 0 then -a else a
theorem mag_bd {a : Int} (h0 : -9223372036854775808 ≤ a) (h1 : a ≤ 9223372036854775807) : 0 ≤ mag a ∧ mag a ≤ 9223372036854775808 := by unfold mag; split <;> omega

/-- the sign of a product -/
theorem mul_mag (a b : Int) : a * b = if (a < 0) = (b < 0) then mag a * mag b else -(mag a * mag b) := by
  unfold mag
  by_cases ha : a < 0 <;> by_cases hb : b < 0 <;> simp [ha, hb, Int.neg_mul, Int.mul_neg]

theorem neg_div {p c : Int} (hc : 0 < c) (hp : 0 ≤ p) : (p % c = 0 → -p / c = -(p / c)) ∧ (p % c ≠ 0 → -p / c = -(p / c) - 1) := by
  have e := Int.mul_ediv_add_emod p c
  have h0 := Int.emod_nonneg p (show c ≠ 0 by omega)
  have h1 := Int.emod_lt_of_pos p hc
  generalize p / c = q at *
  generalize p % c = r at *
  refine ⟨fun hr => ?_, fun hr => ?_⟩
  · refine (div_of (r := 0) ?_ (by omega) hc).1
    rw [Int.neg_mul, Int.mul_comm]
    omega
  · refine (div_of (r := c - r) ?_ (by omega) (by omega)).1
    rw [Int.sub_mul, Int.neg_mul, Int.mul_comm]
    omega

theorem bind_pair (o : Option (Int × Bool)) : (o.bind fun bt => some (bt.1, bt.2)) = o := by cases o <;> rfl


end Go.Proofs.Ytkbbjgjbfdpciaa.PureDiv
