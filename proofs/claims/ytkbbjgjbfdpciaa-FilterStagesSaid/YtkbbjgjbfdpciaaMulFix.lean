/- fixed.MulDiv, as the printed functions tell it: for a divisor above 0 the quotient rounded down, where it is an int. -/
import Derived.Test.YtkbbjgjbfdpciaaMulCommon
import Derived.Test.YtkbbjgjbfdpciaaDiv64
import Derived.Test.YtkbbjgjbfdpciaaPAllx15
namespace Go.Proofs.Ytkbbjgjbfdpciaa.PureDiv
open Go Go.RowKit Go.Proofs.Ytkbbjgjbfdpciaa.PAll Go.Proofs.Ytkbbjgjbfdpciaa.Num Go.Proofs.YtkbbjgjbfdpciaaW.PrintWords Go.Proofs.YtkbbjgjbfdpciaaW.PrintMore
set_option linter.unusedVariables false

theorem size_tells (a : Int) (h0 : -9223372036854775808 ≤ a) (h1 : a ≤ 9223372036854775807) : fixed_size.f a = some (mag a) := by
  unfold fixed_size.f mag
  by_cases h : a < 0
  · rw [if_pos h, if_pos h]
    simp only [u64w]
    congr 1
    omega
  · rw [if_neg h, if_neg h, u64_in (by omega) (by omega)]

theorem signed_neg (q : Int) (h0 : 0 ≤ q) (h1 : q < 18446744073709551616) : fixed_signed.f q true = if -9223372036854775808 ≤ -q ∧ -q < 9223372036854775808 then some (-q, true) else some (0, false) := by
  unfold fixed_signed.f
  rw [if_pos rfl]
  by_cases h : q > 9223372036854775808
  · rw [if_pos h, if_neg (by omega)]
  · rw [if_neg h, if_pos (by omega)]
    simp only [u64w, wrap64]
    congr 2
    omega
theorem signed_pos (q : Int) (h0 : 0 ≤ q) (h1 : q < 18446744073709551616) : fixed_signed.f q false = if -9223372036854775808 ≤ q ∧ q < 9223372036854775808 then some (q, true) else some (0, false) := by
  unfold fixed_signed.f
  rw [if_neg (by decide)]
  by_cases h : q ≥ 9223372036854775808
  · rw [if_pos h, if_neg (by omega)]
  · rw [if_neg h, if_pos (by omega), w64_in (by omega) (by omega)]

theorem MulDiv_tells (a b c : Int) (ha0 : -9223372036854775808 ≤ a) (ha1 : a ≤ 9223372036854775807) (hb0 : -9223372036854775808 ≤ b) (hb1 : b ≤ 9223372036854775807) (hc0 : 0 < c) (hc1 : c ≤ 9223372036854775807) (k : Nat) (hk : 20 ≤ k) :
    fixed_MulDiv.f k a b c = some (md a b c) := by
  have hma := mag_bd ha0 ha1
  have hmb := mag_bd hb0 hb1
  have hmc : mag c = c := by unfold mag; rw [if_neg (by omega)]
  unfold fixed_MulDiv.f
  rw [size_tells a ha0 ha1, size_tells b hb0 hb1, size_tells c (by omega) hc1, hmc]
  simp only [Option.bind_some]
  unfold bits_Mul64.f
  rw [if_pos ⟨hma.1, by omega, hmb.1, by omega⟩]
  simp only [Option.bind_some]
  have hp0 : 0 ≤ mag a * mag b := Int.mul_nonneg hma.1 hmb.1
  have hsplit : mag a * mag b / 18446744073709551616 * 18446744073709551616 + mag a * mag b % 18446744073709551616 = mag a * mag b := by omega
  have hprod := mul_mag a b
  have hnd := neg_div hc0 hp0
  have e := Int.mul_ediv_add_emod (mag a * mag b) c
  have hr0 := Int.emod_nonneg (mag a * mag b) (show c ≠ 0 by omega)
  have hr1 := Int.emod_lt_of_pos (mag a * mag b) hc0
  have hq0 : 0 ≤ mag a * mag b / c := Int.ediv_nonneg hp0 (by omega)
  by_cases hbig : mag a * mag b / 18446744073709551616 ≥ c
  · rw [if_pos hbig]
    unfold md
    have hq : 18446744073709551616 ≤ mag a * mag b / c := by
      refine (Int.le_ediv_iff_mul_le hc0).2 ?_
      omega
    rw [if_neg]
    rw [hprod]
    split
    · omega
    · by_cases hz : mag a * mag b % c = 0
      · rw [hnd.1 hz]; omega
      · rw [hnd.2 hz]; omega
  · rw [if_neg hbig, Div64_tells _ _ _ (by omega) (by omega) (by omega) (by omega) (by omega) k hk, hsplit]
    have hq : mag a * mag b / c < 18446744073709551616 := Int.ediv_lt_of_lt_mul hc0 (by omega)
    generalize hP : mag a * mag b = p at *
    generalize hQ : p / c = q at *
    generalize hR : p % c = r at *
    simp only [Option.bind_some, bind_pair]
    have neg : (if r = 0 then fixed_signed.f q true else if IntKind.u64.wrap (q + 1) = 0 then some (0, false) else fixed_signed.f (IntKind.u64.wrap (q + 1)) true) =
        if -9223372036854775808 ≤ -p / c ∧ -p / c < 9223372036854775808 then some (-p / c, true) else some (0, false) := by
      by_cases hz : r = 0
      · rw [if_pos hz, signed_neg q hq0 hq, hnd.1 hz]
      · rw [if_neg hz, hnd.2 hz]
        by_cases hw : q + 1 = 18446744073709551616
        · rw [if_pos (by rw [u64w]; omega), if_neg (by omega)]
        · rw [if_neg (by rw [u64w]; omega), u64_in (by omega) (by omega), signed_neg _ (by omega) (by omega), show -(q + 1) = -q - 1 by omega]
    have pos : fixed_signed.f q false = if -9223372036854775808 ≤ p / c ∧ p / c < 9223372036854775808 then some (p / c, true) else some (0, false) := by rw [signed_pos q hq0 hq, hQ]
    have hmd : some (md a b c) = if (a < 0) = (b < 0) then (if -9223372036854775808 ≤ p / c ∧ p / c < 9223372036854775808 then some (p / c, true) else some (0, false)) else if -9223372036854775808 ≤ -p / c ∧ -p / c < 9223372036854775808 then some (-p / c, true) else some (0, false) := by
      unfold md
      rw [hprod]
      split <;> split <;> rfl
    rw [hmd, ← neg, ← pos]
    by_cases ha : a < 0 <;> by_cases hb : b < 0 <;> simp [ha, hb, show ¬ c < 0 by omega]


end Go.Proofs.Ytkbbjgjbfdpciaa.PureDiv
