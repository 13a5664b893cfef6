/- The reference's MulDiv, as the printed functions tell it: for a divisor above 0 the quotient rounded down, where it is an int. -/
import Derived.Test.YtimcdiombljajaaMulCommon
import Derived.Test.YtimcdiombljajaaPAllx20
namespace Go.Proofs.Ytimcdiombljajaa.PureDiv
open Go Go.RowKit Go.Proofs.Ytimcdiombljajaa.PAll Go.Proofs.Ytimcdiombljajaa.Num Go.Proofs.YtimcdiombljajaaW.PrintWords Go.Proofs.YtimcdiombljajaaW.PrintMore
set_option linter.unusedVariables false

theorem rsize_tells (a : Int) (h0 : -9223372036854775808 ≤ a) (h1 : a ≤ 9223372036854775807) : timesyncref01_size.f a = some (mag a) := by
  unfold timesyncref01_size.f mag
  by_cases h : a < 0
  · rw [if_pos h, if_pos h]
    simp only [u64w, wrap64]
    congr 1
    omega
  · rw [if_neg h, if_neg h, u64_in (by omega) (by omega)]

/-! ### the reference -/

theorem product_tells (a b : Int) (ha0 : 0 ≤ a) (ha1 : a < 18446744073709551616) (hb0 : 0 ≤ b) (hb1 : b < 18446744073709551616) :
    timesyncref01_product.f a b = some (a * b / 18446744073709551616, a * b % 18446744073709551616) := by
  have hh := halves ha0 ha1 hb0 hb1
  have hA : 0 ≤ a / 4294967296 ∧ a / 4294967296 ≤ 4294967295 := by omega
  have hB : 0 ≤ b / 4294967296 ∧ b / 4294967296 ≤ 4294967295 := by omega
  have hC : 0 ≤ a % 4294967296 ∧ a % 4294967296 ≤ 4294967295 := by omega
  have hD : 0 ≤ b % 4294967296 ∧ b % 4294967296 ≤ 4294967295 := by omega
  unfold timesyncref01_product.f
  rw [tdiv_pos ha0, tdiv_pos hb0, tmod_pos ha0, tmod_pos hb0]
  generalize a / 4294967296 = A at *
  generalize b / 4294967296 = B at *
  generalize a % 4294967296 = C at *
  generalize b % 4294967296 = D at *
  rw [u64_in (n := A) (by omega) (by omega), u64_in (n := B) (by omega) (by omega)]
  have pAB := mul_bd hA.1 hA.2 hB.1 hB.2
  have pAD := mul_bd hA.1 hA.2 hD.1 hD.2
  have pCB := mul_bd hC.1 hC.2 hB.1 hB.2
  have pCD := mul_bd hC.1 hC.2 hD.1 hD.2
  rw [hh]
  generalize A * B = p at *
  generalize A * D = q at *
  generalize C * B = r at *
  generalize C * D = s at *
  rw [u64_in (n := p) (by omega) (by omega), u64_in (n := q) (by omega) (by omega), u64_in (n := r) (by omega) (by omega), u64_in (n := s) (by omega) (by omega)]
  rw [tdiv_pos (a := s) (by omega), tmod_pos (a := s) (by omega), u64_in (n := s / 4294967296) (by omega) (by omega)]
  rw [u64_in (n := q + s / 4294967296) (by omega) (by omega), tdiv_pos (a := q + s / 4294967296) (by omega), tmod_pos (a := q + s / 4294967296) (by omega)]
  generalize hm : q + s / 4294967296 = m
  rw [u64_in (n := m / 4294967296) (by omega) (by omega), u64_in (n := r + m % 4294967296) (by omega) (by omega), tdiv_pos (a := r + m % 4294967296) (by omega), tmod_pos (a := r + m % 4294967296) (by omega)]
  generalize ht : r + m % 4294967296 = t
  rw [u64_in (n := t / 4294967296) (by omega) (by omega), u64_in (n := p + m / 4294967296) (by omega) (by omega), u64_in (n := t % 4294967296 * 4294967296) (by omega) (by omega)]
  rw [u64_in (n := p + m / 4294967296 + t / 4294967296) (by omega) (by omega), u64_in (by omega) (by omega)]
  congr 2 <;> omega

/-- The bits that are left: d rounds. -/
theorem divide_tells (c : Int) (hc0 : 0 < c) (hc1 : c < 18446744073709551616) (d : Nat) : ∀ (k : Nat) (x0 x1 x9 x10 r D E : Int), d ≤ 128 →
    0 ≤ x0 → x0 < 18446744073709551616 → 0 ≤ x1 → x1 < 18446744073709551616 → 0 ≤ x9 → x9 < 18446744073709551616 → 0 ≤ x10 → x10 < 18446744073709551616 →
    x0 * 18446744073709551616 + x1 = D * E → E * 2 ^ d = 340282366920938463463374607431768211456 → 0 < E → 0 ≤ D → D < 2 ^ d → 0 ≤ r → r < c → (x9 * 18446744073709551616 + x10) < E → d < k →
    timesyncref01_divide.l0 k x0 x1 c x9 x10 r (128 - (d : Int)) =
      some (((x9 * 18446744073709551616 + x10) * 2 ^ d + (r * 2 ^ d + D) / c) / 18446744073709551616, ((x9 * 18446744073709551616 + x10) * 2 ^ d + (r * 2 ^ d + D) / c) % 18446744073709551616, (r * 2 ^ d + D) % c) := by
  induction d with
  | zero =>
    intro k x0 x1 x9 x10 r D E hd h1 h2 h3 h4 h5 h6 h7 h8 hM hE hE0 hD0 hD1 hr0 hr1 hQ hk
    obtain ⟨k, rfl⟩ : ∃ m, k = m + 1 := ⟨k - 1, by omega⟩
    have hD : D = 0 := by have : D < 1 := by simpa using hD1
                          omega
    subst hD
    simp only [timesyncref01_divide.l0]
    rw [if_neg (by omega)]
    simp only [Int.pow_zero, Int.mul_one, Int.add_zero]
    rw [Int.ediv_eq_zero_of_lt hr0 hr1, Int.emod_eq_of_lt hr0 hr1]
    congr 2
    · omega
    · congr 1; omega
  | succ d ih =>
    intro k x0 x1 x9 x10 r D E hd h1 h2 h3 h4 h5 h6 h7 h8 hM hE hE0 hD0 hD1 hr0 hr1 hQ hk
    obtain ⟨k, rfl⟩ : ∃ m, k = m + 1 := ⟨k - 1, by omega⟩
    have hpow : (2 : Int) ^ (d + 1) = 2 ^ d * 2 := Int.pow_succ _ _
    have hP0 : 0 < (2 : Int) ^ d := by have := Nat.two_pow_pos d; have e : ((2 ^ d : Nat) : Int) = 2 ^ d := by simp
                                       omega
    have hcount : wrap64 (128 - ((d + 1 : Nat) : Int) + 1) = 128 - (d : Int) := by rw [w64_in (by omega) (by omega)]; omega
    rw [hpow] at hE hD1 ⊢
    generalize (2 : Int) ^ d = P at *
    -- the bit that is next
    obtain ⟨b, D', hb, hD'0, hD'1, hDD⟩ : ∃ b D' : Int, (b = 0 ∨ b = 1) ∧ 0 ≤ D' ∧ D' < P ∧ D = b * P + D' := by
      by_cases h : D < P
      · exact ⟨0, D, .inl rfl, hD0, h, by omega⟩
      · exact ⟨1, D - P, .inr rfl, by omega, by omega, by omega⟩
    have hPE : P * E = 170141183460469231731687303715884105728 := by
      have : E * (P * 2) = (P * E) * 2 := by rw [← Int.mul_assoc, Int.mul_comm E P]
      omega
    have hDE : D' * E < 170141183460469231731687303715884105728 := by rw [← hPE]; exact Int.mul_lt_mul_of_pos_right hD'1 hE0
    have hDE0 : 0 ≤ D' * E := Int.mul_nonneg hD'0 (by omega)
    have hM2 : x0 * 18446744073709551616 + x1 = b * 170141183460469231731687303715884105728 + D' * E := by
      rw [hM, hDD, Int.add_mul, Int.mul_assoc, hPE]
    have hb2 : b = x0 / 9223372036854775808 := by
      rcases hb with rfl | rfl <;> omega
    have hcount2 : (128 - ((d + 1 : Nat) : Int)) < 128 := by omega
    simp only [timesyncref01_divide.l0]
    rw [if_pos hcount2, hcount]
    have o1 : bits .or .u64 (IntKind.u64.wrap (x0 * 2)) (x1 / 9223372036854775808) = IntKind.u64.wrap (x0 * 2) + x1 / 9223372036854775808 := by
      rw [u64w]; exact or_bit (by omega) (by omega) (by omega) (by omega) (by omega)
    have o2 : bits .or .u64 (IntKind.u64.wrap (x9 * 2)) (x10 / 9223372036854775808) = IntKind.u64.wrap (x9 * 2) + x10 / 9223372036854775808 := by
      rw [u64w]; exact or_bit (by omega) (by omega) (by omega) (by omega) (by omega)
    have o3 : bits .or .u64 (IntKind.u64.wrap (x10 * 2)) 1 = IntKind.u64.wrap (x10 * 2) + 1 := by
      rw [u64w]; exact or_bit (by omega) (by omega) (by omega) (by omega) (by omega)
    have o4 : bits .or .u64 (IntKind.u64.wrap (r * 2)) (x0 / 9223372036854775808) = IntKind.u64.wrap (r * 2) + b := by
      rw [u64w, hb2]; exact or_bit (by omega) (by omega) (by omega) (by omega) (by omega)
    rw [o1, o2, o3, o4]
    simp only [u64w]
    have hE2 : E * 2 * P = 340282366920938463463374607431768211456 := by rw [Int.mul_assoc, Int.mul_comm 2 P]; exact hE
    -- the dividend's words behind the shift
    have hMn : (x0 * 2 % 18446744073709551616 + x1 / 9223372036854775808) * 18446744073709551616 + x1 * 2 % 18446744073709551616 = D' * (E * 2) := by
      have : D' * (E * 2) = D' * E * 2 := by rw [Int.mul_assoc]
      rw [this]
      rcases hb with rfl | rfl <;> omega
    have hEhi : E ≤ 170141183460469231731687303715884105728 := by
      have := Int.mul_le_mul_of_nonneg_right (show 1 ≤ P by omega) (show 0 ≤ E by omega)
      omega
    by_cases hge : c ≤ 2 * r + b
    · -- it goes in
      have hQn : (x9 * 2 % 18446744073709551616 + x10 / 9223372036854775808) * 18446744073709551616 + (x10 * 2 % 18446744073709551616 + 1) = (x9 * 18446744073709551616 + x10) * 2 + 1 := by omega
      have hrn : (r * 2 % 18446744073709551616 + b - c) % 18446744073709551616 = 2 * r + b - c := by rcases hb with rfl | rfl <;> omega
      have step := ih k (x0 * 2 % 18446744073709551616 + x1 / 9223372036854775808) (x1 * 2 % 18446744073709551616) (x9 * 2 % 18446744073709551616 + x10 / 9223372036854775808) (x10 * 2 % 18446744073709551616 + 1) (2 * r + b - c) D' (E * 2)
        (by omega) (by omega) (by omega) (by omega) (by omega) (by omega) (by omega) (by omega) (by omega) hMn hE2 (by omega) hD'0 hD'1 (by omega) (by rcases hb with rfl | rfl <;> omega) (by rw [hQn]; omega) (by omega)
      rw [hQn] at step
      have eN : r * (P * 2) + D = (2 * r + b - c) * P + D' + c * P := by
        rw [hDD, Int.sub_mul, Int.add_mul, ← Int.mul_assoc, Int.mul_comm (r * P) 2, Int.mul_assoc 2 r P]; omega
      have eQ : ((x9 * 18446744073709551616 + x10) * 2 + 1) * P + ((2 * r + b - c) * P + D') / c = (x9 * 18446744073709551616 + x10) * (P * 2) + (r * (P * 2) + D) / c := by
        rw [eN, Int.add_mul_ediv_left _ _ (by omega), Int.add_mul, Int.mul_assoc, Int.mul_comm 2 P]; omega
      have eR : ((2 * r + b - c) * P + D') % c = (r * (P * 2) + D) % c := by rw [eN, Int.add_mul_emod_self_left]
      rw [eQ, eR] at step
      by_cases htop : r / 9223372036854775808 = 1
      · rw [if_pos htop, hrn]; exact step
      · rw [if_neg htop, if_pos (by rcases hb with rfl | rfl <;> omega), hrn]; exact step
    · have hQn : (x9 * 2 % 18446744073709551616 + x10 / 9223372036854775808) * 18446744073709551616 + x10 * 2 % 18446744073709551616 = (x9 * 18446744073709551616 + x10) * 2 := by omega
      have hrn : r * 2 % 18446744073709551616 + b = 2 * r + b := by rcases hb with rfl | rfl <;> omega
      have step := ih k (x0 * 2 % 18446744073709551616 + x1 / 9223372036854775808) (x1 * 2 % 18446744073709551616) (x9 * 2 % 18446744073709551616 + x10 / 9223372036854775808) (x10 * 2 % 18446744073709551616) (2 * r + b) D' (E * 2)
        (by omega) (by omega) (by omega) (by omega) (by omega) (by omega) (by omega) (by omega) (by omega) hMn hE2 (by omega) hD'0 hD'1 (by rcases hb with rfl | rfl <;> omega) (by omega) (by rw [hQn]; omega) (by omega)
      rw [hQn] at step
      have eN : r * (P * 2) + D = (2 * r + b) * P + D' := by
        rw [hDD, Int.add_mul, ← Int.mul_assoc, Int.mul_comm (r * P) 2, Int.mul_assoc 2 r P]; omega
      have eQ : ((x9 * 18446744073709551616 + x10) * 2) * P + ((2 * r + b) * P + D') / c = (x9 * 18446744073709551616 + x10) * (P * 2) + (r * (P * 2) + D) / c := by
        rw [eN, Int.mul_assoc, Int.mul_comm 2 P]
      rw [eQ, ← eN] at step
      rw [if_neg (by rcases hb with rfl | rfl <;> omega), if_neg (by rcases hb with rfl | rfl <;> omega), hrn]
      exact step

theorem divide_whole (hi lo c : Int) (h1 : 0 ≤ hi) (h2 : hi < 18446744073709551616) (h3 : 0 ≤ lo) (h4 : lo < 18446744073709551616) (hc0 : 0 < c) (hc1 : c < 18446744073709551616) (k : Nat) (hk : 128 < k) :
    timesyncref01_divide.f k hi lo c = some ((hi * 18446744073709551616 + lo) / c / 18446744073709551616, (hi * 18446744073709551616 + lo) / c % 18446744073709551616, (hi * 18446744073709551616 + lo) % c) := by
  have h := divide_tells c hc0 hc1 128 k hi lo 0 0 0 (hi * 18446744073709551616 + lo) 1 (by omega) h1 h2 h3 h4 (by omega) (by omega) (by omega) (by omega) (by omega) (by decide) (by omega) (by omega) (by
    have e : (2 : Int) ^ 128 = 340282366920938463463374607431768211456 := by decide
    omega) (by omega) hc0 (by omega) hk
  have e0 : (128 : Int) - ((128 : Nat) : Int) = 0 := by decide
  rw [e0] at h
  unfold timesyncref01_divide.f
  simpa using h

theorem rsigned_neg (h l : Int) (k : Nat) (hk : 2 ≤ k) (h0 : 0 ≤ h) (l0 : 0 ≤ l) (l1 : l < 18446744073709551616) :
    timesyncref01_signed.f k true h l = if -9223372036854775808 ≤ -(h * 18446744073709551616 + l) ∧ -(h * 18446744073709551616 + l) < 9223372036854775808 then some (-(h * 18446744073709551616 + l), true) else some (0, false) := by
  obtain ⟨k, rfl⟩ : ∃ m, k = m + 1 := ⟨k - 1, by omega⟩
  unfold timesyncref01_signed.f
  by_cases hh : h > 0
  · rw [if_pos hh, if_neg (by omega)]; simp [timesyncref01_signed.j0]
  · rw [if_neg hh]
    have : h = 0 := by omega
    subst this
    by_cases hl : l > 9223372036854775808
    · rw [if_pos hl, if_neg (by omega)]; simp [timesyncref01_signed.j0]
    · rw [if_neg hl]
      have main : timesyncref01_signed.j0 (k + 1) true l false = some (-(0 * 18446744073709551616 + l), true) := by
        simp only [timesyncref01_signed.j0]
        rw [if_neg (by decide), if_pos trivial]
        by_cases hz : l = 0
        · rw [if_pos hz, hz]; rfl
        · rw [if_neg hz]
          simp only [u64w, wrap64]
          congr 2
          omega
      by_cases he : l = 9223372036854775808
      · rw [if_pos he, if_pos (by omega)]; exact main
      · rw [if_neg he, if_pos (by omega)]; exact main
theorem rsigned_pos (h l : Int) (k : Nat) (hk : 2 ≤ k) (h0 : 0 ≤ h) (l0 : 0 ≤ l) (l1 : l < 18446744073709551616) :
    timesyncref01_signed.f k false h l = if -9223372036854775808 ≤ h * 18446744073709551616 + l ∧ h * 18446744073709551616 + l < 9223372036854775808 then some (h * 18446744073709551616 + l, true) else some (0, false) := by
  obtain ⟨k, rfl⟩ : ∃ m, k = m + 1 := ⟨k - 1, by omega⟩
  unfold timesyncref01_signed.f
  by_cases hh : h > 0
  · rw [if_pos hh, if_neg (by omega)]; simp [timesyncref01_signed.j0]
  · rw [if_neg hh]
    have : h = 0 := by omega
    subst this
    by_cases hl : l > 9223372036854775808
    · rw [if_pos hl, if_neg (by omega)]; simp [timesyncref01_signed.j0]
    · rw [if_neg hl]
      by_cases he : l = 9223372036854775808
      · rw [if_pos he, if_neg (by omega)]; simp [timesyncref01_signed.j0]
      · rw [if_neg he, if_pos (by omega)]
        simp only [timesyncref01_signed.j0]
        rw [if_neg (by decide), if_neg (by decide), w64_in (by omega) (by omega)]
        congr 2
        omega

theorem rMulDiv_tells (a b c : Int) (ha0 : -9223372036854775808 ≤ a) (ha1 : a ≤ 9223372036854775807) (hb0 : -9223372036854775808 ≤ b) (hb1 : b ≤ 9223372036854775807) (hc0 : 0 < c) (hc1 : c ≤ 9223372036854775807) (k : Nat) (hk : 130 ≤ k) :
    timesyncref01_MulDiv.f k a b c = some (md a b c) := by
  have hma := mag_bd ha0 ha1
  have hmb := mag_bd hb0 hb1
  have hmc : mag c = c := by unfold mag; rw [if_neg (by omega)]
  have hp0 : 0 ≤ mag a * mag b := Int.mul_nonneg hma.1 hmb.1
  have hp1 : mag a * mag b ≤ 9223372036854775808 * 9223372036854775808 := (mul_bd hma.1 hma.2 hmb.1 hmb.2).2
  unfold timesyncref01_MulDiv.f
  rw [if_neg (by omega), rsize_tells a ha0 ha1, rsize_tells b hb0 hb1, rsize_tells c (by omega) hc1, hmc]
  simp only [Option.bind_some]
  rw [product_tells _ _ hma.1 (by omega) hmb.1 (by omega)]
  simp only [Option.bind_some]
  have hsplit : mag a * mag b / 18446744073709551616 * 18446744073709551616 + mag a * mag b % 18446744073709551616 = mag a * mag b := by omega
  rw [divide_whole _ _ _ (by omega) (by omega) (by omega) (by omega) hc0 (by omega) k (by omega), hsplit]
  have hprod := mul_mag a b
  have hnd := neg_div hc0 hp0
  have hq0 : 0 ≤ mag a * mag b / c := Int.ediv_nonneg hp0 (by omega)
  have hq1 : mag a * mag b / c ≤ mag a * mag b := Int.ediv_le_self _ hp0
  have hr0 := Int.emod_nonneg (mag a * mag b) (show c ≠ 0 by omega)
  generalize hP : mag a * mag b = p at *
  generalize hQ : p / c = q at *
  generalize hR : p % c = r at *
  simp only [Option.bind_some, bind_pair]
  have hqs : q / 18446744073709551616 * 18446744073709551616 + q % 18446744073709551616 = q := by omega
  have neg : (if r > 0 then (if IntKind.u64.wrap (q % 18446744073709551616 + 1) = 0 then timesyncref01_signed.f k true (IntKind.u64.wrap (q / 18446744073709551616 + 1)) (IntKind.u64.wrap (q % 18446744073709551616 + 1)) else timesyncref01_signed.f k true (q / 18446744073709551616) (IntKind.u64.wrap (q % 18446744073709551616 + 1))) else timesyncref01_signed.f k true (q / 18446744073709551616) (q % 18446744073709551616)) =
      if -9223372036854775808 ≤ -p / c ∧ -p / c < 9223372036854775808 then some (-p / c, true) else some (0, false) := by
    by_cases hz : r = 0
    · rw [if_neg (by omega), rsigned_neg _ _ k (by omega) (by omega) (by omega) (by omega), hqs, hnd.1 hz]
    · rw [if_pos (by omega), hnd.2 hz]
      by_cases hw : q % 18446744073709551616 + 1 = 18446744073709551616
      · rw [if_pos (by rw [u64w]; omega), u64_in (n := q / 18446744073709551616 + 1) (by omega) (by omega), rsigned_neg _ _ k (by omega) (by omega) (by rw [u64w]; omega) (by rw [u64w]; omega)]
        have e : -((q / 18446744073709551616 + 1) * 18446744073709551616 + IntKind.u64.wrap (q % 18446744073709551616 + 1)) = -q - 1 := by rw [u64w]; omega
        rw [e]
      · rw [if_neg (by rw [u64w]; omega), u64_in (n := q % 18446744073709551616 + 1) (by omega) (by omega), rsigned_neg _ _ k (by omega) (by omega) (by omega) (by omega)]
        have e : -(q / 18446744073709551616 * 18446744073709551616 + (q % 18446744073709551616 + 1)) = -q - 1 := by omega
        rw [e]
  have pos : timesyncref01_signed.f k false (q / 18446744073709551616) (q % 18446744073709551616) = if -9223372036854775808 ≤ p / c ∧ p / c < 9223372036854775808 then some (p / c, true) else some (0, false) := by
    rw [rsigned_pos _ _ k (by omega) (by omega) (by omega) (by omega), hqs, hQ]
  have hmd : some (md a b c) = if (a < 0) = (b < 0) then (if -9223372036854775808 ≤ p / c ∧ p / c < 9223372036854775808 then some (p / c, true) else some (0, false)) else if -9223372036854775808 ≤ -p / c ∧ -p / c < 9223372036854775808 then some (-p / c, true) else some (0, false) := by
    unfold md
    rw [hprod]
    split <;> split <;> rfl
  rw [hmd, ← neg, ← pos]
  by_cases ha : a < 0 <;> by_cases hb : b < 0 <;> simp [ha, hb, show ¬ c < 0 by omega]

end Go.Proofs.Ytimcdiombljajaa.PureDiv
