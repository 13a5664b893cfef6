/- fixed.Sqrt: the greatest number whose square is at most n. -/
import Derived.Test.YtbcmfmlbagjdoaaNum
import Derived.Test.YtbcmfmlbagjdoaaPAllx30
namespace Go.Proofs.Ytbcmfmlbagjdoaa.Sq
open Go Go.RowKit Go.Proofs.Ytbcmfmlbagjdoaa.PAll Go.Proofs.Ytbcmfmlbagjdoaa.Num Go.Proofs.YtbcmfmlbagjdoaaW.PrintWords Go.Proofs.YtbcmfmlbagjdoaaW.PrintMore
set_option linter.unusedVariables false

theorem pow_le32 {i j : Nat} (h : i ≤ j) : (2 : Int) ^ i ≤ 2 ^ j := by exact_mod_cast Nat.pow_le_pow_right (by decide) h
theorem or_pow (x : Int) (j : Nat) (hj : j < 32) (hx0 : 0 ≤ x) (hx : x % 2 ^ (j + 1) = 0) (hx1 : x < 4294967296) : Go.bits .or .u64 x (2 ^ j) = x + 2 ^ j := by
  have hp : (2 : Int) ^ j < 2 ^ (j + 1) := by
    have : (0 : Int) < 2 ^ j := Int.pow_pos (by decide)
    rw [Int.pow_succ]; omega
  have hp2 : (2 : Int) ^ (j + 1) ≤ 2 ^ 32 := pow_le32 (by omega)
  have hp0 : (0 : Int) < 2 ^ j := Int.pow_pos (by decide)
  exact bits_join .u64 64 (by decide) (fun n h0 h1 => u64_in h0 (by simpa using h1)) (j + 1) x (2 ^ j) hx0 hx (by simp; omega) (by omega) hp (by simp; omega)

theorem shl_one (j : Nat) (hj : j < 32) : shl .u64 1 (j : Int) = 2 ^ j := by
  have hp2 : (2 : Int) ^ j ≤ 2 ^ 32 := pow_le32 (by omega)
  have hp0 : (0 : Int) < 2 ^ j := Int.pow_pos (by decide)
  unfold shl
  have e : min (j : Int).toNat IntKind.u64.bits = j := by
    show min (j : Int).toNat 64 = j
    omega
  rw [e, Int.one_mul, u64w]
  exact Int.emod_eq_of_lt (by omega) (by omega)

/-- the greatest number whose square is at most n -/
def root (n r : Int) : Prop := 0 ≤ r ∧ r * r ≤ n ∧ n < (r + 1) * (r + 1)
theorem root_one {n r s : Int} (h : root n r) (k : root n s) : r = s := by
  obtain ⟨a0, a1, a2⟩ := h
  obtain ⟨b0, b1, b2⟩ := k
  rcases Int.lt_trichotomy r s with h | h | h
  · have : (r + 1) * (r + 1) ≤ s * s := Int.mul_le_mul (by omega) (by omega) (by omega) (by omega)
    omega
  · exact h
  · have : (s + 1) * (s + 1) ≤ r * r := Int.mul_le_mul (by omega) (by omega) (by omega) (by omega)
    omega

theorem l0_tells (n : Int) (h0 : 0 ≤ n) (h1 : n < 9223372036854775808) : ∀ (j : Nat) (k : Nat) (x i : Int), j ≤ 32 → i = 32 - (j : Int) → 0 ≤ x → x % 2 ^ j = 0 → x < 4294967296 → x * x ≤ n → n < (x + 2 ^ j) * (x + 2 ^ j) → j + 1 ≤ k →
    ∃ r, fixed_Sqrt.l0 k n x i = some (r, true) ∧ root n r := by
  intro j
  induction j with
  | zero =>
    intro k x i _ hi hx0 _ hx1 hxx hn hk
    obtain ⟨k, rfl⟩ : ∃ m, k = m + 1 := ⟨k - 1, by omega⟩
    simp only [fixed_Sqrt.l0]
    rw [if_neg (by omega), w64_in (by omega) (by omega)]
    exact ⟨x, rfl, hx0, hxx, by simpa using hn⟩
  | succ j ih =>
    intro k x i hj hi hx0 hxm hx1 hxx hn hk
    obtain ⟨k, rfl⟩ : ∃ m, k = m + 1 := ⟨k - 1, by omega⟩
    have hp0 : (0 : Int) < 2 ^ j := Int.pow_pos (by decide)
    have hps : (2 : Int) ^ (j + 1) = 2 ^ j * 2 := Int.pow_succ _ _
    have hpm : (2 : Int) ^ (j + 1) ≤ 2 ^ 32 := pow_le32 (by omega)
    have ei : wrap64 (31 - i) = (j : Int) := by rw [w64_in (by omega) (by omega)]; omega
    have en : wrap64 (i + 1) = 32 - (j : Int) := by rw [w64_in (by omega) (by omega)]; omega
    have eo := or_pow x j (by omega) hx0 hxm hx1
    have hdm : 2 ^ (j + 1) * (x / 2 ^ (j + 1)) + x % 2 ^ (j + 1) = x := Int.mul_ediv_add_emod x _
    have hxb : x + 2 ^ j < 4294967296 := by
      have hd : (4294967296 : Int) = 2 ^ (j + 1) * 2 ^ (31 - j) := by
        rw [← Int.pow_add]
        have : j + 1 + (31 - j) = 32 := by omega
        rw [this]; rfl
      have h2 : x / 2 ^ (j + 1) < 2 ^ (31 - j) := by
        apply Int.lt_of_mul_lt_mul_left (a := 2 ^ (j + 1)) _ (by omega)
        omega
      have h3 : 2 ^ (j + 1) * (x / 2 ^ (j + 1) + 1) ≤ 2 ^ (j + 1) * 2 ^ (31 - j) := Int.mul_le_mul_of_nonneg_left (by omega) (by omega)
      rw [Int.mul_add] at h3
      omega
    have hsq := mul_bd (x := x + 2 ^ j) (y := x + 2 ^ j) (m := 4294967295) (n := 4294967295) (by omega) (by omega) (by omega) (by omega)
    simp only [fixed_Sqrt.l0]
    rw [if_pos (by omega), ei, if_pos (by omega), shl_one j (by omega), eo, u64_in hsq.1 (by omega), u64_in h0 (by omega), en]
    by_cases hc : (x + 2 ^ j) * (x + 2 ^ j) ≤ n
    · rw [if_pos hc]
      refine ih k (x + 2 ^ j) _ (by omega) rfl (by omega) ?_ hxb hc ?_ (by omega)
      · have : x % 2 ^ j = 0 := by
          rw [← hdm, hxm, Int.add_zero, hps, Int.mul_assoc]
          exact Int.mul_emod_right _ _
        rw [Int.add_emod_right]
        exact this
      · have : x + 2 ^ j + 2 ^ j = x + 2 ^ (j + 1) := by omega
        rw [this]; exact hn
    · rw [if_neg hc]
      refine ih k x _ (by omega) rfl hx0 ?_ hx1 hxx (by omega) (by omega)
      rw [← hdm, hxm, Int.add_zero, hps, Int.mul_assoc]
      exact Int.mul_emod_right _ _
theorem Sqrt_tells (n : Int) (h0 : 0 ≤ n) (h1 : n < 9223372036854775808) (k : Nat) (hk : 33 ≤ k) : ∃ r, fixed_Sqrt.f k n = some (r, true) ∧ root n r := by
  unfold fixed_Sqrt.f
  rw [if_neg (by omega)]
  exact l0_tells n h0 h1 32 k 0 0 (by omega) (by omega) (by omega) (by decide) (by omega) (by omega) (by simp; omega) (by omega)
/-- a root that is wanted as a number -/
theorem root_pick (n : Int) (h0 : 0 ≤ n) (h1 : n < 9223372036854775808) : ∃ r, root n r := by
  obtain ⟨r, _, h⟩ := Sqrt_tells n h0 h1 33 (by omega)
  exact ⟨r, h⟩
end Go.Proofs.Ytbcmfmlbagjdoaa.Sq
