/- Whole numbers of Go's kinds: small facts on wraps, products of two words, and one step of a long division. -/
import Derived.Laws.BitsLemmas
import Derived.Laws.Bits64
import Derived.RowKit
namespace Go.Proofs.Ytfnfmlcngleemaa.Num
open Go Go.RowKit
set_option linter.unusedVariables false

theorem u64w (n : Int) : IntKind.u64.wrap n = n % 18446744073709551616 := IntKind.wrap_u64 n
theorem u32w (n : Int) : IntKind.u32.wrap n = n % 4294967296 := IntKind.wrap_u32 n
theorem u64_in {n : Int} (h0 : 0 ≤ n) (h1 : n < 18446744073709551616) : IntKind.u64.wrap n = n := by rw [u64w]; omega
theorem w64_in {n : Int} (h0 : -9223372036854775808 ≤ n) (h1 : n ≤ 9223372036854775807) : wrap64 n = n := by unfold wrap64; omega
theorem tdiv_pos {a b : Int} (h : 0 ≤ a) : Int.tdiv a b = a / b := Int.tdiv_eq_ediv_of_nonneg h
theorem tmod_pos {a b : Int} (h : 0 ≤ a) : Int.tmod a b = a % b := Int.tmod_eq_emod_of_nonneg h

theorem mul_bd {x y m n : Int} (hx : 0 ≤ x) (hxm : x ≤ m) (hy : 0 ≤ y) (hyn : y ≤ n) : 0 ≤ x * y ∧ x * y ≤ m * n :=
  ⟨Int.mul_nonneg hx hy, Int.mul_le_mul hxm hyn hy (Int.le_trans hx hxm)⟩

/-- A bit joined to an even word. -/
theorem or_bit {x b : Int} (hx0 : 0 ≤ x) (hx : x % 2 = 0) (hx1 : x < 18446744073709551616) (hb0 : 0 ≤ b) (hb1 : b < 2) : bits .or .u64 x b = x + b :=
  bits_join .u64 64 (by decide) (fun n h0 h1 => u64_in h0 (by simpa using h1)) 1 x b hx0 (by simpa using hx) (by simpa using hx1) hb0 (by simpa using hb1) (by simp; omega)
theorem and_low {x : Int} (h0 : 0 ≤ x) (h1 : x < 18446744073709551616) : bits .and .u64 x 4294967295 = x % 4294967296 := by
  have h := bits_mask .u64 64 (by decide) (fun n h0 h1 => u64_in h0 (by simpa using h1)) 32 (by decide) x h0 (by simpa using h1)
  simpa using h

/-- The product of two words in halves. -/
theorem halves {a b : Int} (ha0 : 0 ≤ a) (ha1 : a < 18446744073709551616) (hb0 : 0 ≤ b) (hb1 : b < 18446744073709551616) :
    a * b = (a / 4294967296 * (b / 4294967296)) * 18446744073709551616 + (a / 4294967296 * (b % 4294967296) + a % 4294967296 * (b / 4294967296)) * 4294967296 + a % 4294967296 * (b % 4294967296) := by
  have h1 : a = 4294967296 * (a / 4294967296) + a % 4294967296 := by omega
  have h2 : b = 4294967296 * (b / 4294967296) + b % 4294967296 := by omega
  generalize hA : a / 4294967296 = A at *
  generalize hB : b / 4294967296 = B at *
  generalize hC : a % 4294967296 = C at *
  generalize hD : b % 4294967296 = D at *
  rw [h1, h2]
  simp only [Int.add_mul, Int.mul_add]
  have e1 : 4294967296 * A * (4294967296 * B) = A * B * 18446744073709551616 := by
    rw [Int.mul_assoc, Int.mul_left_comm A, ← Int.mul_assoc, ← Int.mul_assoc]
    rw [Int.mul_assoc, Int.mul_comm _ (A * B)]; rfl
  have e2 : 4294967296 * A * D = A * D * 4294967296 := by rw [Int.mul_assoc, Int.mul_comm]
  have e3 : C * (4294967296 * B) = C * B * 4294967296 := by rw [Int.mul_left_comm, Int.mul_comm]
  rw [e1, e2, e3]
  omega

/-- A quotient and a remainder are known by what they are. -/
theorem div_of {n d q r : Int} (h : n = q * d + r) (h0 : 0 ≤ r) (h1 : r < d) : n / d = q ∧ n % d = r := by
  have hd : 0 < d := by omega
  exact (Int.ediv_emod_unique hd).2 ⟨by rw [h, Int.mul_comm d q]; omega, h0, h1⟩

/-- ONE STEP OF THE LONG DIVISION: what a guess q with its rest r says of the quotient of u * 2^32 + v by y = y1 * 2^32 + y0. -/
structure Guess (y1 y0 u v q r : Int) : Prop where
  y1lo : 2147483648 ≤ y1
  y1hi : y1 < 4294967296
  y0lo : 0 ≤ y0
  y0hi : y0 < 4294967296
  ulo : 0 ≤ u
  uhi : u < y1 * 4294967296 + y0
  vlo : 0 ≤ v
  vhi : v < 4294967296
  qlo : 0 ≤ q
  rlo : 0 ≤ r
  sum : u = q * y1 + r
  more : r * 4294967296 + v - q * y0 < y1 * 4294967296 + y0

theorem Guess.first {y1 y0 u v : Int} (h1 : 2147483648 ≤ y1) (h2 : y1 < 4294967296) (h3 : 0 ≤ y0) (h4 : y0 < 4294967296) (h5 : 0 ≤ u) (h6 : u < y1 * 4294967296 + y0) (h7 : 0 ≤ v) (h8 : v < 4294967296) :
    Guess y1 y0 u v (u / y1) (u % y1) := by
  have hq : 0 ≤ u / y1 := Int.ediv_nonneg h5 (by omega)
  have hr0 : 0 ≤ u % y1 := Int.emod_nonneg _ (by omega)
  have hr1 : u % y1 < y1 := Int.emod_lt_of_pos _ (by omega)
  have hs : u = u / y1 * y1 + u % y1 := by have := Int.mul_ediv_add_emod u y1; rw [Int.mul_comm]; omega
  have hp : 0 ≤ u / y1 * y0 := Int.mul_nonneg hq h3
  exact ⟨h1, h2, h3, h4, h5, h6, h7, h8, hq, hr0, hs, by omega⟩

/-- the whole dividend over the guess -/
theorem Guess.rest {y1 y0 u v q r : Int} (h : Guess y1 y0 u v q r) : u * 4294967296 + v - q * (y1 * 4294967296 + y0) = r * 4294967296 + v - q * y0 := by
  have e : q * (y1 * 4294967296 + y0) = q * y1 * 4294967296 + q * y0 := by rw [Int.mul_add, Int.mul_assoc]
  have := h.sum
  rw [e]
  omega

/-- the test says that the guess is too great -/
theorem Guess.too {y1 y0 u v q r : Int} (h : Guess y1 y0 u v q r) (ht : 4294967296 ≤ q ∨ r * 4294967296 + v < q * y0) : r * 4294967296 + v - q * y0 < 0 := by
  rcases ht with ht | ht
  · rw [← h.rest]
    have h1 : 4294967296 * (y1 * 4294967296 + y0) ≤ q * (y1 * 4294967296 + y0) := Int.mul_le_mul_of_nonneg_right ht (by have := h.y1lo; have := h.y0lo; omega)
    have := h.uhi; have := h.vhi
    omega
  · omega

theorem Guess.pos {y1 y0 u v q r : Int} (h : Guess y1 y0 u v q r) (ht : 4294967296 ≤ q ∨ r * 4294967296 + v < q * y0) : 1 ≤ q := by
  rcases ht with ht | ht
  · omega
  · have := h.qlo; have := h.rlo; have := h.vlo
    by_cases hq : q = 0
    · subst hq; simp at ht; omega
    · omega

theorem Guess.next {y1 y0 u v q r : Int} (h : Guess y1 y0 u v q r) (ht : 4294967296 ≤ q ∨ r * 4294967296 + v < q * y0) : Guess y1 y0 u v (q - 1) (r + y1) := by
  have h1 := h.too ht
  have h2 := h.pos ht
  have e1 : (q - 1) * y1 = q * y1 - y1 := by rw [Int.sub_mul]; omega
  have e0 : (q - 1) * y0 = q * y0 - y0 := by rw [Int.sub_mul]; omega
  exact ⟨h.y1lo, h.y1hi, h.y0lo, h.y0hi, h.ulo, h.uhi, h.vlo, h.vhi, by omega, by have := h.rlo; have := h.y1lo; omega, by have := h.sum; rw [e1]; omega, by rw [e0]; omega⟩

/-- the test says no: the guess is the quotient -/
theorem Guess.done {y1 y0 u v q r : Int} (h : Guess y1 y0 u v q r) (ht : q * y0 ≤ r * 4294967296 + v) :
    (u * 4294967296 + v) / (y1 * 4294967296 + y0) = q ∧ (u * 4294967296 + v) % (y1 * 4294967296 + y0) = r * 4294967296 + v - q * y0 := by
  have hr := h.rest
  have hm := h.more
  exact div_of (by omega) (by omega) hm

/-- the rest has grown beyond a half word: the guess is the quotient -/
theorem Guess.full {y1 y0 u v q r : Int} (h : Guess y1 y0 u v q r) (ht : 4294967296 ≤ r) : q * y0 ≤ r * 4294967296 + v := by
  have hs := h.sum
  have hu := h.uhi
  have := h.y0hi
  have hq : q < 4294967296 := by
    refine Int.lt_of_not_ge fun hq => ?_
    have := Int.mul_le_mul_of_nonneg_right hq (show 0 ≤ y1 by have := h.y1lo; omega)
    omega
  have := mul_bd h.qlo (show q ≤ 4294967295 by omega) h.y0lo (show y0 ≤ 4294967295 by omega)
  have := h.vlo
  omega

/-- The quotient of the step is a half word. -/
theorem step_half {y u v : Int} (hu0 : 0 ≤ u) (hu : u < y) (hv0 : 0 ≤ v) (hv : v < 4294967296) : 0 ≤ (u * 4294967296 + v) / y ∧ (u * 4294967296 + v) / y < 4294967296 :=
  ⟨Int.ediv_nonneg (by omega) (by omega), Int.ediv_lt_of_lt_mul (by omega) (by have := Int.mul_comm 4294967296 y; omega)⟩

/-- two steps of half words make one of a word -/
theorem two_steps {y u v0 v1 : Int} (hy : 0 < y) (hu0 : 0 ≤ u) (_hu : u < y) (h10 : 0 ≤ v1) (_h11 : v1 < 4294967296) (h00 : 0 ≤ v0) (_h01 : v0 < 4294967296) :
    (u * 18446744073709551616 + (v1 * 4294967296 + v0)) / y = (u * 4294967296 + v1) / y * 4294967296 + ((u * 4294967296 + v1) % y * 4294967296 + v0) / y ∧
    (u * 18446744073709551616 + (v1 * 4294967296 + v0)) % y = ((u * 4294967296 + v1) % y * 4294967296 + v0) % y := by
  have e1 := Int.mul_ediv_add_emod (u * 4294967296 + v1) y
  generalize (u * 4294967296 + v1) / y = q1 at *
  have hr0 : 0 ≤ (u * 4294967296 + v1) % y := Int.emod_nonneg _ (by omega)
  generalize (u * 4294967296 + v1) % y = r1 at *
  have e0 := Int.mul_ediv_add_emod (r1 * 4294967296 + v0) y
  have hs0 : 0 ≤ (r1 * 4294967296 + v0) % y := Int.emod_nonneg _ (by omega)
  have hs1 : (r1 * 4294967296 + v0) % y < y := Int.emod_lt_of_pos _ hy
  generalize (r1 * 4294967296 + v0) / y = q0 at *
  generalize (r1 * 4294967296 + v0) % y = r0 at *
  refine div_of ?_ hs0 hs1
  have e3 : (q1 * 4294967296 + q0) * y = y * q1 * 4294967296 + y * q0 := by
    rw [Int.add_mul, Int.mul_comm q0 y, Int.mul_right_comm, Int.mul_comm q1 y]
  rw [e3]
  omega

end Go.Proofs.Ytfnfmlcngleemaa.Num
