/- What math/bits.Div64 computes, as the printed functions tell it: the quotient and the remainder of two words by one. -/
import Derived.Test.YtbcmfmlbagjdoaaNum
import Derived.Test.YtbcmfmlbagjdoaaPAllx29
import Derived.Lib.ItoaNum
namespace Go.Proofs.Ytbcmfmlbagjdoaa.PureDiv
open Go Go.RowKit Go.Proofs.Ytbcmfmlbagjdoaa.PAll Go.Proofs.Ytbcmfmlbagjdoaa.Num Go.Proofs.YtbcmfmlbagjdoaaW.PrintWords Go.Proofs.YtbcmfmlbagjdoaaW.PrintMore
set_option linter.unusedVariables false

theorem shl_u64 {x s : Int} (h0 : 0 ≤ s) (h1 : s ≤ 64) : shl .u64 x s = (x * 2 ^ s.toNat) % 18446744073709551616 := by
  unfold shl
  have e : min s.toNat IntKind.u64.bits = s.toNat := by simp [IntKind.bits]; omega
  rw [e, u64w]
theorem shr_u64 {x s : Int} (h0 : 0 ≤ s) (h1 : s ≤ 64) : shr .u64 x s = x / 2 ^ s.toNat := by
  unfold shr
  have e : min s.toNat IntKind.u64.bits = s.toNat := by simp [IntKind.bits]; omega
  rw [e]

/-- The first loop comes to its continuation with the quotient's upper half. -/
theorem l0_tells (y s y1 y0 u v v0 : Int) (n : Nat) : ∀ (k : Nat) (q r : Int), Guess y1 y0 u v q r → r < 4294967296 → (4294967296 - r).toNat ≤ n * 2147483648 → 2 * n + 4 ≤ k →
    ∃ k', k ≤ k' + 2 * n + 3 ∧ bits_Div64.l0 k y s y1 y0 u v v0 q r = bits_Div64.j2 k' y s y1 y0 u v v0 ((u * 4294967296 + v) / (y1 * 4294967296 + y0)) := by
  induction n with
  | zero => intro k q r g hr hn; omega
  | succ n ih =>
    intro k q r g hr hn hk
    obtain ⟨k, rfl⟩ : ∃ m, k = m + 2 := ⟨k - 2, by omega⟩
    have hrl := g.rlo; have hvl := g.vlo; have hvh := g.vhi; have hql := g.qlo; have h1l := g.y1lo; have h1h := g.y1hi; have h0l := g.y0lo; have h0h := g.y0hi
    by_cases ht : 4294967296 ≤ q ∨ r * 4294967296 + v < q * y0
    · have g' := g.next ht
      have hp := g.pos ht
      have hq64 : q < 18446744073709551616 := by
        have hs := g.sum; have hu := g.uhi
        refine Int.lt_of_not_ge fun hq => ?_
        have := Int.mul_le_mul_of_nonneg_right hq (show 0 ≤ y1 by omega)
        omega
      have e0 : bits_Div64.l0 (k + 2) y s y1 y0 u v v0 q r = bits_Div64.j1 (k + 1) y s y1 y0 u v v0 q r true := by
        simp only [bits_Div64.l0]
        by_cases hq : q ≥ 4294967296
        · rw [if_pos hq]
        · rw [if_neg hq]
          have hqq := mul_bd hql (show q ≤ 4294967295 by omega) h0l (show y0 ≤ 4294967295 by omega)
          rw [u64_in (n := q * y0) (by omega) (by omega), u64_in (n := 4294967296 * r) (by omega) (by omega), u64_in (by omega) (by omega), decide_eq_true (by omega)]
      have e1 : bits_Div64.j1 (k + 1) y s y1 y0 u v v0 q r true = if r + y1 ≥ 4294967296 then bits_Div64.j2 k y s y1 y0 u v v0 (q - 1) else bits_Div64.l0 k y s y1 y0 u v v0 (q - 1) (r + y1) := by
        simp only [bits_Div64.j1]
        rw [if_pos trivial, u64_in (n := r + y1) (by omega) (by omega), u64_in (n := q - 1) (by omega) (by omega)]
      rw [e0, e1]
      by_cases hr' : r + y1 ≥ 4294967296
      · rw [if_pos hr', (g'.done (g'.full hr')).1]
        exact ⟨k, by omega, rfl⟩
      · rw [if_neg hr']
        obtain ⟨k', hk', e⟩ := ih k (q - 1) (r + y1) g' (by omega) (by omega) (by omega)
        exact ⟨k', by omega, e⟩
    · have hq : q < 4294967296 := by omega
      have hqq := mul_bd hql (show q ≤ 4294967295 by omega) h0l (show y0 ≤ 4294967295 by omega)
      have e0 : bits_Div64.l0 (k + 2) y s y1 y0 u v v0 q r = bits_Div64.j1 (k + 1) y s y1 y0 u v v0 q r false := by
        simp only [bits_Div64.l0]
        rw [if_neg (by omega), u64_in (n := q * y0) (by omega) (by omega), u64_in (n := 4294967296 * r) (by omega) (by omega), u64_in (by omega) (by omega), decide_eq_false (by omega)]
      have e1 : bits_Div64.j1 (k + 1) y s y1 y0 u v v0 q r false = bits_Div64.j2 k y s y1 y0 u v v0 q := by
        simp only [bits_Div64.j1]
        rw [if_neg (by decide)]
      rw [e0, e1, (g.done (by omega)).1]
      exact ⟨k, by omega, rfl⟩

/-- The second loop, likewise: its end. -/
theorem l1_tells (y s y1 y0 v q1 u : Int) (hs0 : 0 ≤ s) (hy : y = y1 * 4294967296 + y0) (n : Nat) : ∀ (k : Nat) (q r : Int), Guess y1 y0 u v q r → r < 4294967296 → (4294967296 - r).toNat ≤ n * 2147483648 → 2 * n + 4 ≤ k →
    bits_Div64.l1 k y s y1 y0 v q1 r u q = some (IntKind.u64.wrap (IntKind.u64.wrap (q1 * 4294967296) + (u * 4294967296 + v) / y), shr .u64 ((u * 4294967296 + v) % y) s) := by
  subst hy
  induction n with
  | zero => intro k q r g hr hn; omega
  | succ n ih =>
    intro k q r g hr hn hk
    obtain ⟨k, rfl⟩ : ∃ m, k = m + 2 := ⟨k - 2, by omega⟩
    have hrl := g.rlo; have hvl := g.vlo; have hvh := g.vhi; have hql := g.qlo; have h1l := g.y1lo; have h1h := g.y1hi; have h0l := g.y0lo; have h0h := g.y0hi; have hul := g.ulo; have huh := g.uhi
    -- the end, once the quotient is known
    have fin : ∀ q', (u * 4294967296 + v) / (y1 * 4294967296 + y0) = q' → IntKind.u64.wrap (IntKind.u64.wrap (IntKind.u64.wrap (u * 4294967296) + v) - IntKind.u64.wrap (q' * (y1 * 4294967296 + y0))) = (u * 4294967296 + v) % (y1 * 4294967296 + y0) := by
      intro q' hq'
      have h1 := Int.mul_ediv_add_emod (u * 4294967296 + v) (y1 * 4294967296 + y0)
      have h2 := Int.emod_nonneg (u * 4294967296 + v) (show y1 * 4294967296 + y0 ≠ 0 by omega)
      have h3 := Int.emod_lt_of_pos (u * 4294967296 + v) (show 0 < y1 * 4294967296 + y0 by omega)
      rw [hq', Int.mul_comm] at h1
      generalize q' * (y1 * 4294967296 + y0) = p at *
      generalize (u * 4294967296 + v) % (y1 * 4294967296 + y0) = m at *
      simp only [u64w]
      omega
    by_cases ht : 4294967296 ≤ q ∨ r * 4294967296 + v < q * y0
    · have g' := g.next ht
      have hp := g.pos ht
      have hq64 : q < 18446744073709551616 := by
        have hs := g.sum
        refine Int.lt_of_not_ge fun hq => ?_
        have := Int.mul_le_mul_of_nonneg_right hq (show 0 ≤ y1 by omega)
        omega
      have e0 : bits_Div64.l1 (k + 2) (y1 * 4294967296 + y0) s y1 y0 v q1 r u q = bits_Div64.j4 (k + 1) (y1 * 4294967296 + y0) s y1 y0 v q1 r u q true := by
        simp only [bits_Div64.l1]
        by_cases hq : q ≥ 4294967296
        · rw [if_pos hq]
        · rw [if_neg hq]
          have hqq := mul_bd hql (show q ≤ 4294967295 by omega) h0l (show y0 ≤ 4294967295 by omega)
          rw [u64_in (n := q * y0) (by omega) (by omega), u64_in (n := 4294967296 * r) (by omega) (by omega), u64_in (n := 4294967296 * r + v) (by omega) (by omega), decide_eq_true (by omega)]
      rw [e0]
      simp only [bits_Div64.j4]
      rw [if_pos trivial, u64_in (n := r + y1) (by omega) (by omega), u64_in (n := q - 1) (by omega) (by omega)]
      by_cases hr' : r + y1 ≥ 4294967296
      · rw [if_pos hr', if_pos hs0, fin _ (g'.done (g'.full hr')).1, (g'.done (g'.full hr')).1]
      · rw [if_neg hr']
        exact ih k (q - 1) (r + y1) g' (by omega) (by omega) (by omega)
    · have hq : q < 4294967296 := by omega
      have hqq := mul_bd hql (show q ≤ 4294967295 by omega) h0l (show y0 ≤ 4294967295 by omega)
      have e0 : bits_Div64.l1 (k + 2) (y1 * 4294967296 + y0) s y1 y0 v q1 r u q = bits_Div64.j4 (k + 1) (y1 * 4294967296 + y0) s y1 y0 v q1 r u q false := by
        simp only [bits_Div64.l1]
        rw [if_neg (by omega), u64_in (n := q * y0) (by omega) (by omega), u64_in (n := 4294967296 * r) (by omega) (by omega), u64_in (n := 4294967296 * r + v) (by omega) (by omega), decide_eq_false (by omega)]
      rw [e0]
      simp only [bits_Div64.j4]
      rw [if_neg (by decide), if_pos hs0, fin _ (g.done (by omega)).1, (g.done (by omega)).1]

/-- math/bits.Div64: the quotient and the remainder. -/
theorem Div64_tells (hi lo y : Int) (h0 : 0 ≤ hi) (h1 : hi < y) (h2 : 0 ≤ lo) (h3 : lo < 18446744073709551616) (h4 : y < 18446744073709551616) (k : Nat) (hk : 20 ≤ k) :
    bits_Div64.f k hi lo y = some ((hi * 18446744073709551616 + lo) / y, (hi * 18446744073709551616 + lo) % y) := by
  unfold bits_Div64.f
  rw [if_neg (by omega), if_neg (by omega)]
  by_cases hz : hi = 0
  · rw [if_pos hz, hz, tdiv_pos h2, tmod_pos h2]
    have hb : 0 ≤ lo / y := Int.ediv_nonneg h2 (by omega)
    have hc : lo / y ≤ lo := Int.ediv_le_self _ h2
    rw [u64_in hb (by omega)]
    simp
  · rw [if_neg hz]
    unfold bits_LeadingZeros64.f
    rw [if_pos (by omega), if_pos (by omega)]
    simp only [Option.bind_some]
    obtain ⟨Y, rfl⟩ := Int.eq_ofNat_of_zero_le (show 0 ≤ y by omega)
    have hL := Lib.bitLenAux_bounds 64 Y (by have : (Y : Int) < 18446744073709551616 := h4; omega) (by omega)
    have hL64 : Lib.bitLenAux 64 Y ≤ 64 := Lib.bitLenAux_le 64 Y 64 (by have : (Y : Int) < 18446744073709551616 := h4; omega)
    have eL : Lib.bitLen (Y : Int).toNat = Lib.bitLenAux 64 Y := by simp [Lib.bitLen]
    rw [eL]
    generalize Lib.bitLenAux 64 Y = L at hL hL64
    obtain ⟨hL1, hLlo, hLhi⟩ := hL
    have es : IntKind.u64.wrap (64 - (L : Int)) = ((64 - L : Nat) : Int) := by rw [u64_in (by omega) (by omega)]; omega
    rw [es]
    generalize hS : (64 - L : Nat) = S
    have hSL : L = 64 - S := by omega
    have hS63 : S ≤ 63 := by omega
    have e64 : IntKind.u64.wrap (64 - (S : Int)) = ((64 - S : Nat) : Int) := by rw [u64_in (by omega) (by omega)]; omega
    rw [e64, if_pos (by omega), if_pos (by omega)]
    rw [shl_u64 (by omega) (by omega), shl_u64 (by omega) (by omega), shl_u64 (by omega) (by omega), shr_u64 (by omega) (by omega)]
    simp only [Int.toNat_natCast]
    -- the powers
    have hpp : (2 : Nat) ^ S * 2 ^ (64 - S) = 18446744073709551616 := by rw [← Nat.pow_add, show S + (64 - S) = 64 by omega]
    have hpp1 : (2 : Nat) ^ S * 2 ^ (63 - S) = 9223372036854775808 := by rw [← Nat.pow_add, show S + (63 - S) = 63 by omega]
    have hP0 : 0 < (2 : Nat) ^ S := Nat.two_pow_pos S
    have hQ0 : 0 < (2 : Nat) ^ (64 - S) := Nat.two_pow_pos _
    have hYlo : 2 ^ (63 - S) ≤ Y := by rw [show 63 - S = L - 1 by omega]; exact hLlo
    have hYhi : Y < 2 ^ (64 - S) := by rw [← hSL]; exact hLhi
    have hn1 : 9223372036854775808 ≤ Y * 2 ^ S := by
      have := Nat.mul_le_mul_right (2 ^ S) hYlo
      rw [Nat.mul_comm (2 ^ (63 - S)), hpp1] at this
      exact this
    have hn2 : Y * 2 ^ S < 18446744073709551616 := by
      have := Nat.mul_lt_mul_of_pos_right hYhi hP0
      rw [Nat.mul_comm (2 ^ (64 - S)), hpp] at this
      exact this
    have cP : ((2 : Int) ^ S) = ((2 ^ S : Nat) : Int) := by simp
    have cQ : ((2 : Int) ^ (64 - S)) = ((2 ^ (64 - S) : Nat) : Int) := by simp
    rw [cP, cQ]
    generalize hp : (2 : Nat) ^ S = p at hpp hP0 hn1 hn2
    generalize hq : (2 : Nat) ^ (64 - S) = q at hpp hQ0 hYhi
    have hppI : (p : Int) * (q : Int) = 18446744073709551616 := by rw [← Int.natCast_mul, hpp]; rfl
    have hn1I : 9223372036854775808 ≤ (Y : Int) * (p : Int) := by rw [← Int.natCast_mul]; exact Int.ofNat_le.2 hn1
    have hn2I : (Y : Int) * (p : Int) < 18446744073709551616 := by rw [← Int.natCast_mul]; exact Int.ofNat_lt.2 hn2
    have eY : (Y : Int) * (p : Int) % 18446744073709551616 = (Y : Int) * (p : Int) := by omega
    rw [eY]
    -- the dividend's words
    have hhi : hi * p < Y * p := Int.mul_lt_mul_of_pos_right h1 (by omega)
    have hhi0 : 0 ≤ hi * (p : Int) := Int.mul_nonneg h0 (by omega)
    have ehi : hi * (p : Int) % 18446744073709551616 = hi * (p : Int) := by omega
    rw [ehi]
    have elo : lo / (q : Int) < p ∧ 0 ≤ lo / (q : Int) := by
      refine ⟨Int.ediv_lt_of_lt_mul (by omega) (by rw [hppI]; exact h3), Int.ediv_nonneg h2 (by omega)⟩
    have eloP : lo * (p : Int) = lo / (q : Int) * 18446744073709551616 + lo % (q : Int) * p := by
      have := Int.mul_ediv_add_emod lo q
      have e : lo * (p : Int) = ((q : Int) * (lo / q) + lo % q) * p := by rw [this]
      rw [e, Int.add_mul, Int.mul_comm (q : Int), Int.mul_assoc, Int.mul_comm (q : Int), hppI]
    have emod : 0 ≤ lo % (q : Int) * p ∧ lo % (q : Int) * p < 18446744073709551616 := by
      have a := Int.emod_nonneg lo (show (q : Int) ≠ 0 by omega)
      have b := Int.emod_lt_of_pos lo (show 0 < (q : Int) by omega)
      refine ⟨Int.mul_nonneg a (by omega), ?_⟩
      have := Int.mul_lt_mul_of_pos_right b (show 0 < (p : Int) by omega)
      rw [Int.mul_comm (q : Int), hppI] at this
      exact this
    have ev : lo * (p : Int) % 18446744073709551616 = lo % (q : Int) * p := by
      rw [eloP, Int.add_comm, Int.add_mul_emod_self_right]
      exact Int.emod_eq_of_lt emod.1 emod.2
    rw [ev]
    have hpY : (p : Int) ≤ Y * p := by
      have := Int.mul_le_mul_of_nonneg_right (show (1 : Int) ≤ Y by omega) (show 0 ≤ (p : Int) by omega)
      omega
    have eor : bits .or .u64 (hi * (p : Int)) (lo / (q : Int)) = hi * p + lo / q := by
      refine bits_join .u64 64 (by decide) (fun n h0 h1 => u64_in h0 (by simpa using h1)) S _ _ hhi0 ?_ (by simp; omega) elo.2 ?_ (by simp; omega)
      · have : (2 : Int) ^ S = p := by rw [cP, hp]
        rw [this]
        simp
      · have : (2 : Int) ^ S = p := by rw [cP, hp]
        rw [this]
        exact elo.1
    rw [eor]
    have hU : hi * p + lo / q < Y * p := by
      have h5 : (hi + 1) * (p : Int) ≤ Y * p := Int.mul_le_mul_of_nonneg_right (by omega) (by omega)
      rw [Int.add_mul] at h5
      omega
    have hN : (hi * 18446744073709551616 + lo) * (p : Int) = (hi * p + lo / q) * 18446744073709551616 + lo % q * p := by
      rw [Int.add_mul, eloP, Int.mul_right_comm]
      omega
    generalize hUe : hi * (p : Int) + lo / q = U at *
    have hU0 : 0 ≤ U := by omega
    generalize hVe : lo % (q : Int) * p = V at *
    generalize hye : (Y : Int) * (p : Int) = y' at *
    rw [and_low (by omega) hn2I, and_low emod.1 emod.2]
    have hy1 : 2147483648 ≤ y' / 4294967296 ∧ y' / 4294967296 < 4294967296 := by omega
    have hy0 : 0 ≤ y' % 4294967296 ∧ y' % 4294967296 < 4294967296 := by omega
    have hyy : y' / 4294967296 * 4294967296 + y' % 4294967296 = y' := by omega
    rw [if_neg (by omega), tdiv_pos hU0]
    have g := Guess.first (u := U) (v := V / 4294967296) hy1.1 hy1.2 hy0.1 hy0.2 hU0 (by omega) (by omega) (by omega)
    have hUd : 0 ≤ U / (y' / 4294967296) ∧ U / (y' / 4294967296) ≤ U := ⟨g.qlo, Int.ediv_le_self _ hU0⟩
    have hUm : IntKind.u64.wrap (U - IntKind.u64.wrap (U / (y' / 4294967296) * (y' / 4294967296))) = U % (y' / 4294967296) := by
      have hs := g.sum
      have hr := g.rlo
      have hp0 : 0 ≤ U / (y' / 4294967296) * (y' / 4294967296) := Int.mul_nonneg hUd.1 (by omega)
      rw [u64_in (n := U / (y' / 4294967296) * (y' / 4294967296)) hp0 (by omega), u64_in (by omega) (by omega)]
      omega
    rw [u64_in (n := U / (y' / 4294967296)) hUd.1 (by omega), hUm]
    have hrm : U % (y' / 4294967296) < y' / 4294967296 := Int.emod_lt_of_pos _ (by omega)
    have hrm0 := g.rlo
    obtain ⟨k1, hk1, e⟩ := l0_tells y' S (y' / 4294967296) (y' % 4294967296) U (V / 4294967296) (V % 4294967296) 2 k _ _ g (by omega) (by omega) (by omega)
    rw [e, hyy]
    obtain ⟨k1, rfl⟩ : ∃ m, k1 = m + 1 := ⟨k1 - 1, by omega⟩
    simp only [bits_Div64.j2]
    rw [if_neg (by omega)]
    have hh := step_half (y := y') (u := U) (v := V / 4294967296) hU0 hU (by omega) (by omega)
    have hm0 : 0 ≤ (U * 4294967296 + V / 4294967296) % y' := Int.emod_nonneg _ (by omega)
    have hm1 : (U * 4294967296 + V / 4294967296) % y' < y' := Int.emod_lt_of_pos _ (by omega)
    have hsum := Int.mul_ediv_add_emod (U * 4294967296 + V / 4294967296) y'
    have e21 : IntKind.u64.wrap (IntKind.u64.wrap (IntKind.u64.wrap (U * 4294967296) + V / 4294967296) - IntKind.u64.wrap ((U * 4294967296 + V / 4294967296) / y' * y')) = (U * 4294967296 + V / 4294967296) % y' := by
      rw [Int.mul_comm] at hsum
      generalize (U * 4294967296 + V / 4294967296) / y' * y' = z at *
      generalize (U * 4294967296 + V / 4294967296) % y' = m at *
      simp only [u64w]
      omega
    rw [e21]
    have two := two_steps (y := y') (u := U) (v1 := V / 4294967296) (v0 := V % 4294967296) (by omega) hU0 hU (by omega) (by omega) (by omega) (by omega)
    have eV : V / 4294967296 * 4294967296 + V % 4294967296 = V := by omega
    rw [eV] at two
    generalize hq1 : (U * 4294967296 + V / 4294967296) / y' = q1 at *
    generalize hr1 : (U * 4294967296 + V / 4294967296) % y' = r1 at *
    rw [tdiv_pos hm0]
    have g2 := Guess.first (u := r1) (v := V % 4294967296) hy1.1 hy1.2 hy0.1 hy0.2 hm0 (by omega) (by omega) (by omega)
    have h2d : 0 ≤ r1 / (y' / 4294967296) ∧ r1 / (y' / 4294967296) ≤ r1 := ⟨g2.qlo, Int.ediv_le_self _ hm0⟩
    have h2m : IntKind.u64.wrap (r1 - IntKind.u64.wrap (r1 / (y' / 4294967296) * (y' / 4294967296))) = r1 % (y' / 4294967296) := by
      have hs := g2.sum
      have hr := g2.rlo
      have hp0 : 0 ≤ r1 / (y' / 4294967296) * (y' / 4294967296) := Int.mul_nonneg h2d.1 (by omega)
      rw [u64_in (n := r1 / (y' / 4294967296) * (y' / 4294967296)) hp0 (by omega), u64_in (by omega) (by omega)]
      omega
    rw [u64_in (n := r1 / (y' / 4294967296)) h2d.1 (by omega), h2m]
    have hrm2 : r1 % (y' / 4294967296) < y' / 4294967296 := Int.emod_lt_of_pos _ (by omega)
    have hrm20 := g2.rlo
    rw [l1_tells y' S (y' / 4294967296) (y' % 4294967296) (V % 4294967296) q1 r1 (by omega) hyy.symm 2 k1 _ _ g2 (by omega) (by omega) (by omega)]
    -- the whole
    have hh0 := step_half (y := y') (u := r1) (v := V % 4294967296) hm0 hm1 (by omega) (by omega)
    rw [u64_in (n := q1 * 4294967296) (by omega) (by omega), u64_in (by omega) (by omega), ← two.1, ← two.2, shr_u64 (by omega) (by omega), ← hN]
    have epS : (2 : Int) ^ (S : Int).toNat = p := by rw [Int.toNat_natCast, cP, hp]
    have em : (hi * 18446744073709551616 + lo) * (p : Int) % ((Y : Int) * p) = ((hi * 18446744073709551616 + lo) % Y) * p := by
      rw [Int.mul_comm _ (p : Int), Int.mul_comm (Y : Int) (p : Int), Int.mul_emod_mul_of_pos _ _ (by omega), Int.mul_comm]
    rw [epS, ← hye, Int.mul_ediv_mul_of_pos_left _ _ (by omega), em, Int.mul_ediv_cancel _ (by omega)]

end Go.Proofs.Ytbcmfmlbagjdoaa.PureDiv
