/- What the layer sample computes, as the printed functions tell it: validity, growth, samples, bounds; and the chapter's examples. -/
import Derived.Test.YtkbbjgjbfdpciaaMulFix
import Derived.Test.YtkbbjgjbfdpciaaPAllx18
namespace Go.Proofs.Ytkbbjgjbfdpciaa.Pure
open Go Go.RowKit Go.Proofs.Ytkbbjgjbfdpciaa.PAll Go.Proofs.Ytkbbjgjbfdpciaa.Num Go.Proofs.Ytkbbjgjbfdpciaa.PureDiv Go.Proofs.YtkbbjgjbfdpciaaW.PrintWords Go.Proofs.YtkbbjgjbfdpciaaW.PrintMore
set_option linter.unusedVariables false

theorem wf64 {a : Int} (h : (Lit.int .i64 a).wf = true) : -9223372036854775808 ≤ a ∧ a ≤ 9223372036854775807 := by
  simpa [Lit.wf, IntKind.min, IntKind.max, IntKind.signed, IntKind.bits] using h
theorem wf32 {a : Int} (h : (Lit.int .i32 a).wf = true) : -2147483648 ≤ a ∧ a ≤ 2147483647 := by
  simpa [Lit.wf, IntKind.min, IntKind.max, IntKind.signed, IntKind.bits] using h
theorem wfu32 {a : Int} (h : (Lit.int .u32 a).wf = true) : 0 ≤ a ∧ a ≤ 4294967295 := by
  simpa [Lit.wf, IntKind.min, IntKind.max, IntKind.signed, IntKind.bits] using h
theorem wfu16 {a : Int} (h : (Lit.int .u16 a).wf = true) : 0 ≤ a ∧ a ≤ 65535 := by
  simpa [Lit.wf, IntKind.min, IntKind.max, IntKind.signed, IntKind.bits] using h

/-- a time in range, a tolerance, a valid sample -/
def inr (n : Int) : Prop := -4503599627370496 ≤ n ∧ n ≤ 4503599627370496
def tolr (n : Int) : Prop := 0 ≤ n ∧ n ≤ 500000
def fine (o d p t : Int) : Prop := inr o ∧ inr t ∧ 0 ≤ d ∧ d ≤ 9007199254740992 ∧ 0 ≤ p ∧ p ≤ 9007199254740992
instance (n : Int) : Decidable (inr n) := by unfold inr; infer_instance
instance (n : Int) : Decidable (tolr n) := by unfold tolr; infer_instance
instance (o d p t : Int) : Decidable (fine o d p t) := by unfold fine; infer_instance

theorem inside_tells (n : Int) : sample_inside.f n = some (decide (inr n)) := by
  unfold sample_inside.f
  by_cases h : n ≥ -4503599627370496
  · rw [if_pos h]
    congr 1
    exact decide_eq_decide.2 ⟨fun z => ⟨h, z⟩, fun z => z.2⟩
  · rw [if_neg h, decide_eq_false (fun z : inr n => h z.1)]
theorem tolerance_tells (n : Int) : sample_tolerance.f n = some (decide (tolr n)) := by
  unfold sample_tolerance.f
  by_cases h : n ≥ 0
  · rw [if_pos h]
    congr 1
    exact decide_eq_decide.2 ⟨fun z => ⟨h, z⟩, fun z => z.2⟩
  · rw [if_neg h, decide_eq_false (fun z : tolr n => h z.1)]
theorem Check_tells (o d p t : Int) : sample_Check.f o d p t = some (if fine o d p t then 0 else 3) := by
  unfold sample_Check.f
  rw [inside_tells, inside_tells]
  simp only [Option.bind_some, decide_eq_true_eq]
  by_cases g : fine o d p t
  · obtain ⟨g1, g2, g3, g4, g5, g6⟩ := g
    rw [if_pos g1, if_pos g2, if_neg (by omega), if_neg (by omega), if_neg (by omega), if_neg (by omega), if_pos ⟨g1, g2, g3, g4, g5, g6⟩]
  · rw [if_neg g]
    unfold fine at g
    by_cases h1 : inr o
    · by_cases h2 : inr t
      · rw [if_pos h1, if_pos h2]
        repeat' split
        all_goals first | rfl | (exfalso; exact g ⟨h1, h2, by omega, by omega, by omega, by omega⟩)
      · rw [if_pos h1, if_neg h2]
    · rw [if_neg h1]
theorem valid_tells (o d p t : Int) : sample_valid.f o d p t = some (if fine o d p t then (o, d, p, t, 0) else (0, 0, 0, 0, 3)) := by
  unfold sample_valid.f
  rw [Check_tells]
  simp only [Option.bind_some]
  by_cases g : fine o d p t
  · rw [if_pos g, if_pos rfl, if_pos g]
  · rw [if_neg g, if_neg (by decide), if_neg g]

/-- the growth in a time -/
def more (d t : Int) : Int := -(-d * t / 1000000000)
theorem more_bd (d t : Int) (hd0 : 0 ≤ d) (hd1 : d ≤ 9007199254740992) (ht : tolr t) : 0 ≤ more d t ∧ more d t ≤ 4503599627371 ∧ -(4503599627371 : Int) ≤ -d * t / 1000000000 ∧ -d * t / 1000000000 ≤ 0 := by
  have h := mul_bd hd0 hd1 ht.1 ht.2
  unfold more
  rw [Int.neg_mul]
  omega
theorem growth_tells (d t : Int) (hd0 : 0 ≤ d) (hd1 : d ≤ 9007199254740992) (ht : tolr t) (k : Nat) (hk : 20 ≤ k) : sample_growth.f k d t = some (more d t) := by
  have hb := more_bd d t hd0 hd1 ht
  obtain ⟨t0, t1⟩ := ht
  unfold sample_growth.f
  rw [w64_in (n := -d) (by omega) (by omega), MulDiv_tells _ _ _ (by omega) (by omega) (by omega) (by omega) (by omega) (by omega) k hk, md_in (by omega) (by omega)]
  simp only [Option.bind_some]
  rw [w64_in (by omega) (by omega)]
  rfl

def keep (o d p t : Int) : Int × Int × Int × Int × Int := if fine o d p t then (o, d, p, t, 0) else (0, 0, 0, 0, 3)
/-- a sample at a later time -/
def growS (o d p t n tol : Int) : Int × Int × Int × Int × Int := if fine o d p t ∧ inr n ∧ tolr tol then (if n < t then (0, 0, 0, 0, 12) else keep o d (p + more (n - t) tol) n) else (0, 0, 0, 0, 3)
theorem Grow_tells (o d p t n tol : Int) (k : Nat) (hk : 30 ≤ k) : sample_Grow.f k o d p t n tol = some (growS o d p t n tol) := by
  obtain ⟨k, rfl⟩ : ∃ m, k = m + 1 := ⟨k - 1, by omega⟩
  have no : sample_Grow.j0 (k + 1) n tol true o d p t = some (0, 0, 0, 0, 3) := by simp [sample_Grow.j0]
  unfold sample_Grow.f growS
  rw [Check_tells, inside_tells, tolerance_tells]
  simp only [Option.bind_some, decide_eq_true_eq]
  by_cases g : fine o d p t
  · rw [if_pos g, if_pos rfl]
    by_cases hn : inr n
    · rw [if_pos hn]
      by_cases ht : tolr tol
      · have hc : fine o d p t ∧ inr n ∧ tolr tol := ⟨g, hn, ht⟩
        rw [decide_eq_true ht, if_pos hc]
        simp only [sample_Grow.j0, Bool.not_true]
        rw [if_neg (by decide)]
        by_cases hl : n < t
        · rw [if_pos hl, if_pos hl]
        · rw [if_neg hl, if_neg hl]
          obtain ⟨g1, g2, g3, g4, g5, g6⟩ := g
          unfold inr at g1 g2 hn
          have hb := more_bd (n - t) tol (by omega) (by omega) ht
          rw [w64_in (n := n - t) (by omega) (by omega), growth_tells _ _ (by omega) (by omega) ht k (by omega)]
          simp only [Option.bind_some]
          rw [w64_in (n := p + more (n - t) tol) (by omega) (by omega), valid_tells]
          rfl
      · rw [decide_eq_false ht, if_neg (fun z => ht z.2.2)]
        exact no
    · rw [if_neg hn, if_neg (fun z => hn z.2.1), no]
  · rw [if_neg g, if_neg (by decide), if_neg (fun z => g z.1), no]

end Go.Proofs.Ytkbbjgjbfdpciaa.Pure
