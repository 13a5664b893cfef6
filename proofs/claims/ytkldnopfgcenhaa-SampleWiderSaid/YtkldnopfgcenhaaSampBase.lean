/- What the layer sample computes, as the printed functions tell it: validity, growth, samples, bounds; and the chapter's examples. -/
import Derived.Test.YtkldnopfgcenhaaMulFix
import Derived.Test.YtkldnopfgcenhaaPAllx29
namespace Go.Proofs.Ytkldnopfgcenhaa.Pure
open Go Go.RowKit Go.Proofs.Ytkldnopfgcenhaa.PAll Go.Proofs.Ytkldnopfgcenhaa.Num Go.Proofs.Ytkldnopfgcenhaa.PureDiv Go.Proofs.YtkldnopfgcenhaaW.PrintWords Go.Proofs.YtkldnopfgcenhaaW.PrintMore
set_option linter.unusedVariables false

theorem wf64 {a : Int} (h : (Lit.int .i64 a).wf = true) : -9223372036854775808 ≤ a ∧ a ≤ 9223372036854775807 := by
  simpa [Lit.wf, IntKind.min, IntKind.max, IntKind.signed, IntKind.bits] using h
theorem wf32 {a : Int} (h : (Lit.int .i32 a).wf = true) : -2147483648 ≤ a ∧ a ≤ 2147483647 := by
  simpa [Lit.wf, IntKind.min, IntKind.max, IntKind.signed, IntKind.bits] using h
theorem wfu32 {a : Int} (h : (Lit.int .u32 a).wf = true) : 0 ≤ a ∧ a ≤ 4294967295 := by
  simpa [Lit.wf, IntKind.min, IntKind.max, IntKind.signed, IntKind.bits] using h
theorem wfu16 {a : Int} (h : (Lit.int .u16 a).wf = true) : 0 ≤ a ∧ a ≤ 65535 := by
  simpa [Lit.wf, IntKind.min, IntKind.max, IntKind.signed, IntKind.bits] using h

/-- a time in range, a tolerance, a valid sample -/
def inr (n : Int) : Prop := -4503599627370496 ≤ n ∧ n ≤ 4503599627370496
def tolr (n : Int) : Prop := 0 ≤ n ∧ n ≤ 500000
def fine (o d p t : Int) : Prop := inr o ∧ inr t ∧ 0 ≤ d ∧ d ≤ 9007199254740992 ∧ 0 ≤ p ∧ p ≤ 9007199254740992
instance (n : Int) : Decidable (inr n) := by unfold inr; infer_instance
instance (n : Int) : Decidable (tolr n) := by unfold tolr; infer_instance
instance (o d p t : Int) : Decidable (fine o d p t) := by unfold fine; infer_instance

theorem inside_tells (n : Int) : sample_inside.f n = some (decide (inr n)) := by
  unfold sample_inside.f
  by_cases h : n ≥ -4503599627370496
  · rw [if_pos h]
    congr 1
    exact decide_eq_decide.2 ⟨fun z => ⟨h, z⟩, fun z => z.2⟩
  · rw [if_neg h, decide_eq_false (fun z : inr n => h z.1)]
theorem tolerance_tells (n : Int) : sample_tolerance.f n = some (decide (tolr n)) := by
  unfold sample_tolerance.f
  by_cases h : n ≥ 0
  · rw [if_pos h]
    congr 1
    exact decide_eq_decide.2 ⟨fun z => ⟨h, z⟩, fun z => z.2⟩
  · rw [if_neg h, decide_eq_false (fun z : tolr n => h z.1)]
theorem Check_tells (o d p t : Int) : sample_Check.f o d p t = some (if fine o d p t then 0 else 3) := by
  unfold sample_Check.f
  rw [inside_tells, inside_tells]
  simp only [Option.bind_some, decide_eq_true_eq]
  by_cases g : fine o d p t
  · obtain ⟨g1, g2, g3, g4, g5, g6⟩ := g
    rw [if_pos g1, if_pos g2, if_neg (by omega), if_neg (by omega), if_neg (by omega), if_neg (by omega), if_pos ⟨g1, g2, g3, g4, g5, g6⟩]
  · rw [if_neg g]
    unfold fine at g
    by_cases h1 : inr o
    · by_cases h2 : inr t
      · rw [if_pos h1, if_pos h2]
        repeat' split
        all_goals first | rfl | (exfalso; exact g ⟨h1, h2, by omega, by omega, by omega, by omega⟩)
      · rw [if_pos h1, if_neg h2]
    · rw [if_neg h1]
theorem valid_tells (o d p t : Int) : sample_valid.f o d p t = some (if fine o d p t then (o, d, p, t, 0) else (0, 0, 0, 0, 3)) := by
  unfold sample_valid.f
  rw [Check_tells]
  simp only [Option.bind_some]
  by_cases g : fine o d p t
  · rw [if_pos g, if_pos rfl, if_pos g]
  · rw [if_neg g, if_neg (by decide), if_neg g]

/-- the growth in a time -/
def more (d t : Int) : Int := -(-d * t / 1000000000)
theorem more_bd (d t : Int) (hd0 : 0 ≤ d) (hd1 : d ≤ 9007199254740992) (ht : tolr t) : 0 ≤ more d t ∧ more d t ≤ 4503599627371 ∧ -(4503599627371 : Int) ≤ -d * t / 1000000000 ∧ -d * t / 1000000000 ≤ 0 := by
  have h := mul_bd hd0 hd1 ht.1 ht.2
  unfold more
  rw [Int.neg_mul]
  omega
theorem growth_tells (d t : Int) (hd0 : 0 ≤ d) (hd1 : d ≤ 9007199254740992) (ht : tolr t) (k : Nat) (hk : 20 ≤ k) : sample_growth.f k d t = some (more d t) := by
  have hb := more_bd d t hd0 hd1 ht
  obtain ⟨t0, t1⟩ := ht
  unfold sample_growth.f
  rw [w64_in (n := -d) (by omega) (by omega), MulDiv_tells _ _ _ (by omega) (by omega) (by omega) (by omega) (by omega) (by omega) k hk, md_in (by omega) (by omega)]
  simp only [Option.bind_some]
  rw [w64_in (by omega) (by omega)]
  rfl

/-- what Of asks of its numbers -/
def asks (q1 q2 q3 q4 prec tol : Int) : Prop := inr q1 ∧ inr q2 ∧ inr q3 ∧ inr q4 ∧ 1 ≤ prec ∧ prec ≤ 1000000000 ∧ tolr tol
instance (q1 q2 q3 q4 prec tol : Int) : Decidable (asks q1 q2 q3 q4 prec tol) := by unfold asks; infer_instance
/-- a sample, or none if it is not valid -/
def keep (o d p t : Int) : Int × Int × Int × Int × Int := if fine o d p t then (o, d, p, t, 0) else (0, 0, 0, 0, 3)
/-- the sample of an exchange -/
def ofS (q1 q2 q3 q4 prec tol : Int) : Int × Int × Int × Int × Int :=
  if asks q1 q2 q3 q4 prec tol then (if q4 < q1 ∨ q3 < q2 then (0, 0, 0, 0, 12) else keep (((q2 - q1) + (q3 - q4)) / 2) (max prec ((q4 - q1) - (q3 - q2))) (prec + more (q4 - q1) tol) q4) else (0, 0, 0, 0, 3)

theorem bind5 (o : Option (Int × Int × Int × Int × Int)) : (o.bind fun bt => some (bt.1, bt.2.1, bt.2.2.1, bt.2.2.2.1, bt.2.2.2.2)) = o := by cases o <;> rfl

theorem Of_tells (q1 q2 q3 q4 prec tol : Int) (k : Nat) (hk : 30 ≤ k) : sample_Of.f k q1 q2 q3 q4 prec tol = some (ofS q1 q2 q3 q4 prec tol) := by
  obtain ⟨k, rfl⟩ : ∃ m, k = m + 2 := ⟨k - 2, by omega⟩
  have no : sample_Of.j0 (k + 2) prec tol true q1 q2 q3 q4 = some (0, 0, 0, 0, 3) := by simp [sample_Of.j0]
  unfold sample_Of.f ofS
  rw [inside_tells, inside_tells, inside_tells, inside_tells, tolerance_tells]
  simp only [Option.bind_some, decide_eq_true_eq]
  by_cases g : asks q1 q2 q3 q4 prec tol
  · rw [if_pos g]
    obtain ⟨h1, h2, h3, h4, p0, p1, ht⟩ := g
    rw [if_pos h1, if_pos h2, if_pos h3, if_pos h4, if_neg (by omega), if_neg (by omega), decide_eq_true ht]
    simp only [sample_Of.j0, Bool.not_true]
    rw [if_neg (by decide)]
    unfold inr at h1 h2 h3 h4
    have late : sample_Of.j1 (k + 1) prec tol true q1 q2 q3 q4 = some (0, 0, 0, 0, 12) := by simp [sample_Of.j1]
    by_cases c1 : q4 < q1
    · rw [if_pos c1, late, if_pos (Or.inl c1)]
    · rw [if_neg c1]
      by_cases c2 : q3 < q2
      · rw [decide_eq_true c2, late, if_pos (Or.inr c2)]
      · rw [decide_eq_false c2, if_neg (by omega)]
        simp only [sample_Of.j1]
        have hb := more_bd (q4 - q1) tol (by omega) (by omega) ht
        rw [if_neg (by decide), w64_in (n := q4 - q1) (by omega) (by omega), growth_tells _ _ (by omega) (by omega) ht k (by omega)]
        simp only [Option.bind_some]
        have e1 : wrap64 (wrap64 (q2 - q1) + wrap64 (q3 - q4)) / 2 = (q2 - q1 + (q3 - q4)) / 2 := by rw [w64_in (n := q2 - q1) (by omega) (by omega), w64_in (n := q3 - q4) (by omega) (by omega), w64_in (by omega) (by omega)]
        have e2 : mx prec (wrap64 (q4 - q1 - wrap64 (q3 - q2))) = max prec (q4 - q1 - (q3 - q2)) := by unfold mx; rw [w64_in (n := q3 - q2) (by omega) (by omega), w64_in (by omega) (by omega)]; omega
        have e3 : wrap64 (prec + more (q4 - q1) tol) = prec + more (q4 - q1) tol := w64_in (by omega) (by omega)
        rw [e1, e2, e3, valid_tells]
        rfl
  · rw [if_neg g]
    by_cases h1 : inr q1
    · rw [if_pos h1]
      by_cases h2 : inr q2
      · rw [if_pos h2]
        by_cases h3 : inr q3
        · rw [if_pos h3]
          by_cases h4 : inr q4
          · rw [if_pos h4]
            by_cases p0 : prec < 1
            · rw [if_pos p0, no]
            · rw [if_neg p0]
              by_cases p1 : prec > 1000000000
              · rw [if_pos p1, no]
              · rw [if_neg p1]
                by_cases ht : tolr tol
                · exact absurd ⟨h1, h2, h3, h4, by omega, by omega, ht⟩ g
                · rw [decide_eq_false ht]
                  exact no
          · rw [if_neg h4]
        · rw [if_neg h3]
      · rw [if_neg h2]
    · rw [if_neg h1]

/-- the distance and the bounds -/
def dist (o d p t : Int) : Int := if fine o d p t then (d + 1) / 2 + p else 0
theorem Distance_tells (o d p t : Int) : sample_Distance.f o d p t = some (dist o d p t) := by
  unfold sample_Distance.f dist
  rw [Check_tells]
  simp only [Option.bind_some]
  by_cases g : fine o d p t
  · rw [if_pos g, if_pos rfl, if_pos g]
    obtain ⟨g1, g2, g3, g4, g5, g6⟩ := g
    rw [w64_in (n := d + 1) (by omega) (by omega), tdiv_pos (by omega), w64_in (n := (d + 1) / 2) (by omega) (by omega), w64_in (by omega) (by omega)]
  · rw [if_neg g, if_neg (by decide), if_neg g]
def bounds (o d p t : Int) : Int × Int := if fine o d p t then (o - ((d + 1) / 2 + p), o + ((d + 1) / 2 + p)) else (0, 0)
theorem Bounds_tells (o d p t : Int) : sample_Bounds.f o d p t = some (bounds o d p t) := by
  unfold sample_Bounds.f bounds
  rw [valid_tells, Distance_tells]
  simp only [Option.bind_some]
  by_cases g : fine o d p t
  · rw [if_pos g, if_pos g]
    unfold dist
    rw [if_pos g]
    obtain ⟨g1, g2, g3, g4, g5, g6⟩ := g
    unfold inr at g1 g2
    rw [w64_in (n := o - ((d + 1) / 2 + p)) (by omega) (by omega), w64_in (n := o + ((d + 1) / 2 + p)) (by omega) (by omega)]
    simp
  · rw [if_neg g, if_neg g]
    simp

theorem awake_tells (k : Nat) (hk : 60 ≤ k) : timesynclaw21_awake.f k = some true :=
  at_rounds (fun k => timesynclaw21_awake.mono k) hk (by decide +kernel)

end Go.Proofs.Ytkldnopfgcenhaa.Pure
