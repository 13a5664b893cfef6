/- The law SampleOf: Of and its reference come to the same sample and error, for every times, precision and tolerance; and the chapter's examples hold. No condition. -/
import Derived.Test.YtkldnopfgcenhaaSampRef
import Derived.Test.YtkldnopfgcenhaaPAllx30
namespace Go.Proofs.Ytkldnopfgcenhaa.Pure
open Go Go.RowKit Go.Proofs.Ytkldnopfgcenhaa.PAll Go.Proofs.Ytkldnopfgcenhaa.Num Go.Proofs.Ytkldnopfgcenhaa.PureDiv Go.Proofs.YtkldnopfgcenhaaW.PrintWords Go.Proofs.YtkldnopfgcenhaaW.PrintMore
set_option linter.unusedVariables false

theorem Floor2_tells (n : Int) (h0 : -9223372036854775808 ≤ n) (h1 : n ≤ 9223372036854775807) (k : Nat) (hk : 130 ≤ k) : timesyncref01_Floor.f k n 2 = some (n / 2, true) := by
  unfold timesyncref01_Floor.f
  rw [rMulDiv_tells _ _ _ h0 h1 (by omega) (by omega) (by omega) (by omega) k hk, md_in (by omega) (by omega), Int.mul_one]
  rfl

theorem rOf_tells (q1 q2 q3 q4 prec tol : Int) (k : Nat) (hk : 140 ≤ k) : timesyncref21_Of.f k q1 q2 q3 q4 prec tol = some (ofS q1 q2 q3 q4 prec tol) := by
  obtain ⟨k, rfl⟩ : ∃ m, k = m + 3 := ⟨k - 3, by omega⟩
  have no : timesyncref21_Of.j0 (k + 3) prec tol true q1 q2 q3 q4 = some (0, 0, 0, 0, 3) := by simp [timesyncref21_Of.j0]
  unfold timesyncref21_Of.f ofS
  rw [isTime_tells, isTime_tells, isTime_tells, isTime_tells, isTol_tells]
  simp only [Option.bind_some, decide_eq_true_eq]
  by_cases g : asks q1 q2 q3 q4 prec tol
  · rw [if_pos g]
    obtain ⟨h1, h2, h3, h4, p0, p1, ht⟩ := g
    rw [if_pos h1, if_pos h2, if_pos h3, if_pos h4, if_neg (by omega), if_neg (by omega), decide_eq_true ht]
    simp only [timesyncref21_Of.j0, Bool.not_true]
    rw [if_neg (by decide)]
    unfold inr at h1 h2 h3 h4
    have late : timesyncref21_Of.j1 (k + 2) prec tol true q1 q2 q3 q4 = some (0, 0, 0, 0, 12) := by simp [timesyncref21_Of.j1]
    by_cases c1 : q4 < q1
    · rw [if_pos c1, late, if_pos (Or.inl c1)]
    · rw [if_neg c1]
      by_cases c2 : q3 < q2
      · rw [decide_eq_true c2, late, if_pos (Or.inr c2)]
      · rw [decide_eq_false c2, if_neg (by omega)]
        simp only [timesyncref21_Of.j1]
        have hb := more_bd (q4 - q1) tol (by omega) (by omega) ht
        have e1 : wrap64 (wrap64 (q2 - q1) + wrap64 (q3 - q4)) = q2 - q1 + (q3 - q4) := by rw [w64_in (n := q2 - q1) (by omega) (by omega), w64_in (n := q3 - q4) (by omega) (by omega), w64_in (by omega) (by omega)]
        have e2 : wrap64 (wrap64 (q4 - q1) - wrap64 (q3 - q2)) = q4 - q1 - (q3 - q2) := by rw [w64_in (n := q4 - q1) (by omega) (by omega), w64_in (n := q3 - q2) (by omega) (by omega), w64_in (by omega) (by omega)]
        have e3 : wrap64 (prec + more (q4 - q1) tol) = prec + more (q4 - q1) tol := w64_in (by omega) (by omega)
        have last : ∀ d, timesyncref21_Of.j2 (k + 1) prec tol ((q2 - q1 + (q3 - q4)) / 2) d q1 q2 q3 q4 = some (keep ((q2 - q1 + (q3 - q4)) / 2) d (prec + more (q4 - q1) tol) q4) := by
          intro d
          simp only [timesyncref21_Of.j2]
          rw [w64_in (n := q4 - q1) (by omega) (by omega), rgrowth_tells _ _ (by omega) (by omega) ht k (by omega)]
          simp only [Option.bind_some]
          rw [e3, rCheck_tells]
          simp only [Option.bind_some]
          unfold keep
          by_cases gf : fine ((q2 - q1 + (q3 - q4)) / 2) d (prec + more (q4 - q1) tol) q4
          · rw [if_pos gf, if_pos rfl, if_pos gf]
          · rw [if_neg gf, if_neg (by decide), if_neg gf]
        rw [if_neg (by decide), e1, Floor2_tells _ (by omega) (by omega) (k + 1) (by omega)]
        simp only [Option.bind_some]
        rw [e2]
        by_cases hd : q4 - q1 - (q3 - q2) < prec
        · rw [if_pos hd, last, show max prec (q4 - q1 - (q3 - q2)) = prec by omega]
        · rw [if_neg hd, last, show max prec (q4 - q1 - (q3 - q2)) = q4 - q1 - (q3 - q2) by omega]
  · rw [if_neg g]
    by_cases h1 : inr q1
    · rw [if_pos h1]
      by_cases h2 : inr q2
      · rw [if_pos h2]
        by_cases h3 : inr q3
        · rw [if_pos h3]
          by_cases h4 : inr q4
          · rw [if_pos h4]
            by_cases p0 : prec < 1
            · rw [if_pos p0, no]
            · rw [if_neg p0]
              by_cases p1 : prec > 1000000000
              · rw [if_pos p1, no]
              · rw [if_neg p1]
                by_cases ht : tolr tol
                · exact absurd ⟨h1, h2, h3, h4, by omega, by omega, ht⟩ g
                · rw [decide_eq_false ht]
                  exact no
          · rw [if_neg h4, no]
        · rw [if_neg h3, no]
      · rw [if_neg h2, no]
    · rw [if_neg h1, no]

theorem SampleOf_walk (a0_0 a0_1 a0_2 a0_3 a1 a2 : Int) (w : World) (w0_0 : (Lit.int .i64 a0_0).wf = true) (w0_1 : (Lit.int .i64 a0_1).wf = true) (w0_2 : (Lit.int .i64 a0_2).wf = true) (w0_3 : (Lit.int .i64 a0_3).wf = true) (w1 : (Lit.int .i64 a1).wf = true) (w2 : (Lit.int .i64 a2).wf = true) :
    Calls Try.prog 3 #[.agg #[.int .i64 a0_0, .int .i64 a0_1, .int .i64 a0_2, .int .i64 a0_3], .int .i64 a1, .int .i64 a2] w fun e w' => e = .returned (.bool true) ∧ Below w.heap.size w w' := by
  refine timesynclaw21_SampleOf.calls 200 a0_0 a0_1 a0_2 a0_3 a1 a2 true w ?_
  unfold timesynclaw21_SampleOf.f
  rw [Of_tells _ _ _ _ _ _ 200 (by omega), rOf_tells _ _ _ _ _ _ 200 (by omega), awake_tells 200 (by omega)]
  simp

end Go.Proofs.Ytkldnopfgcenhaa.Pure
