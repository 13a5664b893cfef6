/- The law SampleGrows: Grow and its reference come to the same sample and error, for every sample, time and tolerance; and the chapter's examples hold. No condition. -/
import Derived.Test.YtkldnopfgcenhaaSampGrow
import Derived.Test.YtkldnopfgcenhaaSampRef
import Derived.Test.YtkldnopfgcenhaaPAllx40
namespace Go.Proofs.Ytkldnopfgcenhaa.Pure
open Go Go.RowKit Go.Proofs.Ytkldnopfgcenhaa.PAll Go.Proofs.Ytkldnopfgcenhaa.Num Go.Proofs.YtkldnopfgcenhaaW.PrintWords Go.Proofs.YtkldnopfgcenhaaW.PrintMore
set_option linter.unusedVariables false

theorem rGrow_tells (o d p t n tol : Int) (k : Nat) (hk : 140 ≤ k) : timesyncref21_Grow.f k o d p t n tol = some (growS o d p t n tol) := by
  obtain ⟨k, rfl⟩ : ∃ m, k = m + 1 := ⟨k - 1, by omega⟩
  have no : timesyncref21_Grow.j0 (k + 1) n tol true o d p t = some (0, 0, 0, 0, 3) := by simp [timesyncref21_Grow.j0]
  unfold timesyncref21_Grow.f growS
  rw [rCheck_tells, isTime_tells, isTol_tells]
  simp only [Option.bind_some, decide_eq_true_eq]
  by_cases g : fine o d p t
  · rw [if_pos g, if_pos rfl]
    by_cases hn : inr n
    · rw [if_pos hn]
      by_cases ht : tolr tol
      · have hc : fine o d p t ∧ inr n ∧ tolr tol := ⟨g, hn, ht⟩
        rw [decide_eq_true ht, if_pos hc]
        simp only [timesyncref21_Grow.j0, Bool.not_true]
        rw [if_neg (by decide)]
        by_cases hl : n < t
        · rw [if_pos hl, if_pos hl]
        · rw [if_neg hl, if_neg hl]
          obtain ⟨g1, g2, g3, g4, g5, g6⟩ := g
          unfold inr at g1 g2 hn
          have hb := more_bd (n - t) tol (by omega) (by omega) ht
          rw [w64_in (n := n - t) (by omega) (by omega), rgrowth_tells _ _ (by omega) (by omega) ht k (by omega)]
          simp only [Option.bind_some]
          rw [w64_in (n := p + more (n - t) tol) (by omega) (by omega), rCheck_tells]
          simp only [Option.bind_some]
          unfold keep
          by_cases gf : fine o d (p + more (n - t) tol) n
          · rw [if_pos gf, if_pos rfl, if_pos gf]
          · rw [if_neg gf, if_neg (by decide), if_neg gf]
      · rw [decide_eq_false ht, if_neg (fun z => ht z.2.2)]
        exact no
    · rw [if_neg hn, if_neg (fun z => hn z.2.1), no]
  · rw [if_neg g, if_neg (by decide), if_neg (fun z => g z.1), no]

theorem SampleGrows_walk (a0_0 a0_1 a0_2 a0_3 a1 a2 : Int) (w : World) (w0_0 : (Lit.int .i64 a0_0).wf = true) (w0_1 : (Lit.int .i64 a0_1).wf = true) (w0_2 : (Lit.int .i64 a0_2).wf = true) (w0_3 : (Lit.int .i64 a0_3).wf = true) (w1 : (Lit.int .i64 a1).wf = true) (w2 : (Lit.int .i64 a2).wf = true) :
    Calls Try.prog 8 #[.agg #[.int .i64 a0_0, .int .i64 a0_1, .int .i64 a0_2, .int .i64 a0_3], .int .i64 a1, .int .i64 a2] w fun e w' => e = .returned (.bool true) ∧ Below w.heap.size w w' := by
  refine timesynclaw21_SampleGrows.calls 200 a0_0 a0_1 a0_2 a0_3 a1 a2 true w ?_
  unfold timesynclaw21_SampleGrows.f
  rw [Grow_tells _ _ _ _ _ _ 200 (by omega), rGrow_tells _ _ _ _ _ _ 200 (by omega), awake_tells 200 (by omega)]
  simp

end Go.Proofs.Ytkldnopfgcenhaa.Pure
