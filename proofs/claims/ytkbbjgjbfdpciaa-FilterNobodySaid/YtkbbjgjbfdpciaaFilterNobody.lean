/- FilterNobody: walked. -/
import Derived.Test.YtkbbjgjbfdpciaaFw
namespace Go.Proofs.Ytkbbjgjbfdpciaa.Fi
open Go Go.RowKit Go.Proofs.YtkbbjgjbfdpciaaW.PrintWords Go.Proofs.YtkbbjgjbfdpciaaW.PrintLast Go.Proofs.YtkbbjgjbfdpciaaW.PrintMore Go.Proofs.Ytkbbjgjbfdpciaa.PAll Go.Proofs.Ytkbbjgjbfdpciaa.Pure
attribute [local go_sem] max2_int min2_int max_two min_two max_three min_three max_four min_four
set_option linter.unusedVariables false
set_option linter.unusedSimpArgs false

set_option maxRecDepth 8000 in
set_option maxHeartbeats 4000000 in
theorem FilterNobody_walk (a b c d now : Int) (w : World) (w0 : (Lit.int .i64 a).wf = true) (w1 : (Lit.int .i64 b).wf = true) (w2 : (Lit.int .i64 c).wf = true) (w3 : (Lit.int .i64 d).wf = true) (w4 : (Lit.int .i64 now).wf = true) :
    Calls Try.prog 7 #[.agg #[.int .i64 a, .int .i64 b, .int .i64 c, .int .i64 d], .int .i64 now] w fun e w' => e = .returned (.bool true) ∧ Below w.heap.size w w' := by
  have R0 := blk_new w (.cells #[.int .i64 a, .int .i64 b, .int .i64 c, .int .i64 d] 29)
  have L0 := (Below.refl w.heap.size w).alloc (Nat.le_refl _) (.cells #[.int .i64 a, .int .i64 b, .int .i64 c, .int .i64 d] 29)
  obtain ⟨r0, r1, r2, r3⟩ := cs4 R0
  go_enter Try.func7, Try.ntmps7
  go_wp2_with (first
    | (go_at_call 15
       with_reducible refine Calls.mono (nil_best _ _) ?_
       rintro e w1 ⟨rfl, b1⟩
       have R1 := blk_alloc (blk_below R0 b1) (.cells #[.int .i64 0, .int .i64 0, .int .i64 0, .int .i64 0] 29)
       have Z1 := blk_new w1 (.cells #[.int .i64 0, .int .i64 0, .int .i64 0, .int .i64 0] 29)
       have L1 := L0.trans (b1.mono L0.size)
       replace L1 := L1.alloc L1.size (.cells #[.int .i64 0, .int .i64 0, .int .i64 0, .int .i64 0] 29)
       obtain ⟨r0, r1, r2, r3⟩ := cs4 R1)
    | (go_at_call 11
       with_reducible refine Calls.mono (nil_add _ _ _ _ _) ?_
       rintro e w2 ⟨rfl, b2⟩
       have R2 := blk_below R1 b2
       have Z2 := blk_below Z1 b2
       have L2 := L1.trans (b2.mono L1.size)
       obtain ⟨s0, s1, s2, s3⟩ := cs4 R2
       obtain ⟨z0, z1, z2, z3⟩ := cs4 Z2)
    | (go_at_call 18
       with_reducible refine Calls.mono (nil_disp _ _) ?_
       rintro e w3 ⟨rfl, rfl⟩)
    | (go_at_call 17
       with_reducible refine Calls.mono (nil_jitter _) ?_
       rintro e w3 ⟨rfl, rfl⟩)
    | (go_at_call 19
       with_reducible refine Calls.mono (nil_spike _ _ _ _ _) ?_
       rintro e w4 ⟨rfl, b4⟩
       have L4 := L2.trans (b4.mono L2.size))
    | (go_at_call 13
       with_reducible refine Calls.mono (nil_len _) ?_
       rintro e w5 ⟨rfl, rfl⟩)
    | (go_at_call 12
       with_reducible refine Calls.mono (nil_samples _) ?_
       rintro e w5 ⟨rfl, rfl⟩)
    | (go_at_call 9
       with_reducible refine Calls.mono (awake_any _) ?_
       rintro e w6 ⟨rfl, b6⟩
       have L6 := L4.trans (b6.mono L4.size)))
  all_goals (go_ret; exact ⟨rfl, L6⟩)
end Go.Proofs.Ytkbbjgjbfdpciaa.Fi
