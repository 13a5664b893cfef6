/- ServoNobody: walked. -/
import Derived.Test.YtimcdiombljajaaSa
namespace Go.Proofs.Ytimcdiombljajaa.Sv
open Go Go.RowKit Go.Proofs.YtimcdiombljajaaW.PrintWords Go.Proofs.YtimcdiombljajaaW.PrintLast Go.Proofs.YtimcdiombljajaaW.PrintMore Go.Proofs.Ytimcdiombljajaa.PAll
set_option linter.unusedVariables false
set_option linter.unusedSimpArgs false

set_option maxHeartbeats 1000000 in
theorem ServoNobody_walk (a0 a1 : Int) (w : World) (w0 : (Lit.int .i64 a0).wf = true) (w1 : (Lit.int .i64 a1).wf = true) :
    Calls Try.prog 10 #[.int .i64 a0, .int .i64 a1] w fun e w' => e = .returned (.bool true) ∧ Below w.heap.size w w' := by
  go_enter Try.func10, Try.ntmps10
  go_wp2_with (first
    | (go_at_call 21; with_reducible refine Calls.mono (nil_reset _) ?_; rintro e w' ⟨rfl, rfl⟩)
    | (go_at_call 15
       with_reducible refine Calls.mono (nil_sample _ _ _) ?_
       rintro e w2 ⟨rfl, L2⟩
       have A := blk_new w2 (.cells #[.int .i64 0, .int .i64 0] 31)
       replace L2 := L2.alloc L2.size (.cells #[.int .i64 0, .int .i64 0] 31)
       obtain ⟨p0, p1⟩ := cs2 A)
    | (go_at_call 18; with_reducible refine Calls.mono (nil_freq _) ?_; rintro e w' ⟨rfl, rfl⟩)
    | (go_at_call 24; with_reducible refine Calls.mono (nil_samples _) ?_; rintro e w' ⟨rfl, rfl⟩)
    | (go_at_call 14; with_reducible refine Calls.mono (awake_any _) ?_; rintro e w3 ⟨rfl, L3⟩; replace L3 := L2.trans (L3.mono L2.size)))
  all_goals (go_ret; exact ⟨rfl, L3⟩)
end Go.Proofs.Ytimcdiombljajaa.Sv
