/- The law RootGrows: Grow and its reference come to the same root and error, for every root, time and tolerance; and the chapter's examples hold. No condition. -/
import Derived.Test.YtemkpeomkbgpbaaRootGrowth
import Derived.Test.YtemkpeomkbgpbaaPAllx24
namespace Go.Proofs.Ytemkpeomkbgpbaa.Pure
open Go Go.RowKit Go.Proofs.Ytemkpeomkbgpbaa.PAll Go.Proofs.Ytemkpeomkbgpbaa.Num Go.Proofs.YtemkpeomkbgpbaaW.PrintWords Go.Proofs.YtemkpeomkbgpbaaW.PrintMore
set_option linter.unusedVariables false

theorem RootGrows_walk (a0_0 a0_1 a0_2 a0_3 a1 a2 : Int) (w : World) (w0_0 : (Lit.int .i64 a0_0).wf = true) (w0_1 : (Lit.int .i64 a0_1).wf = true) (w0_2 : (Lit.int .i64 a0_2).wf = true) (w0_3 : (Lit.int .u32 a0_3).wf = true) (w1 : (Lit.int .i64 a1).wf = true) (w2 : (Lit.int .i64 a2).wf = true) :
    Calls Try.prog 3 #[.agg #[.int .i64 a0_0, .int .i64 a0_1, .int .i64 a0_2, .int .u32 a0_3], .int .i64 a1, .int .i64 a2] w fun e w' => e = .returned (.bool true) ∧ Below w.heap.size w w' := by
  refine timesynclaw29_RootGrows.calls 200 a0_0 a0_1 a0_2 a0_3 a1 a2 true w ?_
  unfold timesynclaw29_RootGrows.f
  rw [Grow_tells, rGrow_tells _ _ _ _ _ _ (wf64 w1).1 (wf64 w1).2 (wf64 w2).1 (wf64 w2).2 200 (by omega), awake_tells 200 (by omega)]
  simp

end Go.Proofs.Ytemkpeomkbgpbaa.Pure
