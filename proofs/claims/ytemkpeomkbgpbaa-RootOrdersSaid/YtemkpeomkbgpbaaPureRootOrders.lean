/- The law RootOrders: Better and its reference report the same, both ways, for every two roots; and the chapter's examples hold. No condition. -/
import Derived.Test.YtemkpeomkbgpbaaRootOrderRef
import Derived.Test.YtemkpeomkbgpbaaPAllx33
namespace Go.Proofs.Ytemkpeomkbgpbaa.Pure
open Go Go.RowKit Go.Proofs.Ytemkpeomkbgpbaa.PAll Go.Proofs.Ytemkpeomkbgpbaa.Num Go.Proofs.YtemkpeomkbgpbaaW.PrintWords Go.Proofs.YtemkpeomkbgpbaaW.PrintMore
set_option linter.unusedVariables false

theorem RootOrders_walk (a0_0 a0_1 a0_2 a0_3 a1_0 a1_1 a1_2 a1_3 : Int) (w : World) (w0_0 : (Lit.int .i64 a0_0).wf = true) (w0_1 : (Lit.int .i64 a0_1).wf = true) (w0_2 : (Lit.int .i64 a0_2).wf = true) (w0_3 : (Lit.int .u32 a0_3).wf = true) (w1_0 : (Lit.int .i64 a1_0).wf = true) (w1_1 : (Lit.int .i64 a1_1).wf = true) (w1_2 : (Lit.int .i64 a1_2).wf = true) (w1_3 : (Lit.int .u32 a1_3).wf = true) :
    Calls Try.prog 4 #[.agg #[.int .i64 a0_0, .int .i64 a0_1, .int .i64 a0_2, .int .u32 a0_3], .agg #[.int .i64 a1_0, .int .i64 a1_1, .int .i64 a1_2, .int .u32 a1_3]] w fun e w' => e = .returned (.bool true) ∧ Below w.heap.size w w' := by
  refine timesynclaw29_RootOrders.calls 200 a0_0 a0_1 a0_2 a0_3 a1_0 a1_1 a1_2 a1_3 true w ?_
  unfold timesynclaw29_RootOrders.f
  rw [Better_tells _ _ _ _ _ _ _ _ 200 (by omega), Better_tells _ _ _ _ _ _ _ _ 200 (by omega), rBetter_tells _ _ _ _ _ _ _ _ 200 (by omega), rBetter_tells _ _ _ _ _ _ _ _ 200 (by omega), awake_tells 200 (by omega)]
  simp only [Option.bind_some]
  cases before a0_0 a0_1 a0_2 a0_3 a1_0 a1_1 a1_2 a1_3 <;> cases before a1_0 a1_1 a1_2 a1_3 a0_0 a0_1 a0_2 a0_3 <;> rfl

end Go.Proofs.Ytemkpeomkbgpbaa.Pure
