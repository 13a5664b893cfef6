-- A text of this session, written by a program of its own (wip/tools).
import Derived.Test.YtkbbjgjbfdpciaaPAllx0
import Derived.Test.YtkbbjgjbfdpciaaPAllx15
namespace Go.Proofs.Ytkbbjgjbfdpciaa.PAll
open Go.RowKit Go.Proofs.YtkbbjgjbfdpciaaW.PrintWords Go.Proofs.YtkbbjgjbfdpciaaW.PrintLast Go.Proofs.YtkbbjgjbfdpciaaW.PrintMore
attribute [local go_sem] max2_int min2_int max_two min_two max_three min_three max_four min_four   -- for this text's walks alone
set_option linter.unusedVariables false
set_option linter.unusedSimpArgs false

/-! ### sample_growth: function 25 -/
def sample_growth.f (k : Nat) (a0 : Int) (a1 : Int) : Option (Int) := (fixed_MulDiv.f k (wrap64 (-a0)) a1 1000000000).bind fun bt137 => (some (wrap64 (-bt137.1)))
theorem sample_growth.mono : ∀ a0 a1 k, LeO (sample_growth.f k a0 a1) (sample_growth.f (k + 1) a0 a1) := by
  intro a0 a1 k
  unfold sample_growth.f
  repeat' first
      | (with_reducible exact fixed_MulDiv.mono _ _ _ _)
      | (with_reducible exact LeO.refl _)
      | (with_reducible exact LeO.none _)
      | (with_reducible refine LeO.ite ?_ ?_)
      | (with_reducible refine LeO.bind ?_ (fun _ => ?_))
      | exact fixed_MulDiv.mono _ _ _ _
      | exact LeO.none _
      | refine LeO.ite ?_ ?_
      | refine LeO.bind ?_ (fun _ => ?_)
set_option maxHeartbeats 8000000 in
set_option maxRecDepth 100000 in
theorem sample_growth.calls (k : Nat) (a0 : Int) (a1 : Int) (r : Int) (w : World) (h : sample_growth.f k a0 a1 = some r) :
    Calls Try.prog 25 #[.int .i64 a0, .int .i64 a1] w fun e w' => e = .returned (.int .i64 r) ∧ Drawn0 w w' := by
  have H : ((fixed_MulDiv.f k (wrap64 (-a0)) a1 1000000000).bind fun bt137 => (some (wrap64 (-bt137.1)))) = some r := h
  clear h
  replace H := Option.bind_eq_some_iff.mp H
  obtain ⟨⟨t137, t138⟩, A30, H⟩ := H
  replace H : (some (wrap64 (-t137))) = some r := H
  have A3 := Aside0.mk A30
  clear A30
  obtain rfl := Option.some.inj H
  go_enter Try.func25, Try.ntmps25
  go_wp2_with (first | ((with_reducible refine gate_callee (f := 32) rfl ?_); refine goesL_ (some 11) rfl rfl Try.func32 (by kernel_rfl) rfl #[.int .i64 (wrap64 (-a0)), .int .i64 a1, .int .i64 1000000000] rfl sl_ ?_; (with_reducible refine (fixed_MulDiv.calls k (wrap64 (-a0)) a1 1000000000 t137 t138 _ A3.out).mono ?_); rintro e w' ⟨rfl, ⟨nd, rfl⟩⟩; refine ⟨_, rfl, ?_⟩))
  go_ret
  exact ⟨by first | rfl | (simp; done) | (simp [*]; done), by repeat (first | exact Drawn0.refl _ | apply Drawn0.step)⟩

end Go.Proofs.Ytkbbjgjbfdpciaa.PAll
