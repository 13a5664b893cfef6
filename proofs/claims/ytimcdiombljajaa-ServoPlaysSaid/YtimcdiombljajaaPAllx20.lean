-- A text of this session, written by a program of its own (wip/tools).
import Derived.Test.YtimcdiombljajaaPAllx0
import Derived.Test.YtimcdiombljajaaPAllx16
import Derived.Test.YtimcdiombljajaaPAllx17
import Derived.Test.YtimcdiombljajaaPAllx18
import Derived.Test.YtimcdiombljajaaPAllx19
namespace Go.Proofs.Ytimcdiombljajaa.PAll
open Go.RowKit Go.Proofs.YtimcdiombljajaaW.PrintWords Go.Proofs.YtimcdiombljajaaW.PrintLast Go.Proofs.YtimcdiombljajaaW.PrintMore
attribute [local go_sem] max2_int min2_int max_two min_two max_three min_three max_four min_four   -- for this text's walks alone
set_option linter.unusedVariables false
set_option linter.unusedSimpArgs false

/-! ### timesyncref01_MulDiv: function 33 -/
def timesyncref01_MulDiv.f (k : Nat) (a0 : Int) (a1 : Int) (a2 : Int) : Option (Int × Bool) := if a2 = 0 then (some (0, false)) else ((timesyncref01_size.f a0).bind fun t119 => ((timesyncref01_size.f a1).bind fun t120 => ((timesyncref01_product.f t119 t120).bind fun bt121 => ((timesyncref01_size.f a2).bind fun t123 => ((timesyncref01_divide.f k bt121.1 bt121.2 t123).bind fun bt124 => (if a0 < 0 then (if a1 < 0 then (if a2 < 0 then (if bt124.2.2 > 0 then (if (IntKind.u64.wrap (bt124.2.1 + 1)) = 0 then ((timesyncref01_signed.f k true (IntKind.u64.wrap (bt124.1 + 1)) (IntKind.u64.wrap (bt124.2.1 + 1))).bind fun bt127 => (some (bt127.1, bt127.2))) else ((timesyncref01_signed.f k true bt124.1 (IntKind.u64.wrap (bt124.2.1 + 1))).bind fun bt129 => (some (bt129.1, bt129.2)))) else ((timesyncref01_signed.f k true bt124.1 bt124.2.1).bind fun bt131 => (some (bt131.1, bt131.2)))) else ((timesyncref01_signed.f k false bt124.1 bt124.2.1).bind fun bt133 => (some (bt133.1, bt133.2)))) else (if a2 < 0 then ((timesyncref01_signed.f k false bt124.1 bt124.2.1).bind fun bt135 => (some (bt135.1, bt135.2))) else (if bt124.2.2 > 0 then (if (IntKind.u64.wrap (bt124.2.1 + 1)) = 0 then ((timesyncref01_signed.f k true (IntKind.u64.wrap (bt124.1 + 1)) (IntKind.u64.wrap (bt124.2.1 + 1))).bind fun bt137 => (some (bt137.1, bt137.2))) else ((timesyncref01_signed.f k true bt124.1 (IntKind.u64.wrap (bt124.2.1 + 1))).bind fun bt139 => (some (bt139.1, bt139.2)))) else ((timesyncref01_signed.f k true bt124.1 bt124.2.1).bind fun bt141 => (some (bt141.1, bt141.2)))))) else (if a1 < 0 then (if a2 < 0 then ((timesyncref01_signed.f k false bt124.1 bt124.2.1).bind fun bt143 => (some (bt143.1, bt143.2))) else (if bt124.2.2 > 0 then (if (IntKind.u64.wrap (bt124.2.1 + 1)) = 0 then ((timesyncref01_signed.f k true (IntKind.u64.wrap (bt124.1 + 1)) (IntKind.u64.wrap (bt124.2.1 + 1))).bind fun bt145 => (some (bt145.1, bt145.2))) else ((timesyncref01_signed.f k true bt124.1 (IntKind.u64.wrap (bt124.2.1 + 1))).bind fun bt147 => (some (bt147.1, bt147.2)))) else ((timesyncref01_signed.f k true bt124.1 bt124.2.1).bind fun bt149 => (some (bt149.1, bt149.2))))) else (if a2 < 0 then (if bt124.2.2 > 0 then (if (IntKind.u64.wrap (bt124.2.1 + 1)) = 0 then ((timesyncref01_signed.f k true (IntKind.u64.wrap (bt124.1 + 1)) (IntKind.u64.wrap (bt124.2.1 + 1))).bind fun bt151 => (some (bt151.1, bt151.2))) else ((timesyncref01_signed.f k true bt124.1 (IntKind.u64.wrap (bt124.2.1 + 1))).bind fun bt153 => (some (bt153.1, bt153.2)))) else ((timesyncref01_signed.f k true bt124.1 bt124.2.1).bind fun bt155 => (some (bt155.1, bt155.2)))) else ((timesyncref01_signed.f k false bt124.1 bt124.2.1).bind fun bt157 => (some (bt157.1, bt157.2)))))))))))
theorem timesyncref01_MulDiv.mono : ∀ a0 a1 a2 k, LeO (timesyncref01_MulDiv.f k a0 a1 a2) (timesyncref01_MulDiv.f (k + 1) a0 a1 a2) := by
  intro a0 a1 a2 k
  unfold timesyncref01_MulDiv.f
  repeat' first
      | (with_reducible exact timesyncref01_divide.mono _ _ _ _)
      | (with_reducible exact timesyncref01_signed.mono _ _ _ _)
      | (with_reducible exact LeO.refl _)
      | (with_reducible exact LeO.none _)
      | (with_reducible refine LeO.ite ?_ ?_)
      | (with_reducible refine LeO.bind ?_ (fun _ => ?_))
      | exact timesyncref01_divide.mono _ _ _ _
      | exact timesyncref01_signed.mono _ _ _ _
      | exact LeO.none _
      | refine LeO.ite ?_ ?_
      | refine LeO.bind ?_ (fun _ => ?_)
set_option maxHeartbeats 8000000 in
set_option maxRecDepth 100000 in
theorem timesyncref01_MulDiv.calls (k : Nat) (a0 : Int) (a1 : Int) (a2 : Int) (r1 : Int) (r2 : Bool) (w : World) (h : timesyncref01_MulDiv.f k a0 a1 a2 = some (r1, r2)) :
    Calls Try.prog 33 #[.int .i64 a0, .int .i64 a1, .int .i64 a2] w fun e w' => e = .returned (.tuple #[.int .i64 r1, .bool r2]) ∧ Drawn0 w w' := by
  have H : (if a2 = 0 then (some (0, false)) else ((timesyncref01_size.f a0).bind fun t119 => ((timesyncref01_size.f a1).bind fun t120 => ((timesyncref01_product.f t119 t120).bind fun bt121 => ((timesyncref01_size.f a2).bind fun t123 => ((timesyncref01_divide.f k bt121.1 bt121.2 t123).bind fun bt124 => (if a0 < 0 then (if a1 < 0 then (if a2 < 0 then (if bt124.2.2 > 0 then (if (IntKind.u64.wrap (bt124.2.1 + 1)) = 0 then ((timesyncref01_signed.f k true (IntKind.u64.wrap (bt124.1 + 1)) (IntKind.u64.wrap (bt124.2.1 + 1))).bind fun bt127 => (some (bt127.1, bt127.2))) else ((timesyncref01_signed.f k true bt124.1 (IntKind.u64.wrap (bt124.2.1 + 1))).bind fun bt129 => (some (bt129.1, bt129.2)))) else ((timesyncref01_signed.f k true bt124.1 bt124.2.1).bind fun bt131 => (some (bt131.1, bt131.2)))) else ((timesyncref01_signed.f k false bt124.1 bt124.2.1).bind fun bt133 => (some (bt133.1, bt133.2)))) else (if a2 < 0 then ((timesyncref01_signed.f k false bt124.1 bt124.2.1).bind fun bt135 => (some (bt135.1, bt135.2))) else (if bt124.2.2 > 0 then (if (IntKind.u64.wrap (bt124.2.1 + 1)) = 0 then ((timesyncref01_signed.f k true (IntKind.u64.wrap (bt124.1 + 1)) (IntKind.u64.wrap (bt124.2.1 + 1))).bind fun bt137 => (some (bt137.1, bt137.2))) else ((timesyncref01_signed.f k true bt124.1 (IntKind.u64.wrap (bt124.2.1 + 1))).bind fun bt139 => (some (bt139.1, bt139.2)))) else ((timesyncref01_signed.f k true bt124.1 bt124.2.1).bind fun bt141 => (some (bt141.1, bt141.2)))))) else (if a1 < 0 then (if a2 < 0 then ((timesyncref01_signed.f k false bt124.1 bt124.2.1).bind fun bt143 => (some (bt143.1, bt143.2))) else (if bt124.2.2 > 0 then (if (IntKind.u64.wrap (bt124.2.1 + 1)) = 0 then ((timesyncref01_signed.f k true (IntKind.u64.wrap (bt124.1 + 1)) (IntKind.u64.wrap (bt124.2.1 + 1))).bind fun bt145 => (some (bt145.1, bt145.2))) else ((timesyncref01_signed.f k true bt124.1 (IntKind.u64.wrap (bt124.2.1 + 1))).bind fun bt147 => (some (bt147.1, bt147.2)))) else ((timesyncref01_signed.f k true bt124.1 bt124.2.1).bind fun bt149 => (some (bt149.1, bt149.2))))) else (if a2 < 0 then (if bt124.2.2 > 0 then (if (IntKind.u64.wrap (bt124.2.1 + 1)) = 0 then ((timesyncref01_signed.f k true (IntKind.u64.wrap (bt124.1 + 1)) (IntKind.u64.wrap (bt124.2.1 + 1))).bind fun bt151 => (some (bt151.1, bt151.2))) else ((timesyncref01_signed.f k true bt124.1 (IntKind.u64.wrap (bt124.2.1 + 1))).bind fun bt153 => (some (bt153.1, bt153.2)))) else ((timesyncref01_signed.f k true bt124.1 bt124.2.1).bind fun bt155 => (some (bt155.1, bt155.2)))) else ((timesyncref01_signed.f k false bt124.1 bt124.2.1).bind fun bt157 => (some (bt157.1, bt157.2)))))))))))) = some (r1, r2) := h
  clear h
  by_cases c4 : a2 = 0
  · rw [if_pos c4] at H
    have c4b0 : (a2 == 0) = true := beq_iff_eq.mpr c4
    have c4b1 : (a2 != 0) = false := bne_eq_false_iff_eq.mpr c4
    clear c4
    simp only [Option.some.injEq, Prod.mk.injEq] at H
    obtain ⟨rfl, rfl⟩ := H
    go_enter Try.func33, Try.ntmps33
    go_wp2
    go_ret2
    exact ⟨by first | rfl | (simp; done) | (simp [*]; done), by repeat (first | exact Drawn0.refl _ | apply Drawn0.step)⟩
  · rw [if_neg c4] at H
    have c4b0 : (a2 == 0) = false := beq_eq_false_iff_ne.mpr c4
    have c4b1 : (a2 != 0) = true := bne_iff_ne.mpr c4
    replace H := Option.bind_eq_some_iff.mp H
    obtain ⟨t119, A50, H⟩ := H
    replace H : ((timesyncref01_size.f a1).bind fun t120 => ((timesyncref01_product.f t119 t120).bind fun bt121 => ((timesyncref01_size.f a2).bind fun t123 => ((timesyncref01_divide.f k bt121.1 bt121.2 t123).bind fun bt124 => (if a0 < 0 then (if a1 < 0 then (if a2 < 0 then (if bt124.2.2 > 0 then (if (IntKind.u64.wrap (bt124.2.1 + 1)) = 0 then ((timesyncref01_signed.f k true (IntKind.u64.wrap (bt124.1 + 1)) (IntKind.u64.wrap (bt124.2.1 + 1))).bind fun bt127 => (some (bt127.1, bt127.2))) else ((timesyncref01_signed.f k true bt124.1 (IntKind.u64.wrap (bt124.2.1 + 1))).bind fun bt129 => (some (bt129.1, bt129.2)))) else ((timesyncref01_signed.f k true bt124.1 bt124.2.1).bind fun bt131 => (some (bt131.1, bt131.2)))) else ((timesyncref01_signed.f k false bt124.1 bt124.2.1).bind fun bt133 => (some (bt133.1, bt133.2)))) else (if a2 < 0 then ((timesyncref01_signed.f k false bt124.1 bt124.2.1).bind fun bt135 => (some (bt135.1, bt135.2))) else (if bt124.2.2 > 0 then (if (IntKind.u64.wrap (bt124.2.1 + 1)) = 0 then ((timesyncref01_signed.f k true (IntKind.u64.wrap (bt124.1 + 1)) (IntKind.u64.wrap (bt124.2.1 + 1))).bind fun bt137 => (some (bt137.1, bt137.2))) else ((timesyncref01_signed.f k true bt124.1 (IntKind.u64.wrap (bt124.2.1 + 1))).bind fun bt139 => (some (bt139.1, bt139.2)))) else ((timesyncref01_signed.f k true bt124.1 bt124.2.1).bind fun bt141 => (some (bt141.1, bt141.2)))))) else (if a1 < 0 then (if a2 < 0 then ((timesyncref01_signed.f k false bt124.1 bt124.2.1).bind fun bt143 => (some (bt143.1, bt143.2))) else (if bt124.2.2 > 0 then (if (IntKind.u64.wrap (bt124.2.1 + 1)) = 0 then ((timesyncref01_signed.f k true (IntKind.u64.wrap (bt124.1 + 1)) (IntKind.u64.wrap (bt124.2.1 + 1))).bind fun bt145 => (some (bt145.1, bt145.2))) else ((timesyncref01_signed.f k true bt124.1 (IntKind.u64.wrap (bt124.2.1 + 1))).bind fun bt147 => (some (bt147.1, bt147.2)))) else ((timesyncref01_signed.f k true bt124.1 bt124.2.1).bind fun bt149 => (some (bt149.1, bt149.2))))) else (if a2 < 0 then (if bt124.2.2 > 0 then (if (IntKind.u64.wrap (bt124.2.1 + 1)) = 0 then ((timesyncref01_signed.f k true (IntKind.u64.wrap (bt124.1 + 1)) (IntKind.u64.wrap (bt124.2.1 + 1))).bind fun bt151 => (some (bt151.1, bt151.2))) else ((timesyncref01_signed.f k true bt124.1 (IntKind.u64.wrap (bt124.2.1 + 1))).bind fun bt153 => (some (bt153.1, bt153.2)))) else ((timesyncref01_signed.f k true bt124.1 bt124.2.1).bind fun bt155 => (some (bt155.1, bt155.2)))) else ((timesyncref01_signed.f k false bt124.1 bt124.2.1).bind fun bt157 => (some (bt157.1, bt157.2)))))))))) = some (r1, r2) := H
    have A5 := Aside0.mk A50
    clear A50
    replace H := Option.bind_eq_some_iff.mp H
    obtain ⟨t120, A60, H⟩ := H
    replace H : ((timesyncref01_product.f t119 t120).bind fun bt121 => ((timesyncref01_size.f a2).bind fun t123 => ((timesyncref01_divide.f k bt121.1 bt121.2 t123).bind fun bt124 => (if a0 < 0 then (if a1 < 0 then (if a2 < 0 then (if bt124.2.2 > 0 then (if (IntKind.u64.wrap (bt124.2.1 + 1)) = 0 then ((timesyncref01_signed.f k true (IntKind.u64.wrap (bt124.1 + 1)) (IntKind.u64.wrap (bt124.2.1 + 1))).bind fun bt127 => (some (bt127.1, bt127.2))) else ((timesyncref01_signed.f k true bt124.1 (IntKind.u64.wrap (bt124.2.1 + 1))).bind fun bt129 => (some (bt129.1, bt129.2)))) else ((timesyncref01_signed.f k true bt124.1 bt124.2.1).bind fun bt131 => (some (bt131.1, bt131.2)))) else ((timesyncref01_signed.f k false bt124.1 bt124.2.1).bind fun bt133 => (some (bt133.1, bt133.2)))) else (if a2 < 0 then ((timesyncref01_signed.f k false bt124.1 bt124.2.1).bind fun bt135 => (some (bt135.1, bt135.2))) else (if bt124.2.2 > 0 then (if (IntKind.u64.wrap (bt124.2.1 + 1)) = 0 then ((timesyncref01_signed.f k true (IntKind.u64.wrap (bt124.1 + 1)) (IntKind.u64.wrap (bt124.2.1 + 1))).bind fun bt137 => (some (bt137.1, bt137.2))) else ((timesyncref01_signed.f k true bt124.1 (IntKind.u64.wrap (bt124.2.1 + 1))).bind fun bt139 => (some (bt139.1, bt139.2)))) else ((timesyncref01_signed.f k true bt124.1 bt124.2.1).bind fun bt141 => (some (bt141.1, bt141.2)))))) else (if a1 < 0 then (if a2 < 0 then ((timesyncref01_signed.f k false bt124.1 bt124.2.1).bind fun bt143 => (some (bt143.1, bt143.2))) else (if bt124.2.2 > 0 then (if (IntKind.u64.wrap (bt124.2.1 + 1)) = 0 then ((timesyncref01_signed.f k true (IntKind.u64.wrap (bt124.1 + 1)) (IntKind.u64.wrap (bt124.2.1 + 1))).bind fun bt145 => (some (bt145.1, bt145.2))) else ((timesyncref01_signed.f k true bt124.1 (IntKind.u64.wrap (bt124.2.1 + 1))).bind fun bt147 => (some (bt147.1, bt147.2)))) else ((timesyncref01_signed.f k true bt124.1 bt124.2.1).bind fun bt149 => (some (bt149.1, bt149.2))))) else (if a2 < 0 then (if bt124.2.2 > 0 then (if (IntKind.u64.wrap (bt124.2.1 + 1)) = 0 then ((timesyncref01_signed.f k true (IntKind.u64.wrap (bt124.1 + 1)) (IntKind.u64.wrap (bt124.2.1 + 1))).bind fun bt151 => (some (bt151.1, bt151.2))) else ((timesyncref01_signed.f k true bt124.1 (IntKind.u64.wrap (bt124.2.1 + 1))).bind fun bt153 => (some (bt153.1, bt153.2)))) else ((timesyncref01_signed.f k true bt124.1 bt124.2.1).bind fun bt155 => (some (bt155.1, bt155.2)))) else ((timesyncref01_signed.f k false bt124.1 bt124.2.1).bind fun bt157 => (some (bt157.1, bt157.2))))))))) = some (r1, r2) := H
    have A6 := Aside0.mk A60
    clear A60
    replace H := Option.bind_eq_some_iff.mp H
    obtain ⟨⟨t121, t122⟩, A70, H⟩ := H
    replace H : ((timesyncref01_size.f a2).bind fun t123 => ((timesyncref01_divide.f k t121 t122 t123).bind fun bt124 => (if a0 < 0 then (if a1 < 0 then (if a2 < 0 then (if bt124.2.2 > 0 then (if (IntKind.u64.wrap (bt124.2.1 + 1)) = 0 then ((timesyncref01_signed.f k true (IntKind.u64.wrap (bt124.1 + 1)) (IntKind.u64.wrap (bt124.2.1 + 1))).bind fun bt127 => (some (bt127.1, bt127.2))) else ((timesyncref01_signed.f k true bt124.1 (IntKind.u64.wrap (bt124.2.1 + 1))).bind fun bt129 => (some (bt129.1, bt129.2)))) else ((timesyncref01_signed.f k true bt124.1 bt124.2.1).bind fun bt131 => (some (bt131.1, bt131.2)))) else ((timesyncref01_signed.f k false bt124.1 bt124.2.1).bind fun bt133 => (some (bt133.1, bt133.2)))) else (if a2 < 0 then ((timesyncref01_signed.f k false bt124.1 bt124.2.1).bind fun bt135 => (some (bt135.1, bt135.2))) else (if bt124.2.2 > 0 then (if (IntKind.u64.wrap (bt124.2.1 + 1)) = 0 then ((timesyncref01_signed.f k true (IntKind.u64.wrap (bt124.1 + 1)) (IntKind.u64.wrap (bt124.2.1 + 1))).bind fun bt137 => (some (bt137.1, bt137.2))) else ((timesyncref01_signed.f k true bt124.1 (IntKind.u64.wrap (bt124.2.1 + 1))).bind fun bt139 => (some (bt139.1, bt139.2)))) else ((timesyncref01_signed.f k true bt124.1 bt124.2.1).bind fun bt141 => (some (bt141.1, bt141.2)))))) else (if a1 < 0 then (if a2 < 0 then ((timesyncref01_signed.f k false bt124.1 bt124.2.1).bind fun bt143 => (some (bt143.1, bt143.2))) else (if bt124.2.2 > 0 then (if (IntKind.u64.wrap (bt124.2.1 + 1)) = 0 then ((timesyncref01_signed.f k true (IntKind.u64.wrap (bt124.1 + 1)) (IntKind.u64.wrap (bt124.2.1 + 1))).bind fun bt145 => (some (bt145.1, bt145.2))) else ((timesyncref01_signed.f k true bt124.1 (IntKind.u64.wrap (bt124.2.1 + 1))).bind fun bt147 => (some (bt147.1, bt147.2)))) else ((timesyncref01_signed.f k true bt124.1 bt124.2.1).bind fun bt149 => (some (bt149.1, bt149.2))))) else (if a2 < 0 then (if bt124.2.2 > 0 then (if (IntKind.u64.wrap (bt124.2.1 + 1)) = 0 then ((timesyncref01_signed.f k true (IntKind.u64.wrap (bt124.1 + 1)) (IntKind.u64.wrap (bt124.2.1 + 1))).bind fun bt151 => (some (bt151.1, bt151.2))) else ((timesyncref01_signed.f k true bt124.1 (IntKind.u64.wrap (bt124.2.1 + 1))).bind fun bt153 => (some (bt153.1, bt153.2)))) else ((timesyncref01_signed.f k true bt124.1 bt124.2.1).bind fun bt155 => (some (bt155.1, bt155.2)))) else ((timesyncref01_signed.f k false bt124.1 bt124.2.1).bind fun bt157 => (some (bt157.1, bt157.2)))))))) = some (r1, r2) := H
    have A7 := Aside0.mk A70
    clear A70
    replace H := Option.bind_eq_some_iff.mp H
    obtain ⟨t123, A80, H⟩ := H
    replace H : ((timesyncref01_divide.f k t121 t122 t123).bind fun bt124 => (if a0 < 0 then (if a1 < 0 then (if a2 < 0 then (if bt124.2.2 > 0 then (if (IntKind.u64.wrap (bt124.2.1 + 1)) = 0 then ((timesyncref01_signed.f k true (IntKind.u64.wrap (bt124.1 + 1)) (IntKind.u64.wrap (bt124.2.1 + 1))).bind fun bt127 => (some (bt127.1, bt127.2))) else ((timesyncref01_signed.f k true bt124.1 (IntKind.u64.wrap (bt124.2.1 + 1))).bind fun bt129 => (some (bt129.1, bt129.2)))) else ((timesyncref01_signed.f k true bt124.1 bt124.2.1).bind fun bt131 => (some (bt131.1, bt131.2)))) else ((timesyncref01_signed.f k false bt124.1 bt124.2.1).bind fun bt133 => (some (bt133.1, bt133.2)))) else (if a2 < 0 then ((timesyncref01_signed.f k false bt124.1 bt124.2.1).bind fun bt135 => (some (bt135.1, bt135.2))) else (if bt124.2.2 > 0 then (if (IntKind.u64.wrap (bt124.2.1 + 1)) = 0 then ((timesyncref01_signed.f k true (IntKind.u64.wrap (bt124.1 + 1)) (IntKind.u64.wrap (bt124.2.1 + 1))).bind fun bt137 => (some (bt137.1, bt137.2))) else ((timesyncref01_signed.f k true bt124.1 (IntKind.u64.wrap (bt124.2.1 + 1))).bind fun bt139 => (some (bt139.1, bt139.2)))) else ((timesyncref01_signed.f k true bt124.1 bt124.2.1).bind fun bt141 => (some (bt141.1, bt141.2)))))) else (if a1 < 0 then (if a2 < 0 then ((timesyncref01_signed.f k false bt124.1 bt124.2.1).bind fun bt143 => (some (bt143.1, bt143.2))) else (if bt124.2.2 > 0 then (if (IntKind.u64.wrap (bt124.2.1 + 1)) = 0 then ((timesyncref01_signed.f k true (IntKind.u64.wrap (bt124.1 + 1)) (IntKind.u64.wrap (bt124.2.1 + 1))).bind fun bt145 => (some (bt145.1, bt145.2))) else ((timesyncref01_signed.f k true bt124.1 (IntKind.u64.wrap (bt124.2.1 + 1))).bind fun bt147 => (some (bt147.1, bt147.2)))) else ((timesyncref01_signed.f k true bt124.1 bt124.2.1).bind fun bt149 => (some (bt149.1, bt149.2))))) else (if a2 < 0 then (if bt124.2.2 > 0 then (if (IntKind.u64.wrap (bt124.2.1 + 1)) = 0 then ((timesyncref01_signed.f k true (IntKind.u64.wrap (bt124.1 + 1)) (IntKind.u64.wrap (bt124.2.1 + 1))).bind fun bt151 => (some (bt151.1, bt151.2))) else ((timesyncref01_signed.f k true bt124.1 (IntKind.u64.wrap (bt124.2.1 + 1))).bind fun bt153 => (some (bt153.1, bt153.2)))) else ((timesyncref01_signed.f k true bt124.1 bt124.2.1).bind fun bt155 => (some (bt155.1, bt155.2)))) else ((timesyncref01_signed.f k false bt124.1 bt124.2.1).bind fun bt157 => (some (bt157.1, bt157.2))))))) = some (r1, r2) := H
    have A8 := Aside0.mk A80
    clear A80
    replace H := Option.bind_eq_some_iff.mp H
    obtain ⟨⟨t124, t125, t126⟩, A90, H⟩ := H
    replace H : (if a0 < 0 then (if a1 < 0 then (if a2 < 0 then (if t126 > 0 then (if (IntKind.u64.wrap (t125 + 1)) = 0 then ((timesyncref01_signed.f k true (IntKind.u64.wrap (t124 + 1)) (IntKind.u64.wrap (t125 + 1))).bind fun bt127 => (some (bt127.1, bt127.2))) else ((timesyncref01_signed.f k true t124 (IntKind.u64.wrap (t125 + 1))).bind fun bt129 => (some (bt129.1, bt129.2)))) else ((timesyncref01_signed.f k true t124 t125).bind fun bt131 => (some (bt131.1, bt131.2)))) else ((timesyncref01_signed.f k false t124 t125).bind fun bt133 => (some (bt133.1, bt133.2)))) else (if a2 < 0 then ((timesyncref01_signed.f k false t124 t125).bind fun bt135 => (some (bt135.1, bt135.2))) else (if t126 > 0 then (if (IntKind.u64.wrap (t125 + 1)) = 0 then ((timesyncref01_signed.f k true (IntKind.u64.wrap (t124 + 1)) (IntKind.u64.wrap (t125 + 1))).bind fun bt137 => (some (bt137.1, bt137.2))) else ((timesyncref01_signed.f k true t124 (IntKind.u64.wrap (t125 + 1))).bind fun bt139 => (some (bt139.1, bt139.2)))) else ((timesyncref01_signed.f k true t124 t125).bind fun bt141 => (some (bt141.1, bt141.2)))))) else (if a1 < 0 then (if a2 < 0 then ((timesyncref01_signed.f k false t124 t125).bind fun bt143 => (some (bt143.1, bt143.2))) else (if t126 > 0 then (if (IntKind.u64.wrap (t125 + 1)) = 0 then ((timesyncref01_signed.f k true (IntKind.u64.wrap (t124 + 1)) (IntKind.u64.wrap (t125 + 1))).bind fun bt145 => (some (bt145.1, bt145.2))) else ((timesyncref01_signed.f k true t124 (IntKind.u64.wrap (t125 + 1))).bind fun bt147 => (some (bt147.1, bt147.2)))) else ((timesyncref01_signed.f k true t124 t125).bind fun bt149 => (some (bt149.1, bt149.2))))) else (if a2 < 0 then (if t126 > 0 then (if (IntKind.u64.wrap (t125 + 1)) = 0 then ((timesyncref01_signed.f k true (IntKind.u64.wrap (t124 + 1)) (IntKind.u64.wrap (t125 + 1))).bind fun bt151 => (some (bt151.1, bt151.2))) else ((timesyncref01_signed.f k true t124 (IntKind.u64.wrap (t125 + 1))).bind fun bt153 => (some (bt153.1, bt153.2)))) else ((timesyncref01_signed.f k true t124 t125).bind fun bt155 => (some (bt155.1, bt155.2)))) else ((timesyncref01_signed.f k false t124 t125).bind fun bt157 => (some (bt157.1, bt157.2)))))) = some (r1, r2) := H
    have A9 := Aside0.mk A90
    clear A90
    by_cases c10 : a0 < 0
    · rw [if_pos c10] at H
      have c10b0 : decide (a0 < 0) = true := decide_eq_true c10
      clear c10
      by_cases c11 : a1 < 0
      · rw [if_pos c11] at H
        have c11b0 : decide (a1 < 0) = true := decide_eq_true c11
        clear c11
        by_cases c12 : a2 < 0
        · rw [if_pos c12] at H
          have c12b0 : decide (a2 < 0) = true := decide_eq_true c12
          clear c12
          by_cases c13 : t126 > 0
          · rw [if_pos c13] at H
            have c13b0 : decide (0 < t126) = true := decide_eq_true c13
            clear c13
            by_cases c14 : (IntKind.u64.wrap (t125 + 1)) = 0
            · rw [if_pos c14] at H
              have c14b0 : ((IntKind.u64.wrap (t125 + 1)) == 0) = true := beq_iff_eq.mpr c14
              have c14b1 : ((IntKind.u64.wrap (t125 + 1)) != 0) = false := bne_eq_false_iff_eq.mpr c14
              clear c14
              replace H := Option.bind_eq_some_iff.mp H
              obtain ⟨⟨t127, t128⟩, A150, H⟩ := H
              replace H : (some (t127, t128)) = some (r1, r2) := H
              have A15 := Aside0.mk A150
              clear A150
              simp only [Option.some.injEq, Prod.mk.injEq] at H
              obtain ⟨rfl, rfl⟩ := H
              go_enter Try.func33, Try.ntmps33
              go_wp2_with (first | ((with_reducible refine gate_callee (f := 40) rfl ?_); refine goesL_ (some 18) rfl rfl Try.func40 (by kernel_rfl) rfl #[.int .i64 a0] rfl sl_ ?_; (with_reducible refine (timesyncref01_size.calls a0 t119 _ A5.out).mono ?_); rintro e w' ⟨rfl, ⟨nd, rfl⟩⟩; refine ⟨_, rfl, ?_⟩) | ((with_reducible refine gate_callee (f := 40) rfl ?_); refine goesL_ (some 20) rfl rfl Try.func40 (by kernel_rfl) rfl #[.int .i64 a1] rfl sl_ ?_; (with_reducible refine (timesyncref01_size.calls a1 t120 _ A6.out).mono ?_); rintro e w' ⟨rfl, ⟨nd, rfl⟩⟩; refine ⟨_, rfl, ?_⟩) | ((with_reducible refine gate_callee (f := 39) rfl ?_); refine goesL_ (some 21) rfl rfl Try.func39 (by kernel_rfl) rfl #[.int .u64 t119, .int .u64 t120] rfl sl_ ?_; (with_reducible refine (timesyncref01_product.calls t119 t120 t121 t122 _ A7.out).mono ?_); rintro e w' ⟨rfl, ⟨nd, rfl⟩⟩; refine ⟨_, rfl, ?_⟩) | ((with_reducible refine gate_callee (f := 40) rfl ?_); refine goesL_ (some 28) rfl rfl Try.func40 (by kernel_rfl) rfl #[.int .i64 a2] rfl sl_ ?_; (with_reducible refine (timesyncref01_size.calls a2 t123 _ A8.out).mono ?_); rintro e w' ⟨rfl, ⟨nd, rfl⟩⟩; refine ⟨_, rfl, ?_⟩) | ((with_reducible refine gate_callee (f := 41) rfl ?_); refine goesL_ (some 29) rfl rfl Try.func41 (by kernel_rfl) rfl #[.int .u64 t121, .int .u64 t122, .int .u64 t123] rfl sl_ ?_; (with_reducible refine (timesyncref01_divide.calls k t121 t122 t123 t124 t125 t126 _ A9.out).mono ?_); rintro e w' ⟨rfl, ⟨nd, rfl⟩⟩; refine ⟨_, rfl, ?_⟩) | ((with_reducible refine gate_callee (f := 42) rfl ?_); refine goesL_ (some 55) rfl rfl Try.func42 (by kernel_rfl) rfl #[.bool true, .int .u64 (IntKind.u64.wrap (t124 + 1)), .int .u64 (IntKind.u64.wrap (t125 + 1))] rfl sl_ ?_; (with_reducible refine (timesyncref01_signed.calls k true (IntKind.u64.wrap (t124 + 1)) (IntKind.u64.wrap (t125 + 1)) t127 t128 _ A15.out).mono ?_); rintro e w' ⟨rfl, ⟨nd, rfl⟩⟩; refine ⟨_, rfl, ?_⟩))
              go_ret2
              exact ⟨by first | rfl | (simp; done) | (simp [*]; done), by repeat (first | exact Drawn0.refl _ | apply Drawn0.step)⟩
            · rw [if_neg c14] at H
              have c14b0 : ((IntKind.u64.wrap (t125 + 1)) == 0) = false := beq_eq_false_iff_ne.mpr c14
              have c14b1 : ((IntKind.u64.wrap (t125 + 1)) != 0) = true := bne_iff_ne.mpr c14
              replace H := Option.bind_eq_some_iff.mp H
              obtain ⟨⟨t129, t130⟩, A160, H⟩ := H
              replace H : (some (t129, t130)) = some (r1, r2) := H
              have A16 := Aside0.mk A160
              clear A160
              simp only [Option.some.injEq, Prod.mk.injEq] at H
              obtain ⟨rfl, rfl⟩ := H
              go_enter Try.func33, Try.ntmps33
              go_wp2_with (first | ((with_reducible refine gate_callee (f := 40) rfl ?_); refine goesL_ (some 18) rfl rfl Try.func40 (by kernel_rfl) rfl #[.int .i64 a0] rfl sl_ ?_; (with_reducible refine (timesyncref01_size.calls a0 t119 _ A5.out).mono ?_); rintro e w' ⟨rfl, ⟨nd, rfl⟩⟩; refine ⟨_, rfl, ?_⟩) | ((with_reducible refine gate_callee (f := 40) rfl ?_); refine goesL_ (some 20) rfl rfl Try.func40 (by kernel_rfl) rfl #[.int .i64 a1] rfl sl_ ?_; (with_reducible refine (timesyncref01_size.calls a1 t120 _ A6.out).mono ?_); rintro e w' ⟨rfl, ⟨nd, rfl⟩⟩; refine ⟨_, rfl, ?_⟩) | ((with_reducible refine gate_callee (f := 39) rfl ?_); refine goesL_ (some 21) rfl rfl Try.func39 (by kernel_rfl) rfl #[.int .u64 t119, .int .u64 t120] rfl sl_ ?_; (with_reducible refine (timesyncref01_product.calls t119 t120 t121 t122 _ A7.out).mono ?_); rintro e w' ⟨rfl, ⟨nd, rfl⟩⟩; refine ⟨_, rfl, ?_⟩) | ((with_reducible refine gate_callee (f := 40) rfl ?_); refine goesL_ (some 28) rfl rfl Try.func40 (by kernel_rfl) rfl #[.int .i64 a2] rfl sl_ ?_; (with_reducible refine (timesyncref01_size.calls a2 t123 _ A8.out).mono ?_); rintro e w' ⟨rfl, ⟨nd, rfl⟩⟩; refine ⟨_, rfl, ?_⟩) | ((with_reducible refine gate_callee (f := 41) rfl ?_); refine goesL_ (some 29) rfl rfl Try.func41 (by kernel_rfl) rfl #[.int .u64 t121, .int .u64 t122, .int .u64 t123] rfl sl_ ?_; (with_reducible refine (timesyncref01_divide.calls k t121 t122 t123 t124 t125 t126 _ A9.out).mono ?_); rintro e w' ⟨rfl, ⟨nd, rfl⟩⟩; refine ⟨_, rfl, ?_⟩) | ((with_reducible refine gate_callee (f := 42) rfl ?_); refine goesL_ (some 55) rfl rfl Try.func42 (by kernel_rfl) rfl #[.bool true, .int .u64 t124, .int .u64 (IntKind.u64.wrap (t125 + 1))] rfl sl_ ?_; (with_reducible refine (timesyncref01_signed.calls k true t124 (IntKind.u64.wrap (t125 + 1)) t129 t130 _ A16.out).mono ?_); rintro e w' ⟨rfl, ⟨nd, rfl⟩⟩; refine ⟨_, rfl, ?_⟩))
              go_ret2
              exact ⟨by first | rfl | (simp; done) | (simp [*]; done), by repeat (first | exact Drawn0.refl _ | apply Drawn0.step)⟩
          · rw [if_neg c13] at H
            have c13b0 : decide (0 < t126) = false := decide_eq_false c13
            clear c13
            replace H := Option.bind_eq_some_iff.mp H
            obtain ⟨⟨t131, t132⟩, A170, H⟩ := H
            replace H : (some (t131, t132)) = some (r1, r2) := H
            have A17 := Aside0.mk A170
            clear A170
            simp only [Option.some.injEq, Prod.mk.injEq] at H
            obtain ⟨rfl, rfl⟩ := H
            go_enter Try.func33, Try.ntmps33
            go_wp2_with (first | ((with_reducible refine gate_callee (f := 40) rfl ?_); refine goesL_ (some 18) rfl rfl Try.func40 (by kernel_rfl) rfl #[.int .i64 a0] rfl sl_ ?_; (with_reducible refine (timesyncref01_size.calls a0 t119 _ A5.out).mono ?_); rintro e w' ⟨rfl, ⟨nd, rfl⟩⟩; refine ⟨_, rfl, ?_⟩) | ((with_reducible refine gate_callee (f := 40) rfl ?_); refine goesL_ (some 20) rfl rfl Try.func40 (by kernel_rfl) rfl #[.int .i64 a1] rfl sl_ ?_; (with_reducible refine (timesyncref01_size.calls a1 t120 _ A6.out).mono ?_); rintro e w' ⟨rfl, ⟨nd, rfl⟩⟩; refine ⟨_, rfl, ?_⟩) | ((with_reducible refine gate_callee (f := 39) rfl ?_); refine goesL_ (some 21) rfl rfl Try.func39 (by kernel_rfl) rfl #[.int .u64 t119, .int .u64 t120] rfl sl_ ?_; (with_reducible refine (timesyncref01_product.calls t119 t120 t121 t122 _ A7.out).mono ?_); rintro e w' ⟨rfl, ⟨nd, rfl⟩⟩; refine ⟨_, rfl, ?_⟩) | ((with_reducible refine gate_callee (f := 40) rfl ?_); refine goesL_ (some 28) rfl rfl Try.func40 (by kernel_rfl) rfl #[.int .i64 a2] rfl sl_ ?_; (with_reducible refine (timesyncref01_size.calls a2 t123 _ A8.out).mono ?_); rintro e w' ⟨rfl, ⟨nd, rfl⟩⟩; refine ⟨_, rfl, ?_⟩) | ((with_reducible refine gate_callee (f := 41) rfl ?_); refine goesL_ (some 29) rfl rfl Try.func41 (by kernel_rfl) rfl #[.int .u64 t121, .int .u64 t122, .int .u64 t123] rfl sl_ ?_; (with_reducible refine (timesyncref01_divide.calls k t121 t122 t123 t124 t125 t126 _ A9.out).mono ?_); rintro e w' ⟨rfl, ⟨nd, rfl⟩⟩; refine ⟨_, rfl, ?_⟩) | ((with_reducible refine gate_callee (f := 42) rfl ?_); refine goesL_ (some 55) rfl rfl Try.func42 (by kernel_rfl) rfl #[.bool true, .int .u64 t124, .int .u64 t125] rfl sl_ ?_; (with_reducible refine (timesyncref01_signed.calls k true t124 t125 t131 t132 _ A17.out).mono ?_); rintro e w' ⟨rfl, ⟨nd, rfl⟩⟩; refine ⟨_, rfl, ?_⟩))
            go_ret2
            exact ⟨by first | rfl | (simp; done) | (simp [*]; done), by repeat (first | exact Drawn0.refl _ | apply Drawn0.step)⟩
        · rw [if_neg c12] at H
          have c12b0 : decide (a2 < 0) = false := decide_eq_false c12
          clear c12
          replace H := Option.bind_eq_some_iff.mp H
          obtain ⟨⟨t133, t134⟩, A180, H⟩ := H
          replace H : (some (t133, t134)) = some (r1, r2) := H
          have A18 := Aside0.mk A180
          clear A180
          simp only [Option.some.injEq, Prod.mk.injEq] at H
          obtain ⟨rfl, rfl⟩ := H
          go_enter Try.func33, Try.ntmps33
          go_wp2_with (first | ((with_reducible refine gate_callee (f := 40) rfl ?_); refine goesL_ (some 18) rfl rfl Try.func40 (by kernel_rfl) rfl #[.int .i64 a0] rfl sl_ ?_; (with_reducible refine (timesyncref01_size.calls a0 t119 _ A5.out).mono ?_); rintro e w' ⟨rfl, ⟨nd, rfl⟩⟩; refine ⟨_, rfl, ?_⟩) | ((with_reducible refine gate_callee (f := 40) rfl ?_); refine goesL_ (some 20) rfl rfl Try.func40 (by kernel_rfl) rfl #[.int .i64 a1] rfl sl_ ?_; (with_reducible refine (timesyncref01_size.calls a1 t120 _ A6.out).mono ?_); rintro e w' ⟨rfl, ⟨nd, rfl⟩⟩; refine ⟨_, rfl, ?_⟩) | ((with_reducible refine gate_callee (f := 39) rfl ?_); refine goesL_ (some 21) rfl rfl Try.func39 (by kernel_rfl) rfl #[.int .u64 t119, .int .u64 t120] rfl sl_ ?_; (with_reducible refine (timesyncref01_product.calls t119 t120 t121 t122 _ A7.out).mono ?_); rintro e w' ⟨rfl, ⟨nd, rfl⟩⟩; refine ⟨_, rfl, ?_⟩) | ((with_reducible refine gate_callee (f := 40) rfl ?_); refine goesL_ (some 28) rfl rfl Try.func40 (by kernel_rfl) rfl #[.int .i64 a2] rfl sl_ ?_; (with_reducible refine (timesyncref01_size.calls a2 t123 _ A8.out).mono ?_); rintro e w' ⟨rfl, ⟨nd, rfl⟩⟩; refine ⟨_, rfl, ?_⟩) | ((with_reducible refine gate_callee (f := 41) rfl ?_); refine goesL_ (some 29) rfl rfl Try.func41 (by kernel_rfl) rfl #[.int .u64 t121, .int .u64 t122, .int .u64 t123] rfl sl_ ?_; (with_reducible refine (timesyncref01_divide.calls k t121 t122 t123 t124 t125 t126 _ A9.out).mono ?_); rintro e w' ⟨rfl, ⟨nd, rfl⟩⟩; refine ⟨_, rfl, ?_⟩) | ((with_reducible refine gate_callee (f := 42) rfl ?_); refine goesL_ (some 55) rfl rfl Try.func42 (by kernel_rfl) rfl #[.bool false, .int .u64 t124, .int .u64 t125] rfl sl_ ?_; (with_reducible refine (timesyncref01_signed.calls k false t124 t125 t133 t134 _ A18.out).mono ?_); rintro e w' ⟨rfl, ⟨nd, rfl⟩⟩; refine ⟨_, rfl, ?_⟩))
          go_ret2
          exact ⟨by first | rfl | (simp; done) | (simp [*]; done), by repeat (first | exact Drawn0.refl _ | apply Drawn0.step)⟩
      · rw [if_neg c11] at H
        have c11b0 : decide (a1 < 0) = false := decide_eq_false c11
        clear c11
        by_cases c19 : a2 < 0
        · rw [if_pos c19] at H
          have c19b0 : decide (a2 < 0) = true := decide_eq_true c19
          clear c19
          replace H := Option.bind_eq_some_iff.mp H
          obtain ⟨⟨t135, t136⟩, A200, H⟩ := H
          replace H : (some (t135, t136)) = some (r1, r2) := H
          have A20 := Aside0.mk A200
          clear A200
          simp only [Option.some.injEq, Prod.mk.injEq] at H
          obtain ⟨rfl, rfl⟩ := H
          go_enter Try.func33, Try.ntmps33
          go_wp2_with (first | ((with_reducible refine gate_callee (f := 40) rfl ?_); refine goesL_ (some 18) rfl rfl Try.func40 (by kernel_rfl) rfl #[.int .i64 a0] rfl sl_ ?_; (with_reducible refine (timesyncref01_size.calls a0 t119 _ A5.out).mono ?_); rintro e w' ⟨rfl, ⟨nd, rfl⟩⟩; refine ⟨_, rfl, ?_⟩) | ((with_reducible refine gate_callee (f := 40) rfl ?_); refine goesL_ (some 20) rfl rfl Try.func40 (by kernel_rfl) rfl #[.int .i64 a1] rfl sl_ ?_; (with_reducible refine (timesyncref01_size.calls a1 t120 _ A6.out).mono ?_); rintro e w' ⟨rfl, ⟨nd, rfl⟩⟩; refine ⟨_, rfl, ?_⟩) | ((with_reducible refine gate_callee (f := 39) rfl ?_); refine goesL_ (some 21) rfl rfl Try.func39 (by kernel_rfl) rfl #[.int .u64 t119, .int .u64 t120] rfl sl_ ?_; (with_reducible refine (timesyncref01_product.calls t119 t120 t121 t122 _ A7.out).mono ?_); rintro e w' ⟨rfl, ⟨nd, rfl⟩⟩; refine ⟨_, rfl, ?_⟩) | ((with_reducible refine gate_callee (f := 40) rfl ?_); refine goesL_ (some 28) rfl rfl Try.func40 (by kernel_rfl) rfl #[.int .i64 a2] rfl sl_ ?_; (with_reducible refine (timesyncref01_size.calls a2 t123 _ A8.out).mono ?_); rintro e w' ⟨rfl, ⟨nd, rfl⟩⟩; refine ⟨_, rfl, ?_⟩) | ((with_reducible refine gate_callee (f := 41) rfl ?_); refine goesL_ (some 29) rfl rfl Try.func41 (by kernel_rfl) rfl #[.int .u64 t121, .int .u64 t122, .int .u64 t123] rfl sl_ ?_; (with_reducible refine (timesyncref01_divide.calls k t121 t122 t123 t124 t125 t126 _ A9.out).mono ?_); rintro e w' ⟨rfl, ⟨nd, rfl⟩⟩; refine ⟨_, rfl, ?_⟩) | ((with_reducible refine gate_callee (f := 42) rfl ?_); refine goesL_ (some 55) rfl rfl Try.func42 (by kernel_rfl) rfl #[.bool false, .int .u64 t124, .int .u64 t125] rfl sl_ ?_; (with_reducible refine (timesyncref01_signed.calls k false t124 t125 t135 t136 _ A20.out).mono ?_); rintro e w' ⟨rfl, ⟨nd, rfl⟩⟩; refine ⟨_, rfl, ?_⟩))
          go_ret2
          exact ⟨by first | rfl | (simp; done) | (simp [*]; done), by repeat (first | exact Drawn0.refl _ | apply Drawn0.step)⟩
        · rw [if_neg c19] at H
          have c19b0 : decide (a2 < 0) = false := decide_eq_false c19
          clear c19
          by_cases c21 : t126 > 0
          · rw [if_pos c21] at H
            have c21b0 : decide (0 < t126) = true := decide_eq_true c21
            clear c21
            by_cases c22 : (IntKind.u64.wrap (t125 + 1)) = 0
            · rw [if_pos c22] at H
              have c22b0 : ((IntKind.u64.wrap (t125 + 1)) == 0) = true := beq_iff_eq.mpr c22
              have c22b1 : ((IntKind.u64.wrap (t125 + 1)) != 0) = false := bne_eq_false_iff_eq.mpr c22
              clear c22
              replace H := Option.bind_eq_some_iff.mp H
              obtain ⟨⟨t137, t138⟩, A230, H⟩ := H
              replace H : (some (t137, t138)) = some (r1, r2) := H
              have A23 := Aside0.mk A230
              clear A230
              simp only [Option.some.injEq, Prod.mk.injEq] at H
              obtain ⟨rfl, rfl⟩ := H
              go_enter Try.func33, Try.ntmps33
              go_wp2_with (first | ((with_reducible refine gate_callee (f := 40) rfl ?_); refine goesL_ (some 18) rfl rfl Try.func40 (by kernel_rfl) rfl #[.int .i64 a0] rfl sl_ ?_; (with_reducible refine (timesyncref01_size.calls a0 t119 _ A5.out).mono ?_); rintro e w' ⟨rfl, ⟨nd, rfl⟩⟩; refine ⟨_, rfl, ?_⟩) | ((with_reducible refine gate_callee (f := 40) rfl ?_); refine goesL_ (some 20) rfl rfl Try.func40 (by kernel_rfl) rfl #[.int .i64 a1] rfl sl_ ?_; (with_reducible refine (timesyncref01_size.calls a1 t120 _ A6.out).mono ?_); rintro e w' ⟨rfl, ⟨nd, rfl⟩⟩; refine ⟨_, rfl, ?_⟩) | ((with_reducible refine gate_callee (f := 39) rfl ?_); refine goesL_ (some 21) rfl rfl Try.func39 (by kernel_rfl) rfl #[.int .u64 t119, .int .u64 t120] rfl sl_ ?_; (with_reducible refine (timesyncref01_product.calls t119 t120 t121 t122 _ A7.out).mono ?_); rintro e w' ⟨rfl, ⟨nd, rfl⟩⟩; refine ⟨_, rfl, ?_⟩) | ((with_reducible refine gate_callee (f := 40) rfl ?_); refine goesL_ (some 28) rfl rfl Try.func40 (by kernel_rfl) rfl #[.int .i64 a2] rfl sl_ ?_; (with_reducible refine (timesyncref01_size.calls a2 t123 _ A8.out).mono ?_); rintro e w' ⟨rfl, ⟨nd, rfl⟩⟩; refine ⟨_, rfl, ?_⟩) | ((with_reducible refine gate_callee (f := 41) rfl ?_); refine goesL_ (some 29) rfl rfl Try.func41 (by kernel_rfl) rfl #[.int .u64 t121, .int .u64 t122, .int .u64 t123] rfl sl_ ?_; (with_reducible refine (timesyncref01_divide.calls k t121 t122 t123 t124 t125 t126 _ A9.out).mono ?_); rintro e w' ⟨rfl, ⟨nd, rfl⟩⟩; refine ⟨_, rfl, ?_⟩) | ((with_reducible refine gate_callee (f := 42) rfl ?_); refine goesL_ (some 55) rfl rfl Try.func42 (by kernel_rfl) rfl #[.bool true, .int .u64 (IntKind.u64.wrap (t124 + 1)), .int .u64 (IntKind.u64.wrap (t125 + 1))] rfl sl_ ?_; (with_reducible refine (timesyncref01_signed.calls k true (IntKind.u64.wrap (t124 + 1)) (IntKind.u64.wrap (t125 + 1)) t137 t138 _ A23.out).mono ?_); rintro e w' ⟨rfl, ⟨nd, rfl⟩⟩; refine ⟨_, rfl, ?_⟩))
              go_ret2
              exact ⟨by first | rfl | (simp; done) | (simp [*]; done), by repeat (first | exact Drawn0.refl _ | apply Drawn0.step)⟩
            · rw [if_neg c22] at H
              have c22b0 : ((IntKind.u64.wrap (t125 + 1)) == 0) = false := beq_eq_false_iff_ne.mpr c22
              have c22b1 : ((IntKind.u64.wrap (t125 + 1)) != 0) = true := bne_iff_ne.mpr c22
              replace H := Option.bind_eq_some_iff.mp H
              obtain ⟨⟨t139, t140⟩, A240, H⟩ := H
              replace H : (some (t139, t140)) = some (r1, r2) := H
              have A24 := Aside0.mk A240
              clear A240
              simp only [Option.some.injEq, Prod.mk.injEq] at H
              obtain ⟨rfl, rfl⟩ := H
              go_enter Try.func33, Try.ntmps33
              go_wp2_with (first | ((with_reducible refine gate_callee (f := 40) rfl ?_); refine goesL_ (some 18) rfl rfl Try.func40 (by kernel_rfl) rfl #[.int .i64 a0] rfl sl_ ?_; (with_reducible refine (timesyncref01_size.calls a0 t119 _ A5.out).mono ?_); rintro e w' ⟨rfl, ⟨nd, rfl⟩⟩; refine ⟨_, rfl, ?_⟩) | ((with_reducible refine gate_callee (f := 40) rfl ?_); refine goesL_ (some 20) rfl rfl Try.func40 (by kernel_rfl) rfl #[.int .i64 a1] rfl sl_ ?_; (with_reducible refine (timesyncref01_size.calls a1 t120 _ A6.out).mono ?_); rintro e w' ⟨rfl, ⟨nd, rfl⟩⟩; refine ⟨_, rfl, ?_⟩) | ((with_reducible refine gate_callee (f := 39) rfl ?_); refine goesL_ (some 21) rfl rfl Try.func39 (by kernel_rfl) rfl #[.int .u64 t119, .int .u64 t120] rfl sl_ ?_; (with_reducible refine (timesyncref01_product.calls t119 t120 t121 t122 _ A7.out).mono ?_); rintro e w' ⟨rfl, ⟨nd, rfl⟩⟩; refine ⟨_, rfl, ?_⟩) | ((with_reducible refine gate_callee (f := 40) rfl ?_); refine goesL_ (some 28) rfl rfl Try.func40 (by kernel_rfl) rfl #[.int .i64 a2] rfl sl_ ?_; (with_reducible refine (timesyncref01_size.calls a2 t123 _ A8.out).mono ?_); rintro e w' ⟨rfl, ⟨nd, rfl⟩⟩; refine ⟨_, rfl, ?_⟩) | ((with_reducible refine gate_callee (f := 41) rfl ?_); refine goesL_ (some 29) rfl rfl Try.func41 (by kernel_rfl) rfl #[.int .u64 t121, .int .u64 t122, .int .u64 t123] rfl sl_ ?_; (with_reducible refine (timesyncref01_divide.calls k t121 t122 t123 t124 t125 t126 _ A9.out).mono ?_); rintro e w' ⟨rfl, ⟨nd, rfl⟩⟩; refine ⟨_, rfl, ?_⟩) | ((with_reducible refine gate_callee (f := 42) rfl ?_); refine goesL_ (some 55) rfl rfl Try.func42 (by kernel_rfl) rfl #[.bool true, .int .u64 t124, .int .u64 (IntKind.u64.wrap (t125 + 1))] rfl sl_ ?_; (with_reducible refine (timesyncref01_signed.calls k true t124 (IntKind.u64.wrap (t125 + 1)) t139 t140 _ A24.out).mono ?_); rintro e w' ⟨rfl, ⟨nd, rfl⟩⟩; refine ⟨_, rfl, ?_⟩))
              go_ret2
              exact ⟨by first | rfl | (simp; done) | (simp [*]; done), by repeat (first | exact Drawn0.refl _ | apply Drawn0.step)⟩
          · rw [if_neg c21] at H
            have c21b0 : decide (0 < t126) = false := decide_eq_false c21
            clear c21
            replace H := Option.bind_eq_some_iff.mp H
            obtain ⟨⟨t141, t142⟩, A250, H⟩ := H
            replace H : (some (t141, t142)) = some (r1, r2) := H
            have A25 := Aside0.mk A250
            clear A250
            simp only [Option.some.injEq, Prod.mk.injEq] at H
            obtain ⟨rfl, rfl⟩ := H
            go_enter Try.func33, Try.ntmps33
            go_wp2_with (first | ((with_reducible refine gate_callee (f := 40) rfl ?_); refine goesL_ (some 18) rfl rfl Try.func40 (by kernel_rfl) rfl #[.int .i64 a0] rfl sl_ ?_; (with_reducible refine (timesyncref01_size.calls a0 t119 _ A5.out).mono ?_); rintro e w' ⟨rfl, ⟨nd, rfl⟩⟩; refine ⟨_, rfl, ?_⟩) | ((with_reducible refine gate_callee (f := 40) rfl ?_); refine goesL_ (some 20) rfl rfl Try.func40 (by kernel_rfl) rfl #[.int .i64 a1] rfl sl_ ?_; (with_reducible refine (timesyncref01_size.calls a1 t120 _ A6.out).mono ?_); rintro e w' ⟨rfl, ⟨nd, rfl⟩⟩; refine ⟨_, rfl, ?_⟩) | ((with_reducible refine gate_callee (f := 39) rfl ?_); refine goesL_ (some 21) rfl rfl Try.func39 (by kernel_rfl) rfl #[.int .u64 t119, .int .u64 t120] rfl sl_ ?_; (with_reducible refine (timesyncref01_product.calls t119 t120 t121 t122 _ A7.out).mono ?_); rintro e w' ⟨rfl, ⟨nd, rfl⟩⟩; refine ⟨_, rfl, ?_⟩) | ((with_reducible refine gate_callee (f := 40) rfl ?_); refine goesL_ (some 28) rfl rfl Try.func40 (by kernel_rfl) rfl #[.int .i64 a2] rfl sl_ ?_; (with_reducible refine (timesyncref01_size.calls a2 t123 _ A8.out).mono ?_); rintro e w' ⟨rfl, ⟨nd, rfl⟩⟩; refine ⟨_, rfl, ?_⟩) | ((with_reducible refine gate_callee (f := 41) rfl ?_); refine goesL_ (some 29) rfl rfl Try.func41 (by kernel_rfl) rfl #[.int .u64 t121, .int .u64 t122, .int .u64 t123] rfl sl_ ?_; (with_reducible refine (timesyncref01_divide.calls k t121 t122 t123 t124 t125 t126 _ A9.out).mono ?_); rintro e w' ⟨rfl, ⟨nd, rfl⟩⟩; refine ⟨_, rfl, ?_⟩) | ((with_reducible refine gate_callee (f := 42) rfl ?_); refine goesL_ (some 55) rfl rfl Try.func42 (by kernel_rfl) rfl #[.bool true, .int .u64 t124, .int .u64 t125] rfl sl_ ?_; (with_reducible refine (timesyncref01_signed.calls k true t124 t125 t141 t142 _ A25.out).mono ?_); rintro e w' ⟨rfl, ⟨nd, rfl⟩⟩; refine ⟨_, rfl, ?_⟩))
            go_ret2
            exact ⟨by first | rfl | (simp; done) | (simp [*]; done), by repeat (first | exact Drawn0.refl _ | apply Drawn0.step)⟩
    · rw [if_neg c10] at H
      have c10b0 : decide (a0 < 0) = false := decide_eq_false c10
      clear c10
      by_cases c26 : a1 < 0
      · rw [if_pos c26] at H
        have c26b0 : decide (a1 < 0) = true := decide_eq_true c26
        clear c26
        by_cases c27 : a2 < 0
        · rw [if_pos c27] at H
          have c27b0 : decide (a2 < 0) = true := decide_eq_true c27
          clear c27
          replace H := Option.bind_eq_some_iff.mp H
          obtain ⟨⟨t143, t144⟩, A280, H⟩ := H
          replace H : (some (t143, t144)) = some (r1, r2) := H
          have A28 := Aside0.mk A280
          clear A280
          simp only [Option.some.injEq, Prod.mk.injEq] at H
          obtain ⟨rfl, rfl⟩ := H
          go_enter Try.func33, Try.ntmps33
          go_wp2_with (first | ((with_reducible refine gate_callee (f := 40) rfl ?_); refine goesL_ (some 18) rfl rfl Try.func40 (by kernel_rfl) rfl #[.int .i64 a0] rfl sl_ ?_; (with_reducible refine (timesyncref01_size.calls a0 t119 _ A5.out).mono ?_); rintro e w' ⟨rfl, ⟨nd, rfl⟩⟩; refine ⟨_, rfl, ?_⟩) | ((with_reducible refine gate_callee (f := 40) rfl ?_); refine goesL_ (some 20) rfl rfl Try.func40 (by kernel_rfl) rfl #[.int .i64 a1] rfl sl_ ?_; (with_reducible refine (timesyncref01_size.calls a1 t120 _ A6.out).mono ?_); rintro e w' ⟨rfl, ⟨nd, rfl⟩⟩; refine ⟨_, rfl, ?_⟩) | ((with_reducible refine gate_callee (f := 39) rfl ?_); refine goesL_ (some 21) rfl rfl Try.func39 (by kernel_rfl) rfl #[.int .u64 t119, .int .u64 t120] rfl sl_ ?_; (with_reducible refine (timesyncref01_product.calls t119 t120 t121 t122 _ A7.out).mono ?_); rintro e w' ⟨rfl, ⟨nd, rfl⟩⟩; refine ⟨_, rfl, ?_⟩) | ((with_reducible refine gate_callee (f := 40) rfl ?_); refine goesL_ (some 28) rfl rfl Try.func40 (by kernel_rfl) rfl #[.int .i64 a2] rfl sl_ ?_; (with_reducible refine (timesyncref01_size.calls a2 t123 _ A8.out).mono ?_); rintro e w' ⟨rfl, ⟨nd, rfl⟩⟩; refine ⟨_, rfl, ?_⟩) | ((with_reducible refine gate_callee (f := 41) rfl ?_); refine goesL_ (some 29) rfl rfl Try.func41 (by kernel_rfl) rfl #[.int .u64 t121, .int .u64 t122, .int .u64 t123] rfl sl_ ?_; (with_reducible refine (timesyncref01_divide.calls k t121 t122 t123 t124 t125 t126 _ A9.out).mono ?_); rintro e w' ⟨rfl, ⟨nd, rfl⟩⟩; refine ⟨_, rfl, ?_⟩) | ((with_reducible refine gate_callee (f := 42) rfl ?_); refine goesL_ (some 55) rfl rfl Try.func42 (by kernel_rfl) rfl #[.bool false, .int .u64 t124, .int .u64 t125] rfl sl_ ?_; (with_reducible refine (timesyncref01_signed.calls k false t124 t125 t143 t144 _ A28.out).mono ?_); rintro e w' ⟨rfl, ⟨nd, rfl⟩⟩; refine ⟨_, rfl, ?_⟩))
          go_ret2
          exact ⟨by first | rfl | (simp; done) | (simp [*]; done), by repeat (first | exact Drawn0.refl _ | apply Drawn0.step)⟩
        · rw [if_neg c27] at H
          have c27b0 : decide (a2 < 0) = false := decide_eq_false c27
          clear c27
          by_cases c29 : t126 > 0
          · rw [if_pos c29] at H
            have c29b0 : decide (0 < t126) = true := decide_eq_true c29
            clear c29
            by_cases c30 : (IntKind.u64.wrap (t125 + 1)) = 0
            · rw [if_pos c30] at H
              have c30b0 : ((IntKind.u64.wrap (t125 + 1)) == 0) = true := beq_iff_eq.mpr c30
              have c30b1 : ((IntKind.u64.wrap (t125 + 1)) != 0) = false := bne_eq_false_iff_eq.mpr c30
              clear c30
              replace H := Option.bind_eq_some_iff.mp H
              obtain ⟨⟨t145, t146⟩, A310, H⟩ := H
              replace H : (some (t145, t146)) = some (r1, r2) := H
              have A31 := Aside0.mk A310
              clear A310
              simp only [Option.some.injEq, Prod.mk.injEq] at H
              obtain ⟨rfl, rfl⟩ := H
              go_enter Try.func33, Try.ntmps33
              go_wp2_with (first | ((with_reducible refine gate_callee (f := 40) rfl ?_); refine goesL_ (some 18) rfl rfl Try.func40 (by kernel_rfl) rfl #[.int .i64 a0] rfl sl_ ?_; (with_reducible refine (timesyncref01_size.calls a0 t119 _ A5.out).mono ?_); rintro e w' ⟨rfl, ⟨nd, rfl⟩⟩; refine ⟨_, rfl, ?_⟩) | ((with_reducible refine gate_callee (f := 40) rfl ?_); refine goesL_ (some 20) rfl rfl Try.func40 (by kernel_rfl) rfl #[.int .i64 a1] rfl sl_ ?_; (with_reducible refine (timesyncref01_size.calls a1 t120 _ A6.out).mono ?_); rintro e w' ⟨rfl, ⟨nd, rfl⟩⟩; refine ⟨_, rfl, ?_⟩) | ((with_reducible refine gate_callee (f := 39) rfl ?_); refine goesL_ (some 21) rfl rfl Try.func39 (by kernel_rfl) rfl #[.int .u64 t119, .int .u64 t120] rfl sl_ ?_; (with_reducible refine (timesyncref01_product.calls t119 t120 t121 t122 _ A7.out).mono ?_); rintro e w' ⟨rfl, ⟨nd, rfl⟩⟩; refine ⟨_, rfl, ?_⟩) | ((with_reducible refine gate_callee (f := 40) rfl ?_); refine goesL_ (some 28) rfl rfl Try.func40 (by kernel_rfl) rfl #[.int .i64 a2] rfl sl_ ?_; (with_reducible refine (timesyncref01_size.calls a2 t123 _ A8.out).mono ?_); rintro e w' ⟨rfl, ⟨nd, rfl⟩⟩; refine ⟨_, rfl, ?_⟩) | ((with_reducible refine gate_callee (f := 41) rfl ?_); refine goesL_ (some 29) rfl rfl Try.func41 (by kernel_rfl) rfl #[.int .u64 t121, .int .u64 t122, .int .u64 t123] rfl sl_ ?_; (with_reducible refine (timesyncref01_divide.calls k t121 t122 t123 t124 t125 t126 _ A9.out).mono ?_); rintro e w' ⟨rfl, ⟨nd, rfl⟩⟩; refine ⟨_, rfl, ?_⟩) | ((with_reducible refine gate_callee (f := 42) rfl ?_); refine goesL_ (some 55) rfl rfl Try.func42 (by kernel_rfl) rfl #[.bool true, .int .u64 (IntKind.u64.wrap (t124 + 1)), .int .u64 (IntKind.u64.wrap (t125 + 1))] rfl sl_ ?_; (with_reducible refine (timesyncref01_signed.calls k true (IntKind.u64.wrap (t124 + 1)) (IntKind.u64.wrap (t125 + 1)) t145 t146 _ A31.out).mono ?_); rintro e w' ⟨rfl, ⟨nd, rfl⟩⟩; refine ⟨_, rfl, ?_⟩))
              go_ret2
              exact ⟨by first | rfl | (simp; done) | (simp [*]; done), by repeat (first | exact Drawn0.refl _ | apply Drawn0.step)⟩
            · rw [if_neg c30] at H
              have c30b0 : ((IntKind.u64.wrap (t125 + 1)) == 0) = false := beq_eq_false_iff_ne.mpr c30
              have c30b1 : ((IntKind.u64.wrap (t125 + 1)) != 0) = true := bne_iff_ne.mpr c30
              replace H := Option.bind_eq_some_iff.mp H
              obtain ⟨⟨t147, t148⟩, A320, H⟩ := H
              replace H : (some (t147, t148)) = some (r1, r2) := H
              have A32 := Aside0.mk A320
              clear A320
              simp only [Option.some.injEq, Prod.mk.injEq] at H
              obtain ⟨rfl, rfl⟩ := H
              go_enter Try.func33, Try.ntmps33
              go_wp2_with (first | ((with_reducible refine gate_callee (f := 40) rfl ?_); refine goesL_ (some 18) rfl rfl Try.func40 (by kernel_rfl) rfl #[.int .i64 a0] rfl sl_ ?_; (with_reducible refine (timesyncref01_size.calls a0 t119 _ A5.out).mono ?_); rintro e w' ⟨rfl, ⟨nd, rfl⟩⟩; refine ⟨_, rfl, ?_⟩) | ((with_reducible refine gate_callee (f := 40) rfl ?_); refine goesL_ (some 20) rfl rfl Try.func40 (by kernel_rfl) rfl #[.int .i64 a1] rfl sl_ ?_; (with_reducible refine (timesyncref01_size.calls a1 t120 _ A6.out).mono ?_); rintro e w' ⟨rfl, ⟨nd, rfl⟩⟩; refine ⟨_, rfl, ?_⟩) | ((with_reducible refine gate_callee (f := 39) rfl ?_); refine goesL_ (some 21) rfl rfl Try.func39 (by kernel_rfl) rfl #[.int .u64 t119, .int .u64 t120] rfl sl_ ?_; (with_reducible refine (timesyncref01_product.calls t119 t120 t121 t122 _ A7.out).mono ?_); rintro e w' ⟨rfl, ⟨nd, rfl⟩⟩; refine ⟨_, rfl, ?_⟩) | ((with_reducible refine gate_callee (f := 40) rfl ?_); refine goesL_ (some 28) rfl rfl Try.func40 (by kernel_rfl) rfl #[.int .i64 a2] rfl sl_ ?_; (with_reducible refine (timesyncref01_size.calls a2 t123 _ A8.out).mono ?_); rintro e w' ⟨rfl, ⟨nd, rfl⟩⟩; refine ⟨_, rfl, ?_⟩) | ((with_reducible refine gate_callee (f := 41) rfl ?_); refine goesL_ (some 29) rfl rfl Try.func41 (by kernel_rfl) rfl #[.int .u64 t121, .int .u64 t122, .int .u64 t123] rfl sl_ ?_; (with_reducible refine (timesyncref01_divide.calls k t121 t122 t123 t124 t125 t126 _ A9.out).mono ?_); rintro e w' ⟨rfl, ⟨nd, rfl⟩⟩; refine ⟨_, rfl, ?_⟩) | ((with_reducible refine gate_callee (f := 42) rfl ?_); refine goesL_ (some 55) rfl rfl Try.func42 (by kernel_rfl) rfl #[.bool true, .int .u64 t124, .int .u64 (IntKind.u64.wrap (t125 + 1))] rfl sl_ ?_; (with_reducible refine (timesyncref01_signed.calls k true t124 (IntKind.u64.wrap (t125 + 1)) t147 t148 _ A32.out).mono ?_); rintro e w' ⟨rfl, ⟨nd, rfl⟩⟩; refine ⟨_, rfl, ?_⟩))
              go_ret2
              exact ⟨by first | rfl | (simp; done) | (simp [*]; done), by repeat (first | exact Drawn0.refl _ | apply Drawn0.step)⟩
          · rw [if_neg c29] at H
            have c29b0 : decide (0 < t126) = false := decide_eq_false c29
            clear c29
            replace H := Option.bind_eq_some_iff.mp H
            obtain ⟨⟨t149, t150⟩, A330, H⟩ := H
            replace H : (some (t149, t150)) = some (r1, r2) := H
            have A33 := Aside0.mk A330
            clear A330
            simp only [Option.some.injEq, Prod.mk.injEq] at H
            obtain ⟨rfl, rfl⟩ := H
            go_enter Try.func33, Try.ntmps33
            go_wp2_with (first | ((with_reducible refine gate_callee (f := 40) rfl ?_); refine goesL_ (some 18) rfl rfl Try.func40 (by kernel_rfl) rfl #[.int .i64 a0] rfl sl_ ?_; (with_reducible refine (timesyncref01_size.calls a0 t119 _ A5.out).mono ?_); rintro e w' ⟨rfl, ⟨nd, rfl⟩⟩; refine ⟨_, rfl, ?_⟩) | ((with_reducible refine gate_callee (f := 40) rfl ?_); refine goesL_ (some 20) rfl rfl Try.func40 (by kernel_rfl) rfl #[.int .i64 a1] rfl sl_ ?_; (with_reducible refine (timesyncref01_size.calls a1 t120 _ A6.out).mono ?_); rintro e w' ⟨rfl, ⟨nd, rfl⟩⟩; refine ⟨_, rfl, ?_⟩) | ((with_reducible refine gate_callee (f := 39) rfl ?_); refine goesL_ (some 21) rfl rfl Try.func39 (by kernel_rfl) rfl #[.int .u64 t119, .int .u64 t120] rfl sl_ ?_; (with_reducible refine (timesyncref01_product.calls t119 t120 t121 t122 _ A7.out).mono ?_); rintro e w' ⟨rfl, ⟨nd, rfl⟩⟩; refine ⟨_, rfl, ?_⟩) | ((with_reducible refine gate_callee (f := 40) rfl ?_); refine goesL_ (some 28) rfl rfl Try.func40 (by kernel_rfl) rfl #[.int .i64 a2] rfl sl_ ?_; (with_reducible refine (timesyncref01_size.calls a2 t123 _ A8.out).mono ?_); rintro e w' ⟨rfl, ⟨nd, rfl⟩⟩; refine ⟨_, rfl, ?_⟩) | ((with_reducible refine gate_callee (f := 41) rfl ?_); refine goesL_ (some 29) rfl rfl Try.func41 (by kernel_rfl) rfl #[.int .u64 t121, .int .u64 t122, .int .u64 t123] rfl sl_ ?_; (with_reducible refine (timesyncref01_divide.calls k t121 t122 t123 t124 t125 t126 _ A9.out).mono ?_); rintro e w' ⟨rfl, ⟨nd, rfl⟩⟩; refine ⟨_, rfl, ?_⟩) | ((with_reducible refine gate_callee (f := 42) rfl ?_); refine goesL_ (some 55) rfl rfl Try.func42 (by kernel_rfl) rfl #[.bool true, .int .u64 t124, .int .u64 t125] rfl sl_ ?_; (with_reducible refine (timesyncref01_signed.calls k true t124 t125 t149 t150 _ A33.out).mono ?_); rintro e w' ⟨rfl, ⟨nd, rfl⟩⟩; refine ⟨_, rfl, ?_⟩))
            go_ret2
            exact ⟨by first | rfl | (simp; done) | (simp [*]; done), by repeat (first | exact Drawn0.refl _ | apply Drawn0.step)⟩
      · rw [if_neg c26] at H
        have c26b0 : decide (a1 < 0) = false := decide_eq_false c26
        clear c26
        by_cases c34 : a2 < 0
        · rw [if_pos c34] at H
          have c34b0 : decide (a2 < 0) = true := decide_eq_true c34
          clear c34
          by_cases c35 : t126 > 0
          · rw [if_pos c35] at H
            have c35b0 : decide (0 < t126) = true := decide_eq_true c35
            clear c35
            by_cases c36 : (IntKind.u64.wrap (t125 + 1)) = 0
            · rw [if_pos c36] at H
              have c36b0 : ((IntKind.u64.wrap (t125 + 1)) == 0) = true := beq_iff_eq.mpr c36
              have c36b1 : ((IntKind.u64.wrap (t125 + 1)) != 0) = false := bne_eq_false_iff_eq.mpr c36
              clear c36
              replace H := Option.bind_eq_some_iff.mp H
              obtain ⟨⟨t151, t152⟩, A370, H⟩ := H
              replace H : (some (t151, t152)) = some (r1, r2) := H
              have A37 := Aside0.mk A370
              clear A370
              simp only [Option.some.injEq, Prod.mk.injEq] at H
              obtain ⟨rfl, rfl⟩ := H
              go_enter Try.func33, Try.ntmps33
              go_wp2_with (first | ((with_reducible refine gate_callee (f := 40) rfl ?_); refine goesL_ (some 18) rfl rfl Try.func40 (by kernel_rfl) rfl #[.int .i64 a0] rfl sl_ ?_; (with_reducible refine (timesyncref01_size.calls a0 t119 _ A5.out).mono ?_); rintro e w' ⟨rfl, ⟨nd, rfl⟩⟩; refine ⟨_, rfl, ?_⟩) | ((with_reducible refine gate_callee (f := 40) rfl ?_); refine goesL_ (some 20) rfl rfl Try.func40 (by kernel_rfl) rfl #[.int .i64 a1] rfl sl_ ?_; (with_reducible refine (timesyncref01_size.calls a1 t120 _ A6.out).mono ?_); rintro e w' ⟨rfl, ⟨nd, rfl⟩⟩; refine ⟨_, rfl, ?_⟩) | ((with_reducible refine gate_callee (f := 39) rfl ?_); refine goesL_ (some 21) rfl rfl Try.func39 (by kernel_rfl) rfl #[.int .u64 t119, .int .u64 t120] rfl sl_ ?_; (with_reducible refine (timesyncref01_product.calls t119 t120 t121 t122 _ A7.out).mono ?_); rintro e w' ⟨rfl, ⟨nd, rfl⟩⟩; refine ⟨_, rfl, ?_⟩) | ((with_reducible refine gate_callee (f := 40) rfl ?_); refine goesL_ (some 28) rfl rfl Try.func40 (by kernel_rfl) rfl #[.int .i64 a2] rfl sl_ ?_; (with_reducible refine (timesyncref01_size.calls a2 t123 _ A8.out).mono ?_); rintro e w' ⟨rfl, ⟨nd, rfl⟩⟩; refine ⟨_, rfl, ?_⟩) | ((with_reducible refine gate_callee (f := 41) rfl ?_); refine goesL_ (some 29) rfl rfl Try.func41 (by kernel_rfl) rfl #[.int .u64 t121, .int .u64 t122, .int .u64 t123] rfl sl_ ?_; (with_reducible refine (timesyncref01_divide.calls k t121 t122 t123 t124 t125 t126 _ A9.out).mono ?_); rintro e w' ⟨rfl, ⟨nd, rfl⟩⟩; refine ⟨_, rfl, ?_⟩) | ((with_reducible refine gate_callee (f := 42) rfl ?_); refine goesL_ (some 55) rfl rfl Try.func42 (by kernel_rfl) rfl #[.bool true, .int .u64 (IntKind.u64.wrap (t124 + 1)), .int .u64 (IntKind.u64.wrap (t125 + 1))] rfl sl_ ?_; (with_reducible refine (timesyncref01_signed.calls k true (IntKind.u64.wrap (t124 + 1)) (IntKind.u64.wrap (t125 + 1)) t151 t152 _ A37.out).mono ?_); rintro e w' ⟨rfl, ⟨nd, rfl⟩⟩; refine ⟨_, rfl, ?_⟩))
              go_ret2
              exact ⟨by first | rfl | (simp; done) | (simp [*]; done), by repeat (first | exact Drawn0.refl _ | apply Drawn0.step)⟩
            · rw [if_neg c36] at H
              have c36b0 : ((IntKind.u64.wrap (t125 + 1)) == 0) = false := beq_eq_false_iff_ne.mpr c36
              have c36b1 : ((IntKind.u64.wrap (t125 + 1)) != 0) = true := bne_iff_ne.mpr c36
              replace H := Option.bind_eq_some_iff.mp H
              obtain ⟨⟨t153, t154⟩, A380, H⟩ := H
              replace H : (some (t153, t154)) = some (r1, r2) := H
              have A38 := Aside0.mk A380
              clear A380
              simp only [Option.some.injEq, Prod.mk.injEq] at H
              obtain ⟨rfl, rfl⟩ := H
              go_enter Try.func33, Try.ntmps33
              go_wp2_with (first | ((with_reducible refine gate_callee (f := 40) rfl ?_); refine goesL_ (some 18) rfl rfl Try.func40 (by kernel_rfl) rfl #[.int .i64 a0] rfl sl_ ?_; (with_reducible refine (timesyncref01_size.calls a0 t119 _ A5.out).mono ?_); rintro e w' ⟨rfl, ⟨nd, rfl⟩⟩; refine ⟨_, rfl, ?_⟩) | ((with_reducible refine gate_callee (f := 40) rfl ?_); refine goesL_ (some 20) rfl rfl Try.func40 (by kernel_rfl) rfl #[.int .i64 a1] rfl sl_ ?_; (with_reducible refine (timesyncref01_size.calls a1 t120 _ A6.out).mono ?_); rintro e w' ⟨rfl, ⟨nd, rfl⟩⟩; refine ⟨_, rfl, ?_⟩) | ((with_reducible refine gate_callee (f := 39) rfl ?_); refine goesL_ (some 21) rfl rfl Try.func39 (by kernel_rfl) rfl #[.int .u64 t119, .int .u64 t120] rfl sl_ ?_; (with_reducible refine (timesyncref01_product.calls t119 t120 t121 t122 _ A7.out).mono ?_); rintro e w' ⟨rfl, ⟨nd, rfl⟩⟩; refine ⟨_, rfl, ?_⟩) | ((with_reducible refine gate_callee (f := 40) rfl ?_); refine goesL_ (some 28) rfl rfl Try.func40 (by kernel_rfl) rfl #[.int .i64 a2] rfl sl_ ?_; (with_reducible refine (timesyncref01_size.calls a2 t123 _ A8.out).mono ?_); rintro e w' ⟨rfl, ⟨nd, rfl⟩⟩; refine ⟨_, rfl, ?_⟩) | ((with_reducible refine gate_callee (f := 41) rfl ?_); refine goesL_ (some 29) rfl rfl Try.func41 (by kernel_rfl) rfl #[.int .u64 t121, .int .u64 t122, .int .u64 t123] rfl sl_ ?_; (with_reducible refine (timesyncref01_divide.calls k t121 t122 t123 t124 t125 t126 _ A9.out).mono ?_); rintro e w' ⟨rfl, ⟨nd, rfl⟩⟩; refine ⟨_, rfl, ?_⟩) | ((with_reducible refine gate_callee (f := 42) rfl ?_); refine goesL_ (some 55) rfl rfl Try.func42 (by kernel_rfl) rfl #[.bool true, .int .u64 t124, .int .u64 (IntKind.u64.wrap (t125 + 1))] rfl sl_ ?_; (with_reducible refine (timesyncref01_signed.calls k true t124 (IntKind.u64.wrap (t125 + 1)) t153 t154 _ A38.out).mono ?_); rintro e w' ⟨rfl, ⟨nd, rfl⟩⟩; refine ⟨_, rfl, ?_⟩))
              go_ret2
              exact ⟨by first | rfl | (simp; done) | (simp [*]; done), by repeat (first | exact Drawn0.refl _ | apply Drawn0.step)⟩
          · rw [if_neg c35] at H
            have c35b0 : decide (0 < t126) = false := decide_eq_false c35
            clear c35
            replace H := Option.bind_eq_some_iff.mp H
            obtain ⟨⟨t155, t156⟩, A390, H⟩ := H
            replace H : (some (t155, t156)) = some (r1, r2) := H
            have A39 := Aside0.mk A390
            clear A390
            simp only [Option.some.injEq, Prod.mk.injEq] at H
            obtain ⟨rfl, rfl⟩ := H
            go_enter Try.func33, Try.ntmps33
            go_wp2_with (first | ((with_reducible refine gate_callee (f := 40) rfl ?_); refine goesL_ (some 18) rfl rfl Try.func40 (by kernel_rfl) rfl #[.int .i64 a0] rfl sl_ ?_; (with_reducible refine (timesyncref01_size.calls a0 t119 _ A5.out).mono ?_); rintro e w' ⟨rfl, ⟨nd, rfl⟩⟩; refine ⟨_, rfl, ?_⟩) | ((with_reducible refine gate_callee (f := 40) rfl ?_); refine goesL_ (some 20) rfl rfl Try.func40 (by kernel_rfl) rfl #[.int .i64 a1] rfl sl_ ?_; (with_reducible refine (timesyncref01_size.calls a1 t120 _ A6.out).mono ?_); rintro e w' ⟨rfl, ⟨nd, rfl⟩⟩; refine ⟨_, rfl, ?_⟩) | ((with_reducible refine gate_callee (f := 39) rfl ?_); refine goesL_ (some 21) rfl rfl Try.func39 (by kernel_rfl) rfl #[.int .u64 t119, .int .u64 t120] rfl sl_ ?_; (with_reducible refine (timesyncref01_product.calls t119 t120 t121 t122 _ A7.out).mono ?_); rintro e w' ⟨rfl, ⟨nd, rfl⟩⟩; refine ⟨_, rfl, ?_⟩) | ((with_reducible refine gate_callee (f := 40) rfl ?_); refine goesL_ (some 28) rfl rfl Try.func40 (by kernel_rfl) rfl #[.int .i64 a2] rfl sl_ ?_; (with_reducible refine (timesyncref01_size.calls a2 t123 _ A8.out).mono ?_); rintro e w' ⟨rfl, ⟨nd, rfl⟩⟩; refine ⟨_, rfl, ?_⟩) | ((with_reducible refine gate_callee (f := 41) rfl ?_); refine goesL_ (some 29) rfl rfl Try.func41 (by kernel_rfl) rfl #[.int .u64 t121, .int .u64 t122, .int .u64 t123] rfl sl_ ?_; (with_reducible refine (timesyncref01_divide.calls k t121 t122 t123 t124 t125 t126 _ A9.out).mono ?_); rintro e w' ⟨rfl, ⟨nd, rfl⟩⟩; refine ⟨_, rfl, ?_⟩) | ((with_reducible refine gate_callee (f := 42) rfl ?_); refine goesL_ (some 55) rfl rfl Try.func42 (by kernel_rfl) rfl #[.bool true, .int .u64 t124, .int .u64 t125] rfl sl_ ?_; (with_reducible refine (timesyncref01_signed.calls k true t124 t125 t155 t156 _ A39.out).mono ?_); rintro e w' ⟨rfl, ⟨nd, rfl⟩⟩; refine ⟨_, rfl, ?_⟩))
            go_ret2
            exact ⟨by first | rfl | (simp; done) | (simp [*]; done), by repeat (first | exact Drawn0.refl _ | apply Drawn0.step)⟩
        · rw [if_neg c34] at H
          have c34b0 : decide (a2 < 0) = false := decide_eq_false c34
          clear c34
          replace H := Option.bind_eq_some_iff.mp H
          obtain ⟨⟨t157, t158⟩, A400, H⟩ := H
          replace H : (some (t157, t158)) = some (r1, r2) := H
          have A40 := Aside0.mk A400
          clear A400
          simp only [Option.some.injEq, Prod.mk.injEq] at H
          obtain ⟨rfl, rfl⟩ := H
          go_enter Try.func33, Try.ntmps33
          go_wp2_with (first | ((with_reducible refine gate_callee (f := 40) rfl ?_); refine goesL_ (some 18) rfl rfl Try.func40 (by kernel_rfl) rfl #[.int .i64 a0] rfl sl_ ?_; (with_reducible refine (timesyncref01_size.calls a0 t119 _ A5.out).mono ?_); rintro e w' ⟨rfl, ⟨nd, rfl⟩⟩; refine ⟨_, rfl, ?_⟩) | ((with_reducible refine gate_callee (f := 40) rfl ?_); refine goesL_ (some 20) rfl rfl Try.func40 (by kernel_rfl) rfl #[.int .i64 a1] rfl sl_ ?_; (with_reducible refine (timesyncref01_size.calls a1 t120 _ A6.out).mono ?_); rintro e w' ⟨rfl, ⟨nd, rfl⟩⟩; refine ⟨_, rfl, ?_⟩) | ((with_reducible refine gate_callee (f := 39) rfl ?_); refine goesL_ (some 21) rfl rfl Try.func39 (by kernel_rfl) rfl #[.int .u64 t119, .int .u64 t120] rfl sl_ ?_; (with_reducible refine (timesyncref01_product.calls t119 t120 t121 t122 _ A7.out).mono ?_); rintro e w' ⟨rfl, ⟨nd, rfl⟩⟩; refine ⟨_, rfl, ?_⟩) | ((with_reducible refine gate_callee (f := 40) rfl ?_); refine goesL_ (some 28) rfl rfl Try.func40 (by kernel_rfl) rfl #[.int .i64 a2] rfl sl_ ?_; (with_reducible refine (timesyncref01_size.calls a2 t123 _ A8.out).mono ?_); rintro e w' ⟨rfl, ⟨nd, rfl⟩⟩; refine ⟨_, rfl, ?_⟩) | ((with_reducible refine gate_callee (f := 41) rfl ?_); refine goesL_ (some 29) rfl rfl Try.func41 (by kernel_rfl) rfl #[.int .u64 t121, .int .u64 t122, .int .u64 t123] rfl sl_ ?_; (with_reducible refine (timesyncref01_divide.calls k t121 t122 t123 t124 t125 t126 _ A9.out).mono ?_); rintro e w' ⟨rfl, ⟨nd, rfl⟩⟩; refine ⟨_, rfl, ?_⟩) | ((with_reducible refine gate_callee (f := 42) rfl ?_); refine goesL_ (some 55) rfl rfl Try.func42 (by kernel_rfl) rfl #[.bool false, .int .u64 t124, .int .u64 t125] rfl sl_ ?_; (with_reducible refine (timesyncref01_signed.calls k false t124 t125 t157 t158 _ A40.out).mono ?_); rintro e w' ⟨rfl, ⟨nd, rfl⟩⟩; refine ⟨_, rfl, ?_⟩))
          go_ret2
          exact ⟨by first | rfl | (simp; done) | (simp [*]; done), by repeat (first | exact Drawn0.refl _ | apply Drawn0.step)⟩

end Go.Proofs.Ytimcdiombljajaa.PAll
