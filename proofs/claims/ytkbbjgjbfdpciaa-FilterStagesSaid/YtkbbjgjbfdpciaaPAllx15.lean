-- A text of this session, written by a program of its own (wip/tools).
import Derived.Test.YtkbbjgjbfdpciaaPAllx0
import Derived.Test.YtkbbjgjbfdpciaaPAllx9
import Derived.Test.YtkbbjgjbfdpciaaPAllx10
import Derived.Test.YtkbbjgjbfdpciaaPAllx13
import Derived.Test.YtkbbjgjbfdpciaaPAllx14
namespace Go.Proofs.Ytkbbjgjbfdpciaa.PAll
open Go.RowKit Go.Proofs.YtkbbjgjbfdpciaaW.PrintWords Go.Proofs.YtkbbjgjbfdpciaaW.PrintLast Go.Proofs.YtkbbjgjbfdpciaaW.PrintMore
attribute [local go_sem] max2_int min2_int max_two min_two max_three min_three max_four min_four   -- for this text's walks alone
set_option linter.unusedVariables false
set_option linter.unusedSimpArgs false

/-! ### fixed_MulDiv: function 32 -/
def fixed_MulDiv.f (k : Nat) (a0 : Int) (a1 : Int) (a2 : Int) : Option (Int × Bool) := (fixed_size.f a0).bind fun t105 => ((fixed_size.f a1).bind fun t106 => ((bits_Mul64.f t105 t106).bind fun bt107 => ((fixed_size.f a2).bind fun t109 => (if bt107.1 ≥ t109 then (some (0, false)) else ((fixed_size.f a2).bind fun t110 => ((bits_Div64.f k bt107.1 bt107.2 t110).bind fun bt111 => (if a0 < 0 then (if a1 < 0 then (if a2 < 0 then (if bt111.2 = 0 then ((fixed_signed.f bt111.1 true).bind fun bt113 => (some (bt113.1, bt113.2))) else (if (IntKind.u64.wrap (bt111.1 + 1)) = 0 then (some (0, false)) else ((fixed_signed.f (IntKind.u64.wrap (bt111.1 + 1)) true).bind fun bt115 => (some (bt115.1, bt115.2))))) else ((fixed_signed.f bt111.1 false).bind fun bt117 => (some (bt117.1, bt117.2)))) else (if a2 < 0 then ((fixed_signed.f bt111.1 false).bind fun bt119 => (some (bt119.1, bt119.2))) else (if bt111.2 = 0 then ((fixed_signed.f bt111.1 true).bind fun bt121 => (some (bt121.1, bt121.2))) else (if (IntKind.u64.wrap (bt111.1 + 1)) = 0 then (some (0, false)) else ((fixed_signed.f (IntKind.u64.wrap (bt111.1 + 1)) true).bind fun bt123 => (some (bt123.1, bt123.2))))))) else (if a1 < 0 then (if a2 < 0 then ((fixed_signed.f bt111.1 false).bind fun bt125 => (some (bt125.1, bt125.2))) else (if bt111.2 = 0 then ((fixed_signed.f bt111.1 true).bind fun bt127 => (some (bt127.1, bt127.2))) else (if (IntKind.u64.wrap (bt111.1 + 1)) = 0 then (some (0, false)) else ((fixed_signed.f (IntKind.u64.wrap (bt111.1 + 1)) true).bind fun bt129 => (some (bt129.1, bt129.2)))))) else (if a2 < 0 then (if bt111.2 = 0 then ((fixed_signed.f bt111.1 true).bind fun bt131 => (some (bt131.1, bt131.2))) else (if (IntKind.u64.wrap (bt111.1 + 1)) = 0 then (some (0, false)) else ((fixed_signed.f (IntKind.u64.wrap (bt111.1 + 1)) true).bind fun bt133 => (some (bt133.1, bt133.2))))) else ((fixed_signed.f bt111.1 false).bind fun bt135 => (some (bt135.1, bt135.2))))))))))))
theorem fixed_MulDiv.mono : ∀ a0 a1 a2 k, LeO (fixed_MulDiv.f k a0 a1 a2) (fixed_MulDiv.f (k + 1) a0 a1 a2) := by
  intro a0 a1 a2 k
  unfold fixed_MulDiv.f
  repeat' first
      | (with_reducible exact bits_Div64.mono _ _ _ _)
      | (with_reducible exact LeO.refl _)
      | (with_reducible exact LeO.none _)
      | (with_reducible refine LeO.ite ?_ ?_)
      | (with_reducible refine LeO.bind ?_ (fun _ => ?_))
      | exact bits_Div64.mono _ _ _ _
      | exact LeO.none _
      | refine LeO.ite ?_ ?_
      | refine LeO.bind ?_ (fun _ => ?_)
set_option maxHeartbeats 8000000 in
set_option maxRecDepth 100000 in
theorem fixed_MulDiv.calls (k : Nat) (a0 : Int) (a1 : Int) (a2 : Int) (r1 : Int) (r2 : Bool) (w : World) (h : fixed_MulDiv.f k a0 a1 a2 = some (r1, r2)) :
    Calls Try.prog 32 #[.int .i64 a0, .int .i64 a1, .int .i64 a2] w fun e w' => e = .returned (.tuple #[.int .i64 r1, .bool r2]) ∧ Drawn0 w w' := by
  have H : ((fixed_size.f a0).bind fun t105 => ((fixed_size.f a1).bind fun t106 => ((bits_Mul64.f t105 t106).bind fun bt107 => ((fixed_size.f a2).bind fun t109 => (if bt107.1 ≥ t109 then (some (0, false)) else ((fixed_size.f a2).bind fun t110 => ((bits_Div64.f k bt107.1 bt107.2 t110).bind fun bt111 => (if a0 < 0 then (if a1 < 0 then (if a2 < 0 then (if bt111.2 = 0 then ((fixed_signed.f bt111.1 true).bind fun bt113 => (some (bt113.1, bt113.2))) else (if (IntKind.u64.wrap (bt111.1 + 1)) = 0 then (some (0, false)) else ((fixed_signed.f (IntKind.u64.wrap (bt111.1 + 1)) true).bind fun bt115 => (some (bt115.1, bt115.2))))) else ((fixed_signed.f bt111.1 false).bind fun bt117 => (some (bt117.1, bt117.2)))) else (if a2 < 0 then ((fixed_signed.f bt111.1 false).bind fun bt119 => (some (bt119.1, bt119.2))) else (if bt111.2 = 0 then ((fixed_signed.f bt111.1 true).bind fun bt121 => (some (bt121.1, bt121.2))) else (if (IntKind.u64.wrap (bt111.1 + 1)) = 0 then (some (0, false)) else ((fixed_signed.f (IntKind.u64.wrap (bt111.1 + 1)) true).bind fun bt123 => (some (bt123.1, bt123.2))))))) else (if a1 < 0 then (if a2 < 0 then ((fixed_signed.f bt111.1 false).bind fun bt125 => (some (bt125.1, bt125.2))) else (if bt111.2 = 0 then ((fixed_signed.f bt111.1 true).bind fun bt127 => (some (bt127.1, bt127.2))) else (if (IntKind.u64.wrap (bt111.1 + 1)) = 0 then (some (0, false)) else ((fixed_signed.f (IntKind.u64.wrap (bt111.1 + 1)) true).bind fun bt129 => (some (bt129.1, bt129.2)))))) else (if a2 < 0 then (if bt111.2 = 0 then ((fixed_signed.f bt111.1 true).bind fun bt131 => (some (bt131.1, bt131.2))) else (if (IntKind.u64.wrap (bt111.1 + 1)) = 0 then (some (0, false)) else ((fixed_signed.f (IntKind.u64.wrap (bt111.1 + 1)) true).bind fun bt133 => (some (bt133.1, bt133.2))))) else ((fixed_signed.f bt111.1 false).bind fun bt135 => (some (bt135.1, bt135.2))))))))))))) = some (r1, r2) := h
  clear h
  replace H := Option.bind_eq_some_iff.mp H
  obtain ⟨t105, A40, H⟩ := H
  replace H : ((fixed_size.f a1).bind fun t106 => ((bits_Mul64.f t105 t106).bind fun bt107 => ((fixed_size.f a2).bind fun t109 => (if bt107.1 ≥ t109 then (some (0, false)) else ((fixed_size.f a2).bind fun t110 => ((bits_Div64.f k bt107.1 bt107.2 t110).bind fun bt111 => (if a0 < 0 then (if a1 < 0 then (if a2 < 0 then (if bt111.2 = 0 then ((fixed_signed.f bt111.1 true).bind fun bt113 => (some (bt113.1, bt113.2))) else (if (IntKind.u64.wrap (bt111.1 + 1)) = 0 then (some (0, false)) else ((fixed_signed.f (IntKind.u64.wrap (bt111.1 + 1)) true).bind fun bt115 => (some (bt115.1, bt115.2))))) else ((fixed_signed.f bt111.1 false).bind fun bt117 => (some (bt117.1, bt117.2)))) else (if a2 < 0 then ((fixed_signed.f bt111.1 false).bind fun bt119 => (some (bt119.1, bt119.2))) else (if bt111.2 = 0 then ((fixed_signed.f bt111.1 true).bind fun bt121 => (some (bt121.1, bt121.2))) else (if (IntKind.u64.wrap (bt111.1 + 1)) = 0 then (some (0, false)) else ((fixed_signed.f (IntKind.u64.wrap (bt111.1 + 1)) true).bind fun bt123 => (some (bt123.1, bt123.2))))))) else (if a1 < 0 then (if a2 < 0 then ((fixed_signed.f bt111.1 false).bind fun bt125 => (some (bt125.1, bt125.2))) else (if bt111.2 = 0 then ((fixed_signed.f bt111.1 true).bind fun bt127 => (some (bt127.1, bt127.2))) else (if (IntKind.u64.wrap (bt111.1 + 1)) = 0 then (some (0, false)) else ((fixed_signed.f (IntKind.u64.wrap (bt111.1 + 1)) true).bind fun bt129 => (some (bt129.1, bt129.2)))))) else (if a2 < 0 then (if bt111.2 = 0 then ((fixed_signed.f bt111.1 true).bind fun bt131 => (some (bt131.1, bt131.2))) else (if (IntKind.u64.wrap (bt111.1 + 1)) = 0 then (some (0, false)) else ((fixed_signed.f (IntKind.u64.wrap (bt111.1 + 1)) true).bind fun bt133 => (some (bt133.1, bt133.2))))) else ((fixed_signed.f bt111.1 false).bind fun bt135 => (some (bt135.1, bt135.2)))))))))))) = some (r1, r2) := H
  have A4 := Aside0.mk A40
  clear A40
  replace H := Option.bind_eq_some_iff.mp H
  obtain ⟨t106, A50, H⟩ := H
  replace H : ((bits_Mul64.f t105 t106).bind fun bt107 => ((fixed_size.f a2).bind fun t109 => (if bt107.1 ≥ t109 then (some (0, false)) else ((fixed_size.f a2).bind fun t110 => ((bits_Div64.f k bt107.1 bt107.2 t110).bind fun bt111 => (if a0 < 0 then (if a1 < 0 then (if a2 < 0 then (if bt111.2 = 0 then ((fixed_signed.f bt111.1 true).bind fun bt113 => (some (bt113.1, bt113.2))) else (if (IntKind.u64.wrap (bt111.1 + 1)) = 0 then (some (0, false)) else ((fixed_signed.f (IntKind.u64.wrap (bt111.1 + 1)) true).bind fun bt115 => (some (bt115.1, bt115.2))))) else ((fixed_signed.f bt111.1 false).bind fun bt117 => (some (bt117.1, bt117.2)))) else (if a2 < 0 then ((fixed_signed.f bt111.1 false).bind fun bt119 => (some (bt119.1, bt119.2))) else (if bt111.2 = 0 then ((fixed_signed.f bt111.1 true).bind fun bt121 => (some (bt121.1, bt121.2))) else (if (IntKind.u64.wrap (bt111.1 + 1)) = 0 then (some (0, false)) else ((fixed_signed.f (IntKind.u64.wrap (bt111.1 + 1)) true).bind fun bt123 => (some (bt123.1, bt123.2))))))) else (if a1 < 0 then (if a2 < 0 then ((fixed_signed.f bt111.1 false).bind fun bt125 => (some (bt125.1, bt125.2))) else (if bt111.2 = 0 then ((fixed_signed.f bt111.1 true).bind fun bt127 => (some (bt127.1, bt127.2))) else (if (IntKind.u64.wrap (bt111.1 + 1)) = 0 then (some (0, false)) else ((fixed_signed.f (IntKind.u64.wrap (bt111.1 + 1)) true).bind fun bt129 => (some (bt129.1, bt129.2)))))) else (if a2 < 0 then (if bt111.2 = 0 then ((fixed_signed.f bt111.1 true).bind fun bt131 => (some (bt131.1, bt131.2))) else (if (IntKind.u64.wrap (bt111.1 + 1)) = 0 then (some (0, false)) else ((fixed_signed.f (IntKind.u64.wrap (bt111.1 + 1)) true).bind fun bt133 => (some (bt133.1, bt133.2))))) else ((fixed_signed.f bt111.1 false).bind fun bt135 => (some (bt135.1, bt135.2))))))))))) = some (r1, r2) := H
  have A5 := Aside0.mk A50
  clear A50
  replace H := Option.bind_eq_some_iff.mp H
  obtain ⟨⟨t107, t108⟩, A60, H⟩ := H
  replace H : ((fixed_size.f a2).bind fun t109 => (if t107 ≥ t109 then (some (0, false)) else ((fixed_size.f a2).bind fun t110 => ((bits_Div64.f k t107 t108 t110).bind fun bt111 => (if a0 < 0 then (if a1 < 0 then (if a2 < 0 then (if bt111.2 = 0 then ((fixed_signed.f bt111.1 true).bind fun bt113 => (some (bt113.1, bt113.2))) else (if (IntKind.u64.wrap (bt111.1 + 1)) = 0 then (some (0, false)) else ((fixed_signed.f (IntKind.u64.wrap (bt111.1 + 1)) true).bind fun bt115 => (some (bt115.1, bt115.2))))) else ((fixed_signed.f bt111.1 false).bind fun bt117 => (some (bt117.1, bt117.2)))) else (if a2 < 0 then ((fixed_signed.f bt111.1 false).bind fun bt119 => (some (bt119.1, bt119.2))) else (if bt111.2 = 0 then ((fixed_signed.f bt111.1 true).bind fun bt121 => (some (bt121.1, bt121.2))) else (if (IntKind.u64.wrap (bt111.1 + 1)) = 0 then (some (0, false)) else ((fixed_signed.f (IntKind.u64.wrap (bt111.1 + 1)) true).bind fun bt123 => (some (bt123.1, bt123.2))))))) else (if a1 < 0 then (if a2 < 0 then ((fixed_signed.f bt111.1 false).bind fun bt125 => (some (bt125.1, bt125.2))) else (if bt111.2 = 0 then ((fixed_signed.f bt111.1 true).bind fun bt127 => (some (bt127.1, bt127.2))) else (if (IntKind.u64.wrap (bt111.1 + 1)) = 0 then (some (0, false)) else ((fixed_signed.f (IntKind.u64.wrap (bt111.1 + 1)) true).bind fun bt129 => (some (bt129.1, bt129.2)))))) else (if a2 < 0 then (if bt111.2 = 0 then ((fixed_signed.f bt111.1 true).bind fun bt131 => (some (bt131.1, bt131.2))) else (if (IntKind.u64.wrap (bt111.1 + 1)) = 0 then (some (0, false)) else ((fixed_signed.f (IntKind.u64.wrap (bt111.1 + 1)) true).bind fun bt133 => (some (bt133.1, bt133.2))))) else ((fixed_signed.f bt111.1 false).bind fun bt135 => (some (bt135.1, bt135.2)))))))))) = some (r1, r2) := H
  have A6 := Aside0.mk A60
  clear A60
  replace H := Option.bind_eq_some_iff.mp H
  obtain ⟨t109, A70, H⟩ := H
  replace H : (if t107 ≥ t109 then (some (0, false)) else ((fixed_size.f a2).bind fun t110 => ((bits_Div64.f k t107 t108 t110).bind fun bt111 => (if a0 < 0 then (if a1 < 0 then (if a2 < 0 then (if bt111.2 = 0 then ((fixed_signed.f bt111.1 true).bind fun bt113 => (some (bt113.1, bt113.2))) else (if (IntKind.u64.wrap (bt111.1 + 1)) = 0 then (some (0, false)) else ((fixed_signed.f (IntKind.u64.wrap (bt111.1 + 1)) true).bind fun bt115 => (some (bt115.1, bt115.2))))) else ((fixed_signed.f bt111.1 false).bind fun bt117 => (some (bt117.1, bt117.2)))) else (if a2 < 0 then ((fixed_signed.f bt111.1 false).bind fun bt119 => (some (bt119.1, bt119.2))) else (if bt111.2 = 0 then ((fixed_signed.f bt111.1 true).bind fun bt121 => (some (bt121.1, bt121.2))) else (if (IntKind.u64.wrap (bt111.1 + 1)) = 0 then (some (0, false)) else ((fixed_signed.f (IntKind.u64.wrap (bt111.1 + 1)) true).bind fun bt123 => (some (bt123.1, bt123.2))))))) else (if a1 < 0 then (if a2 < 0 then ((fixed_signed.f bt111.1 false).bind fun bt125 => (some (bt125.1, bt125.2))) else (if bt111.2 = 0 then ((fixed_signed.f bt111.1 true).bind fun bt127 => (some (bt127.1, bt127.2))) else (if (IntKind.u64.wrap (bt111.1 + 1)) = 0 then (some (0, false)) else ((fixed_signed.f (IntKind.u64.wrap (bt111.1 + 1)) true).bind fun bt129 => (some (bt129.1, bt129.2)))))) else (if a2 < 0 then (if bt111.2 = 0 then ((fixed_signed.f bt111.1 true).bind fun bt131 => (some (bt131.1, bt131.2))) else (if (IntKind.u64.wrap (bt111.1 + 1)) = 0 then (some (0, false)) else ((fixed_signed.f (IntKind.u64.wrap (bt111.1 + 1)) true).bind fun bt133 => (some (bt133.1, bt133.2))))) else ((fixed_signed.f bt111.1 false).bind fun bt135 => (some (bt135.1, bt135.2))))))))) = some (r1, r2) := H
  have A7 := Aside0.mk A70
  clear A70
  by_cases c8 : t107 ≥ t109
  · rw [if_pos c8] at H
    have c8b0 : decide (t109 ≤ t107) = true := decide_eq_true c8
    clear c8
    simp only [Option.some.injEq, Prod.mk.injEq] at H
    obtain ⟨rfl, rfl⟩ := H
    go_enter Try.func32, Try.ntmps32
    go_wp2_with (first | ((with_reducible refine gate_callee (f := 37) rfl ?_); refine goesL_ (some 15) rfl rfl Try.func37 (by kernel_rfl) rfl #[.int .i64 a0] rfl sl_ ?_; (with_reducible refine (fixed_size.calls a0 t105 _ A4.out).mono ?_); rintro e w' ⟨rfl, ⟨nd, rfl⟩⟩; refine ⟨_, rfl, ?_⟩) | ((with_reducible refine gate_callee (f := 37) rfl ?_); refine goesL_ (some 17) rfl rfl Try.func37 (by kernel_rfl) rfl #[.int .i64 a1] rfl sl_ ?_; (with_reducible refine (fixed_size.calls a1 t106 _ A5.out).mono ?_); rintro e w' ⟨rfl, ⟨nd, rfl⟩⟩; refine ⟨_, rfl, ?_⟩) | ((with_reducible refine gate_callee (f := 36) rfl ?_); refine goesL_ (some 18) rfl rfl Try.func36 (by kernel_rfl) rfl #[.int .u64 t105, .int .u64 t106] rfl sl_ ?_; (with_reducible refine (bits_Mul64.calls t105 t106 t107 t108 _ A6.out).mono ?_); rintro e w' ⟨rfl, ⟨nd, rfl⟩⟩; refine ⟨_, rfl, ?_⟩) | ((with_reducible refine gate_callee (f := 37) rfl ?_); refine goesL_ (some 23) rfl rfl Try.func37 (by kernel_rfl) rfl #[.int .i64 a2] rfl sl_ ?_; (with_reducible refine (fixed_size.calls a2 t109 _ A7.out).mono ?_); rintro e w' ⟨rfl, ⟨nd, rfl⟩⟩; refine ⟨_, rfl, ?_⟩))
    go_ret2
    exact ⟨by first | rfl | (simp; done) | (simp [*]; done), by repeat (first | exact Drawn0.refl _ | apply Drawn0.step)⟩
  · rw [if_neg c8] at H
    have c8b0 : decide (t109 ≤ t107) = false := decide_eq_false c8
    clear c8
    replace H := Option.bind_eq_some_iff.mp H
    obtain ⟨t110, A90, H⟩ := H
    replace H : ((bits_Div64.f k t107 t108 t110).bind fun bt111 => (if a0 < 0 then (if a1 < 0 then (if a2 < 0 then (if bt111.2 = 0 then ((fixed_signed.f bt111.1 true).bind fun bt113 => (some (bt113.1, bt113.2))) else (if (IntKind.u64.wrap (bt111.1 + 1)) = 0 then (some (0, false)) else ((fixed_signed.f (IntKind.u64.wrap (bt111.1 + 1)) true).bind fun bt115 => (some (bt115.1, bt115.2))))) else ((fixed_signed.f bt111.1 false).bind fun bt117 => (some (bt117.1, bt117.2)))) else (if a2 < 0 then ((fixed_signed.f bt111.1 false).bind fun bt119 => (some (bt119.1, bt119.2))) else (if bt111.2 = 0 then ((fixed_signed.f bt111.1 true).bind fun bt121 => (some (bt121.1, bt121.2))) else (if (IntKind.u64.wrap (bt111.1 + 1)) = 0 then (some (0, false)) else ((fixed_signed.f (IntKind.u64.wrap (bt111.1 + 1)) true).bind fun bt123 => (some (bt123.1, bt123.2))))))) else (if a1 < 0 then (if a2 < 0 then ((fixed_signed.f bt111.1 false).bind fun bt125 => (some (bt125.1, bt125.2))) else (if bt111.2 = 0 then ((fixed_signed.f bt111.1 true).bind fun bt127 => (some (bt127.1, bt127.2))) else (if (IntKind.u64.wrap (bt111.1 + 1)) = 0 then (some (0, false)) else ((fixed_signed.f (IntKind.u64.wrap (bt111.1 + 1)) true).bind fun bt129 => (some (bt129.1, bt129.2)))))) else (if a2 < 0 then (if bt111.2 = 0 then ((fixed_signed.f bt111.1 true).bind fun bt131 => (some (bt131.1, bt131.2))) else (if (IntKind.u64.wrap (bt111.1 + 1)) = 0 then (some (0, false)) else ((fixed_signed.f (IntKind.u64.wrap (bt111.1 + 1)) true).bind fun bt133 => (some (bt133.1, bt133.2))))) else ((fixed_signed.f bt111.1 false).bind fun bt135 => (some (bt135.1, bt135.2))))))) = some (r1, r2) := H
    have A9 := Aside0.mk A90
    clear A90
    replace H := Option.bind_eq_some_iff.mp H
    obtain ⟨⟨t111, t112⟩, A100, H⟩ := H
    replace H : (if a0 < 0 then (if a1 < 0 then (if a2 < 0 then (if t112 = 0 then ((fixed_signed.f t111 true).bind fun bt113 => (some (bt113.1, bt113.2))) else (if (IntKind.u64.wrap (t111 + 1)) = 0 then (some (0, false)) else ((fixed_signed.f (IntKind.u64.wrap (t111 + 1)) true).bind fun bt115 => (some (bt115.1, bt115.2))))) else ((fixed_signed.f t111 false).bind fun bt117 => (some (bt117.1, bt117.2)))) else (if a2 < 0 then ((fixed_signed.f t111 false).bind fun bt119 => (some (bt119.1, bt119.2))) else (if t112 = 0 then ((fixed_signed.f t111 true).bind fun bt121 => (some (bt121.1, bt121.2))) else (if (IntKind.u64.wrap (t111 + 1)) = 0 then (some (0, false)) else ((fixed_signed.f (IntKind.u64.wrap (t111 + 1)) true).bind fun bt123 => (some (bt123.1, bt123.2))))))) else (if a1 < 0 then (if a2 < 0 then ((fixed_signed.f t111 false).bind fun bt125 => (some (bt125.1, bt125.2))) else (if t112 = 0 then ((fixed_signed.f t111 true).bind fun bt127 => (some (bt127.1, bt127.2))) else (if (IntKind.u64.wrap (t111 + 1)) = 0 then (some (0, false)) else ((fixed_signed.f (IntKind.u64.wrap (t111 + 1)) true).bind fun bt129 => (some (bt129.1, bt129.2)))))) else (if a2 < 0 then (if t112 = 0 then ((fixed_signed.f t111 true).bind fun bt131 => (some (bt131.1, bt131.2))) else (if (IntKind.u64.wrap (t111 + 1)) = 0 then (some (0, false)) else ((fixed_signed.f (IntKind.u64.wrap (t111 + 1)) true).bind fun bt133 => (some (bt133.1, bt133.2))))) else ((fixed_signed.f t111 false).bind fun bt135 => (some (bt135.1, bt135.2)))))) = some (r1, r2) := H
    have A10 := Aside0.mk A100
    clear A100
    by_cases c11 : a0 < 0
    · rw [if_pos c11] at H
      have c11b0 : decide (a0 < 0) = true := decide_eq_true c11
      clear c11
      by_cases c12 : a1 < 0
      · rw [if_pos c12] at H
        have c12b0 : decide (a1 < 0) = true := decide_eq_true c12
        clear c12
        by_cases c13 : a2 < 0
        · rw [if_pos c13] at H
          have c13b0 : decide (a2 < 0) = true := decide_eq_true c13
          clear c13
          by_cases c14 : t112 = 0
          · rw [if_pos c14] at H
            have c14b0 : (t112 == 0) = true := beq_iff_eq.mpr c14
            have c14b1 : (t112 != 0) = false := bne_eq_false_iff_eq.mpr c14
            clear c14
            replace H := Option.bind_eq_some_iff.mp H
            obtain ⟨⟨t113, t114⟩, A150, H⟩ := H
            replace H : (some (t113, t114)) = some (r1, r2) := H
            have A15 := Aside0.mk A150
            clear A150
            simp only [Option.some.injEq, Prod.mk.injEq] at H
            obtain ⟨rfl, rfl⟩ := H
            go_enter Try.func32, Try.ntmps32
            go_wp2_with (first | ((with_reducible refine gate_callee (f := 37) rfl ?_); refine goesL_ (some 15) rfl rfl Try.func37 (by kernel_rfl) rfl #[.int .i64 a0] rfl sl_ ?_; (with_reducible refine (fixed_size.calls a0 t105 _ A4.out).mono ?_); rintro e w' ⟨rfl, ⟨nd, rfl⟩⟩; refine ⟨_, rfl, ?_⟩) | ((with_reducible refine gate_callee (f := 37) rfl ?_); refine goesL_ (some 17) rfl rfl Try.func37 (by kernel_rfl) rfl #[.int .i64 a1] rfl sl_ ?_; (with_reducible refine (fixed_size.calls a1 t106 _ A5.out).mono ?_); rintro e w' ⟨rfl, ⟨nd, rfl⟩⟩; refine ⟨_, rfl, ?_⟩) | ((with_reducible refine gate_callee (f := 36) rfl ?_); refine goesL_ (some 18) rfl rfl Try.func36 (by kernel_rfl) rfl #[.int .u64 t105, .int .u64 t106] rfl sl_ ?_; (with_reducible refine (bits_Mul64.calls t105 t106 t107 t108 _ A6.out).mono ?_); rintro e w' ⟨rfl, ⟨nd, rfl⟩⟩; refine ⟨_, rfl, ?_⟩) | ((with_reducible refine gate_callee (f := 37) rfl ?_); refine goesL_ (some 23) rfl rfl Try.func37 (by kernel_rfl) rfl #[.int .i64 a2] rfl sl_ ?_; (with_reducible refine (fixed_size.calls a2 t109 _ A7.out).mono ?_); rintro e w' ⟨rfl, ⟨nd, rfl⟩⟩; refine ⟨_, rfl, ?_⟩) | ((with_reducible refine gate_callee (f := 37) rfl ?_); refine goesL_ (some 29) rfl rfl Try.func37 (by kernel_rfl) rfl #[.int .i64 a2] rfl sl_ ?_; (with_reducible refine (fixed_size.calls a2 t110 _ A9.out).mono ?_); rintro e w' ⟨rfl, ⟨nd, rfl⟩⟩; refine ⟨_, rfl, ?_⟩) | ((with_reducible refine gate_callee (f := 38) rfl ?_); refine goesL_ (some 30) rfl rfl Try.func38 (by kernel_rfl) rfl #[.int .u64 t107, .int .u64 t108, .int .u64 t110] rfl sl_ ?_; (with_reducible refine (bits_Div64.calls k t107 t108 t110 t111 t112 _ A10.out).mono ?_); rintro e w' ⟨rfl, ⟨nd, rfl⟩⟩; refine ⟨_, rfl, ?_⟩) | ((with_reducible refine gate_callee (f := 39) rfl ?_); refine goesL_ (some 52) rfl rfl Try.func39 (by kernel_rfl) rfl #[.int .u64 t111, .bool true] rfl sl_ ?_; (with_reducible refine (fixed_signed.calls t111 true t113 t114 _ A15.out).mono ?_); rintro e w' ⟨rfl, ⟨nd, rfl⟩⟩; refine ⟨_, rfl, ?_⟩))
            go_ret2
            exact ⟨by first | rfl | (simp; done) | (simp [*]; done), by repeat (first | exact Drawn0.refl _ | apply Drawn0.step)⟩
          · rw [if_neg c14] at H
            have c14b0 : (t112 == 0) = false := beq_eq_false_iff_ne.mpr c14
            have c14b1 : (t112 != 0) = true := bne_iff_ne.mpr c14
            by_cases c16 : (IntKind.u64.wrap (t111 + 1)) = 0
            · rw [if_pos c16] at H
              have c16b0 : ((IntKind.u64.wrap (t111 + 1)) == 0) = true := beq_iff_eq.mpr c16
              have c16b1 : ((IntKind.u64.wrap (t111 + 1)) != 0) = false := bne_eq_false_iff_eq.mpr c16
              clear c16
              simp only [Option.some.injEq, Prod.mk.injEq] at H
              obtain ⟨rfl, rfl⟩ := H
              go_enter Try.func32, Try.ntmps32
              go_wp2_with (first | ((with_reducible refine gate_callee (f := 37) rfl ?_); refine goesL_ (some 15) rfl rfl Try.func37 (by kernel_rfl) rfl #[.int .i64 a0] rfl sl_ ?_; (with_reducible refine (fixed_size.calls a0 t105 _ A4.out).mono ?_); rintro e w' ⟨rfl, ⟨nd, rfl⟩⟩; refine ⟨_, rfl, ?_⟩) | ((with_reducible refine gate_callee (f := 37) rfl ?_); refine goesL_ (some 17) rfl rfl Try.func37 (by kernel_rfl) rfl #[.int .i64 a1] rfl sl_ ?_; (with_reducible refine (fixed_size.calls a1 t106 _ A5.out).mono ?_); rintro e w' ⟨rfl, ⟨nd, rfl⟩⟩; refine ⟨_, rfl, ?_⟩) | ((with_reducible refine gate_callee (f := 36) rfl ?_); refine goesL_ (some 18) rfl rfl Try.func36 (by kernel_rfl) rfl #[.int .u64 t105, .int .u64 t106] rfl sl_ ?_; (with_reducible refine (bits_Mul64.calls t105 t106 t107 t108 _ A6.out).mono ?_); rintro e w' ⟨rfl, ⟨nd, rfl⟩⟩; refine ⟨_, rfl, ?_⟩) | ((with_reducible refine gate_callee (f := 37) rfl ?_); refine goesL_ (some 23) rfl rfl Try.func37 (by kernel_rfl) rfl #[.int .i64 a2] rfl sl_ ?_; (with_reducible refine (fixed_size.calls a2 t109 _ A7.out).mono ?_); rintro e w' ⟨rfl, ⟨nd, rfl⟩⟩; refine ⟨_, rfl, ?_⟩) | ((with_reducible refine gate_callee (f := 37) rfl ?_); refine goesL_ (some 29) rfl rfl Try.func37 (by kernel_rfl) rfl #[.int .i64 a2] rfl sl_ ?_; (with_reducible refine (fixed_size.calls a2 t110 _ A9.out).mono ?_); rintro e w' ⟨rfl, ⟨nd, rfl⟩⟩; refine ⟨_, rfl, ?_⟩) | ((with_reducible refine gate_callee (f := 38) rfl ?_); refine goesL_ (some 30) rfl rfl Try.func38 (by kernel_rfl) rfl #[.int .u64 t107, .int .u64 t108, .int .u64 t110] rfl sl_ ?_; (with_reducible refine (bits_Div64.calls k t107 t108 t110 t111 t112 _ A10.out).mono ?_); rintro e w' ⟨rfl, ⟨nd, rfl⟩⟩; refine ⟨_, rfl, ?_⟩))
              go_ret2
              exact ⟨by first | rfl | (simp; done) | (simp [*]; done), by repeat (first | exact Drawn0.refl _ | apply Drawn0.step)⟩
            · rw [if_neg c16] at H
              have c16b0 : ((IntKind.u64.wrap (t111 + 1)) == 0) = false := beq_eq_false_iff_ne.mpr c16
              have c16b1 : ((IntKind.u64.wrap (t111 + 1)) != 0) = true := bne_iff_ne.mpr c16
              replace H := Option.bind_eq_some_iff.mp H
              obtain ⟨⟨t115, t116⟩, A170, H⟩ := H
              replace H : (some (t115, t116)) = some (r1, r2) := H
              have A17 := Aside0.mk A170
              clear A170
              simp only [Option.some.injEq, Prod.mk.injEq] at H
              obtain ⟨rfl, rfl⟩ := H
              go_enter Try.func32, Try.ntmps32
              go_wp2_with (first | ((with_reducible refine gate_callee (f := 37) rfl ?_); refine goesL_ (some 15) rfl rfl Try.func37 (by kernel_rfl) rfl #[.int .i64 a0] rfl sl_ ?_; (with_reducible refine (fixed_size.calls a0 t105 _ A4.out).mono ?_); rintro e w' ⟨rfl, ⟨nd, rfl⟩⟩; refine ⟨_, rfl, ?_⟩) | ((with_reducible refine gate_callee (f := 37) rfl ?_); refine goesL_ (some 17) rfl rfl Try.func37 (by kernel_rfl) rfl #[.int .i64 a1] rfl sl_ ?_; (with_reducible refine (fixed_size.calls a1 t106 _ A5.out).mono ?_); rintro e w' ⟨rfl, ⟨nd, rfl⟩⟩; refine ⟨_, rfl, ?_⟩) | ((with_reducible refine gate_callee (f := 36) rfl ?_); refine goesL_ (some 18) rfl rfl Try.func36 (by kernel_rfl) rfl #[.int .u64 t105, .int .u64 t106] rfl sl_ ?_; (with_reducible refine (bits_Mul64.calls t105 t106 t107 t108 _ A6.out).mono ?_); rintro e w' ⟨rfl, ⟨nd, rfl⟩⟩; refine ⟨_, rfl, ?_⟩) | ((with_reducible refine gate_callee (f := 37) rfl ?_); refine goesL_ (some 23) rfl rfl Try.func37 (by kernel_rfl) rfl #[.int .i64 a2] rfl sl_ ?_; (with_reducible refine (fixed_size.calls a2 t109 _ A7.out).mono ?_); rintro e w' ⟨rfl, ⟨nd, rfl⟩⟩; refine ⟨_, rfl, ?_⟩) | ((with_reducible refine gate_callee (f := 37) rfl ?_); refine goesL_ (some 29) rfl rfl Try.func37 (by kernel_rfl) rfl #[.int .i64 a2] rfl sl_ ?_; (with_reducible refine (fixed_size.calls a2 t110 _ A9.out).mono ?_); rintro e w' ⟨rfl, ⟨nd, rfl⟩⟩; refine ⟨_, rfl, ?_⟩) | ((with_reducible refine gate_callee (f := 38) rfl ?_); refine goesL_ (some 30) rfl rfl Try.func38 (by kernel_rfl) rfl #[.int .u64 t107, .int .u64 t108, .int .u64 t110] rfl sl_ ?_; (with_reducible refine (bits_Div64.calls k t107 t108 t110 t111 t112 _ A10.out).mono ?_); rintro e w' ⟨rfl, ⟨nd, rfl⟩⟩; refine ⟨_, rfl, ?_⟩) | ((with_reducible refine gate_callee (f := 39) rfl ?_); refine goesL_ (some 52) rfl rfl Try.func39 (by kernel_rfl) rfl #[.int .u64 (IntKind.u64.wrap (t111 + 1)), .bool true] rfl sl_ ?_; (with_reducible refine (fixed_signed.calls (IntKind.u64.wrap (t111 + 1)) true t115 t116 _ A17.out).mono ?_); rintro e w' ⟨rfl, ⟨nd, rfl⟩⟩; refine ⟨_, rfl, ?_⟩))
              go_ret2
              exact ⟨by first | rfl | (simp; done) | (simp [*]; done), by repeat (first | exact Drawn0.refl _ | apply Drawn0.step)⟩
        · rw [if_neg c13] at H
          have c13b0 : decide (a2 < 0) = false := decide_eq_false c13
          clear c13
          replace H := Option.bind_eq_some_iff.mp H
          obtain ⟨⟨t117, t118⟩, A180, H⟩ := H
          replace H : (some (t117, t118)) = some (r1, r2) := H
          have A18 := Aside0.mk A180
          clear A180
          simp only [Option.some.injEq, Prod.mk.injEq] at H
          obtain ⟨rfl, rfl⟩ := H
          go_enter Try.func32, Try.ntmps32
          go_wp2_with (first | ((with_reducible refine gate_callee (f := 37) rfl ?_); refine goesL_ (some 15) rfl rfl Try.func37 (by kernel_rfl) rfl #[.int .i64 a0] rfl sl_ ?_; (with_reducible refine (fixed_size.calls a0 t105 _ A4.out).mono ?_); rintro e w' ⟨rfl, ⟨nd, rfl⟩⟩; refine ⟨_, rfl, ?_⟩) | ((with_reducible refine gate_callee (f := 37) rfl ?_); refine goesL_ (some 17) rfl rfl Try.func37 (by kernel_rfl) rfl #[.int .i64 a1] rfl sl_ ?_; (with_reducible refine (fixed_size.calls a1 t106 _ A5.out).mono ?_); rintro e w' ⟨rfl, ⟨nd, rfl⟩⟩; refine ⟨_, rfl, ?_⟩) | ((with_reducible refine gate_callee (f := 36) rfl ?_); refine goesL_ (some 18) rfl rfl Try.func36 (by kernel_rfl) rfl #[.int .u64 t105, .int .u64 t106] rfl sl_ ?_; (with_reducible refine (bits_Mul64.calls t105 t106 t107 t108 _ A6.out).mono ?_); rintro e w' ⟨rfl, ⟨nd, rfl⟩⟩; refine ⟨_, rfl, ?_⟩) | ((with_reducible refine gate_callee (f := 37) rfl ?_); refine goesL_ (some 23) rfl rfl Try.func37 (by kernel_rfl) rfl #[.int .i64 a2] rfl sl_ ?_; (with_reducible refine (fixed_size.calls a2 t109 _ A7.out).mono ?_); rintro e w' ⟨rfl, ⟨nd, rfl⟩⟩; refine ⟨_, rfl, ?_⟩) | ((with_reducible refine gate_callee (f := 37) rfl ?_); refine goesL_ (some 29) rfl rfl Try.func37 (by kernel_rfl) rfl #[.int .i64 a2] rfl sl_ ?_; (with_reducible refine (fixed_size.calls a2 t110 _ A9.out).mono ?_); rintro e w' ⟨rfl, ⟨nd, rfl⟩⟩; refine ⟨_, rfl, ?_⟩) | ((with_reducible refine gate_callee (f := 38) rfl ?_); refine goesL_ (some 30) rfl rfl Try.func38 (by kernel_rfl) rfl #[.int .u64 t107, .int .u64 t108, .int .u64 t110] rfl sl_ ?_; (with_reducible refine (bits_Div64.calls k t107 t108 t110 t111 t112 _ A10.out).mono ?_); rintro e w' ⟨rfl, ⟨nd, rfl⟩⟩; refine ⟨_, rfl, ?_⟩) | ((with_reducible refine gate_callee (f := 39) rfl ?_); refine goesL_ (some 52) rfl rfl Try.func39 (by kernel_rfl) rfl #[.int .u64 t111, .bool false] rfl sl_ ?_; (with_reducible refine (fixed_signed.calls t111 false t117 t118 _ A18.out).mono ?_); rintro e w' ⟨rfl, ⟨nd, rfl⟩⟩; refine ⟨_, rfl, ?_⟩))
          go_ret2
          exact ⟨by first | rfl | (simp; done) | (simp [*]; done), by repeat (first | exact Drawn0.refl _ | apply Drawn0.step)⟩
      · rw [if_neg c12] at H
        have c12b0 : decide (a1 < 0) = false := decide_eq_false c12
        clear c12
        by_cases c19 : a2 < 0
        · rw [if_pos c19] at H
          have c19b0 : decide (a2 < 0) = true := decide_eq_true c19
          clear c19
          replace H := Option.bind_eq_some_iff.mp H
          obtain ⟨⟨t119, t120⟩, A200, H⟩ := H
          replace H : (some (t119, t120)) = some (r1, r2) := H
          have A20 := Aside0.mk A200
          clear A200
          simp only [Option.some.injEq, Prod.mk.injEq] at H
          obtain ⟨rfl, rfl⟩ := H
          go_enter Try.func32, Try.ntmps32
          go_wp2_with (first | ((with_reducible refine gate_callee (f := 37) rfl ?_); refine goesL_ (some 15) rfl rfl Try.func37 (by kernel_rfl) rfl #[.int .i64 a0] rfl sl_ ?_; (with_reducible refine (fixed_size.calls a0 t105 _ A4.out).mono ?_); rintro e w' ⟨rfl, ⟨nd, rfl⟩⟩; refine ⟨_, rfl, ?_⟩) | ((with_reducible refine gate_callee (f := 37) rfl ?_); refine goesL_ (some 17) rfl rfl Try.func37 (by kernel_rfl) rfl #[.int .i64 a1] rfl sl_ ?_; (with_reducible refine (fixed_size.calls a1 t106 _ A5.out).mono ?_); rintro e w' ⟨rfl, ⟨nd, rfl⟩⟩; refine ⟨_, rfl, ?_⟩) | ((with_reducible refine gate_callee (f := 36) rfl ?_); refine goesL_ (some 18) rfl rfl Try.func36 (by kernel_rfl) rfl #[.int .u64 t105, .int .u64 t106] rfl sl_ ?_; (with_reducible refine (bits_Mul64.calls t105 t106 t107 t108 _ A6.out).mono ?_); rintro e w' ⟨rfl, ⟨nd, rfl⟩⟩; refine ⟨_, rfl, ?_⟩) | ((with_reducible refine gate_callee (f := 37) rfl ?_); refine goesL_ (some 23) rfl rfl Try.func37 (by kernel_rfl) rfl #[.int .i64 a2] rfl sl_ ?_; (with_reducible refine (fixed_size.calls a2 t109 _ A7.out).mono ?_); rintro e w' ⟨rfl, ⟨nd, rfl⟩⟩; refine ⟨_, rfl, ?_⟩) | ((with_reducible refine gate_callee (f := 37) rfl ?_); refine goesL_ (some 29) rfl rfl Try.func37 (by kernel_rfl) rfl #[.int .i64 a2] rfl sl_ ?_; (with_reducible refine (fixed_size.calls a2 t110 _ A9.out).mono ?_); rintro e w' ⟨rfl, ⟨nd, rfl⟩⟩; refine ⟨_, rfl, ?_⟩) | ((with_reducible refine gate_callee (f := 38) rfl ?_); refine goesL_ (some 30) rfl rfl Try.func38 (by kernel_rfl) rfl #[.int .u64 t107, .int .u64 t108, .int .u64 t110] rfl sl_ ?_; (with_reducible refine (bits_Div64.calls k t107 t108 t110 t111 t112 _ A10.out).mono ?_); rintro e w' ⟨rfl, ⟨nd, rfl⟩⟩; refine ⟨_, rfl, ?_⟩) | ((with_reducible refine gate_callee (f := 39) rfl ?_); refine goesL_ (some 52) rfl rfl Try.func39 (by kernel_rfl) rfl #[.int .u64 t111, .bool false] rfl sl_ ?_; (with_reducible refine (fixed_signed.calls t111 false t119 t120 _ A20.out).mono ?_); rintro e w' ⟨rfl, ⟨nd, rfl⟩⟩; refine ⟨_, rfl, ?_⟩))
          go_ret2
          exact ⟨by first | rfl | (simp; done) | (simp [*]; done), by repeat (first | exact Drawn0.refl _ | apply Drawn0.step)⟩
        · rw [if_neg c19] at H
          have c19b0 : decide (a2 < 0) = false := decide_eq_false c19
          clear c19
          by_cases c21 : t112 = 0
          · rw [if_pos c21] at H
            have c21b0 : (t112 == 0) = true := beq_iff_eq.mpr c21
            have c21b1 : (t112 != 0) = false := bne_eq_false_iff_eq.mpr c21
            clear c21
            replace H := Option.bind_eq_some_iff.mp H
            obtain ⟨⟨t121, t122⟩, A220, H⟩ := H
            replace H : (some (t121, t122)) = some (r1, r2) := H
            have A22 := Aside0.mk A220
            clear A220
            simp only [Option.some.injEq, Prod.mk.injEq] at H
            obtain ⟨rfl, rfl⟩ := H
            go_enter Try.func32, Try.ntmps32
            go_wp2_with (first | ((with_reducible refine gate_callee (f := 37) rfl ?_); refine goesL_ (some 15) rfl rfl Try.func37 (by kernel_rfl) rfl #[.int .i64 a0] rfl sl_ ?_; (with_reducible refine (fixed_size.calls a0 t105 _ A4.out).mono ?_); rintro e w' ⟨rfl, ⟨nd, rfl⟩⟩; refine ⟨_, rfl, ?_⟩) | ((with_reducible refine gate_callee (f := 37) rfl ?_); refine goesL_ (some 17) rfl rfl Try.func37 (by kernel_rfl) rfl #[.int .i64 a1] rfl sl_ ?_; (with_reducible refine (fixed_size.calls a1 t106 _ A5.out).mono ?_); rintro e w' ⟨rfl, ⟨nd, rfl⟩⟩; refine ⟨_, rfl, ?_⟩) | ((with_reducible refine gate_callee (f := 36) rfl ?_); refine goesL_ (some 18) rfl rfl Try.func36 (by kernel_rfl) rfl #[.int .u64 t105, .int .u64 t106] rfl sl_ ?_; (with_reducible refine (bits_Mul64.calls t105 t106 t107 t108 _ A6.out).mono ?_); rintro e w' ⟨rfl, ⟨nd, rfl⟩⟩; refine ⟨_, rfl, ?_⟩) | ((with_reducible refine gate_callee (f := 37) rfl ?_); refine goesL_ (some 23) rfl rfl Try.func37 (by kernel_rfl) rfl #[.int .i64 a2] rfl sl_ ?_; (with_reducible refine (fixed_size.calls a2 t109 _ A7.out).mono ?_); rintro e w' ⟨rfl, ⟨nd, rfl⟩⟩; refine ⟨_, rfl, ?_⟩) | ((with_reducible refine gate_callee (f := 37) rfl ?_); refine goesL_ (some 29) rfl rfl Try.func37 (by kernel_rfl) rfl #[.int .i64 a2] rfl sl_ ?_; (with_reducible refine (fixed_size.calls a2 t110 _ A9.out).mono ?_); rintro e w' ⟨rfl, ⟨nd, rfl⟩⟩; refine ⟨_, rfl, ?_⟩) | ((with_reducible refine gate_callee (f := 38) rfl ?_); refine goesL_ (some 30) rfl rfl Try.func38 (by kernel_rfl) rfl #[.int .u64 t107, .int .u64 t108, .int .u64 t110] rfl sl_ ?_; (with_reducible refine (bits_Div64.calls k t107 t108 t110 t111 t112 _ A10.out).mono ?_); rintro e w' ⟨rfl, ⟨nd, rfl⟩⟩; refine ⟨_, rfl, ?_⟩) | ((with_reducible refine gate_callee (f := 39) rfl ?_); refine goesL_ (some 52) rfl rfl Try.func39 (by kernel_rfl) rfl #[.int .u64 t111, .bool true] rfl sl_ ?_; (with_reducible refine (fixed_signed.calls t111 true t121 t122 _ A22.out).mono ?_); rintro e w' ⟨rfl, ⟨nd, rfl⟩⟩; refine ⟨_, rfl, ?_⟩))
            go_ret2
            exact ⟨by first | rfl | (simp; done) | (simp [*]; done), by repeat (first | exact Drawn0.refl _ | apply Drawn0.step)⟩
          · rw [if_neg c21] at H
            have c21b0 : (t112 == 0) = false := beq_eq_false_iff_ne.mpr c21
            have c21b1 : (t112 != 0) = true := bne_iff_ne.mpr c21
            by_cases c23 : (IntKind.u64.wrap (t111 + 1)) = 0
            · rw [if_pos c23] at H
              have c23b0 : ((IntKind.u64.wrap (t111 + 1)) == 0) = true := beq_iff_eq.mpr c23
              have c23b1 : ((IntKind.u64.wrap (t111 + 1)) != 0) = false := bne_eq_false_iff_eq.mpr c23
              clear c23
              simp only [Option.some.injEq, Prod.mk.injEq] at H
              obtain ⟨rfl, rfl⟩ := H
              go_enter Try.func32, Try.ntmps32
              go_wp2_with (first | ((with_reducible refine gate_callee (f := 37) rfl ?_); refine goesL_ (some 15) rfl rfl Try.func37 (by kernel_rfl) rfl #[.int .i64 a0] rfl sl_ ?_; (with_reducible refine (fixed_size.calls a0 t105 _ A4.out).mono ?_); rintro e w' ⟨rfl, ⟨nd, rfl⟩⟩; refine ⟨_, rfl, ?_⟩) | ((with_reducible refine gate_callee (f := 37) rfl ?_); refine goesL_ (some 17) rfl rfl Try.func37 (by kernel_rfl) rfl #[.int .i64 a1] rfl sl_ ?_; (with_reducible refine (fixed_size.calls a1 t106 _ A5.out).mono ?_); rintro e w' ⟨rfl, ⟨nd, rfl⟩⟩; refine ⟨_, rfl, ?_⟩) | ((with_reducible refine gate_callee (f := 36) rfl ?_); refine goesL_ (some 18) rfl rfl Try.func36 (by kernel_rfl) rfl #[.int .u64 t105, .int .u64 t106] rfl sl_ ?_; (with_reducible refine (bits_Mul64.calls t105 t106 t107 t108 _ A6.out).mono ?_); rintro e w' ⟨rfl, ⟨nd, rfl⟩⟩; refine ⟨_, rfl, ?_⟩) | ((with_reducible refine gate_callee (f := 37) rfl ?_); refine goesL_ (some 23) rfl rfl Try.func37 (by kernel_rfl) rfl #[.int .i64 a2] rfl sl_ ?_; (with_reducible refine (fixed_size.calls a2 t109 _ A7.out).mono ?_); rintro e w' ⟨rfl, ⟨nd, rfl⟩⟩; refine ⟨_, rfl, ?_⟩) | ((with_reducible refine gate_callee (f := 37) rfl ?_); refine goesL_ (some 29) rfl rfl Try.func37 (by kernel_rfl) rfl #[.int .i64 a2] rfl sl_ ?_; (with_reducible refine (fixed_size.calls a2 t110 _ A9.out).mono ?_); rintro e w' ⟨rfl, ⟨nd, rfl⟩⟩; refine ⟨_, rfl, ?_⟩) | ((with_reducible refine gate_callee (f := 38) rfl ?_); refine goesL_ (some 30) rfl rfl Try.func38 (by kernel_rfl) rfl #[.int .u64 t107, .int .u64 t108, .int .u64 t110] rfl sl_ ?_; (with_reducible refine (bits_Div64.calls k t107 t108 t110 t111 t112 _ A10.out).mono ?_); rintro e w' ⟨rfl, ⟨nd, rfl⟩⟩; refine ⟨_, rfl, ?_⟩))
              go_ret2
              exact ⟨by first | rfl | (simp; done) | (simp [*]; done), by repeat (first | exact Drawn0.refl _ | apply Drawn0.step)⟩
            · rw [if_neg c23] at H
              have c23b0 : ((IntKind.u64.wrap (t111 + 1)) == 0) = false := beq_eq_false_iff_ne.mpr c23
              have c23b1 : ((IntKind.u64.wrap (t111 + 1)) != 0) = true := bne_iff_ne.mpr c23
              replace H := Option.bind_eq_some_iff.mp H
              obtain ⟨⟨t123, t124⟩, A240, H⟩ := H
              replace H : (some (t123, t124)) = some (r1, r2) := H
              have A24 := Aside0.mk A240
              clear A240
              simp only [Option.some.injEq, Prod.mk.injEq] at H
              obtain ⟨rfl, rfl⟩ := H
              go_enter Try.func32, Try.ntmps32
              go_wp2_with (first | ((with_reducible refine gate_callee (f := 37) rfl ?_); refine goesL_ (some 15) rfl rfl Try.func37 (by kernel_rfl) rfl #[.int .i64 a0] rfl sl_ ?_; (with_reducible refine (fixed_size.calls a0 t105 _ A4.out).mono ?_); rintro e w' ⟨rfl, ⟨nd, rfl⟩⟩; refine ⟨_, rfl, ?_⟩) | ((with_reducible refine gate_callee (f := 37) rfl ?_); refine goesL_ (some 17) rfl rfl Try.func37 (by kernel_rfl) rfl #[.int .i64 a1] rfl sl_ ?_; (with_reducible refine (fixed_size.calls a1 t106 _ A5.out).mono ?_); rintro e w' ⟨rfl, ⟨nd, rfl⟩⟩; refine ⟨_, rfl, ?_⟩) | ((with_reducible refine gate_callee (f := 36) rfl ?_); refine goesL_ (some 18) rfl rfl Try.func36 (by kernel_rfl) rfl #[.int .u64 t105, .int .u64 t106] rfl sl_ ?_; (with_reducible refine (bits_Mul64.calls t105 t106 t107 t108 _ A6.out).mono ?_); rintro e w' ⟨rfl, ⟨nd, rfl⟩⟩; refine ⟨_, rfl, ?_⟩) | ((with_reducible refine gate_callee (f := 37) rfl ?_); refine goesL_ (some 23) rfl rfl Try.func37 (by kernel_rfl) rfl #[.int .i64 a2] rfl sl_ ?_; (with_reducible refine (fixed_size.calls a2 t109 _ A7.out).mono ?_); rintro e w' ⟨rfl, ⟨nd, rfl⟩⟩; refine ⟨_, rfl, ?_⟩) | ((with_reducible refine gate_callee (f := 37) rfl ?_); refine goesL_ (some 29) rfl rfl Try.func37 (by kernel_rfl) rfl #[.int .i64 a2] rfl sl_ ?_; (with_reducible refine (fixed_size.calls a2 t110 _ A9.out).mono ?_); rintro e w' ⟨rfl, ⟨nd, rfl⟩⟩; refine ⟨_, rfl, ?_⟩) | ((with_reducible refine gate_callee (f := 38) rfl ?_); refine goesL_ (some 30) rfl rfl Try.func38 (by kernel_rfl) rfl #[.int .u64 t107, .int .u64 t108, .int .u64 t110] rfl sl_ ?_; (with_reducible refine (bits_Div64.calls k t107 t108 t110 t111 t112 _ A10.out).mono ?_); rintro e w' ⟨rfl, ⟨nd, rfl⟩⟩; refine ⟨_, rfl, ?_⟩) | ((with_reducible refine gate_callee (f := 39) rfl ?_); refine goesL_ (some 52) rfl rfl Try.func39 (by kernel_rfl) rfl #[.int .u64 (IntKind.u64.wrap (t111 + 1)), .bool true] rfl sl_ ?_; (with_reducible refine (fixed_signed.calls (IntKind.u64.wrap (t111 + 1)) true t123 t124 _ A24.out).mono ?_); rintro e w' ⟨rfl, ⟨nd, rfl⟩⟩; refine ⟨_, rfl, ?_⟩))
              go_ret2
              exact ⟨by first | rfl | (simp; done) | (simp [*]; done), by repeat (first | exact Drawn0.refl _ | apply Drawn0.step)⟩
    · rw [if_neg c11] at H
      have c11b0 : decide (a0 < 0) = false := decide_eq_false c11
      clear c11
      by_cases c25 : a1 < 0
      · rw [if_pos c25] at H
        have c25b0 : decide (a1 < 0) = true := decide_eq_true c25
        clear c25
        by_cases c26 : a2 < 0
        · rw [if_pos c26] at H
          have c26b0 : decide (a2 < 0) = true := decide_eq_true c26
          clear c26
          replace H := Option.bind_eq_some_iff.mp H
          obtain ⟨⟨t125, t126⟩, A270, H⟩ := H
          replace H : (some (t125, t126)) = some (r1, r2) := H
          have A27 := Aside0.mk A270
          clear A270
          simp only [Option.some.injEq, Prod.mk.injEq] at H
          obtain ⟨rfl, rfl⟩ := H
          go_enter Try.func32, Try.ntmps32
          go_wp2_with (first | ((with_reducible refine gate_callee (f := 37) rfl ?_); refine goesL_ (some 15) rfl rfl Try.func37 (by kernel_rfl) rfl #[.int .i64 a0] rfl sl_ ?_; (with_reducible refine (fixed_size.calls a0 t105 _ A4.out).mono ?_); rintro e w' ⟨rfl, ⟨nd, rfl⟩⟩; refine ⟨_, rfl, ?_⟩) | ((with_reducible refine gate_callee (f := 37) rfl ?_); refine goesL_ (some 17) rfl rfl Try.func37 (by kernel_rfl) rfl #[.int .i64 a1] rfl sl_ ?_; (with_reducible refine (fixed_size.calls a1 t106 _ A5.out).mono ?_); rintro e w' ⟨rfl, ⟨nd, rfl⟩⟩; refine ⟨_, rfl, ?_⟩) | ((with_reducible refine gate_callee (f := 36) rfl ?_); refine goesL_ (some 18) rfl rfl Try.func36 (by kernel_rfl) rfl #[.int .u64 t105, .int .u64 t106] rfl sl_ ?_; (with_reducible refine (bits_Mul64.calls t105 t106 t107 t108 _ A6.out).mono ?_); rintro e w' ⟨rfl, ⟨nd, rfl⟩⟩; refine ⟨_, rfl, ?_⟩) | ((with_reducible refine gate_callee (f := 37) rfl ?_); refine goesL_ (some 23) rfl rfl Try.func37 (by kernel_rfl) rfl #[.int .i64 a2] rfl sl_ ?_; (with_reducible refine (fixed_size.calls a2 t109 _ A7.out).mono ?_); rintro e w' ⟨rfl, ⟨nd, rfl⟩⟩; refine ⟨_, rfl, ?_⟩) | ((with_reducible refine gate_callee (f := 37) rfl ?_); refine goesL_ (some 29) rfl rfl Try.func37 (by kernel_rfl) rfl #[.int .i64 a2] rfl sl_ ?_; (with_reducible refine (fixed_size.calls a2 t110 _ A9.out).mono ?_); rintro e w' ⟨rfl, ⟨nd, rfl⟩⟩; refine ⟨_, rfl, ?_⟩) | ((with_reducible refine gate_callee (f := 38) rfl ?_); refine goesL_ (some 30) rfl rfl Try.func38 (by kernel_rfl) rfl #[.int .u64 t107, .int .u64 t108, .int .u64 t110] rfl sl_ ?_; (with_reducible refine (bits_Div64.calls k t107 t108 t110 t111 t112 _ A10.out).mono ?_); rintro e w' ⟨rfl, ⟨nd, rfl⟩⟩; refine ⟨_, rfl, ?_⟩) | ((with_reducible refine gate_callee (f := 39) rfl ?_); refine goesL_ (some 52) rfl rfl Try.func39 (by kernel_rfl) rfl #[.int .u64 t111, .bool false] rfl sl_ ?_; (with_reducible refine (fixed_signed.calls t111 false t125 t126 _ A27.out).mono ?_); rintro e w' ⟨rfl, ⟨nd, rfl⟩⟩; refine ⟨_, rfl, ?_⟩))
          go_ret2
          exact ⟨by first | rfl | (simp; done) | (simp [*]; done), by repeat (first | exact Drawn0.refl _ | apply Drawn0.step)⟩
        · rw [if_neg c26] at H
          have c26b0 : decide (a2 < 0) = false := decide_eq_false c26
          clear c26
          by_cases c28 : t112 = 0
          · rw [if_pos c28] at H
            have c28b0 : (t112 == 0) = true := beq_iff_eq.mpr c28
            have c28b1 : (t112 != 0) = false := bne_eq_false_iff_eq.mpr c28
            clear c28
            replace H := Option.bind_eq_some_iff.mp H
            obtain ⟨⟨t127, t128⟩, A290, H⟩ := H
            replace H : (some (t127, t128)) = some (r1, r2) := H
            have A29 := Aside0.mk A290
            clear A290
            simp only [Option.some.injEq, Prod.mk.injEq] at H
            obtain ⟨rfl, rfl⟩ := H
            go_enter Try.func32, Try.ntmps32
            go_wp2_with (first | ((with_reducible refine gate_callee (f := 37) rfl ?_); refine goesL_ (some 15) rfl rfl Try.func37 (by kernel_rfl) rfl #[.int .i64 a0] rfl sl_ ?_; (with_reducible refine (fixed_size.calls a0 t105 _ A4.out).mono ?_); rintro e w' ⟨rfl, ⟨nd, rfl⟩⟩; refine ⟨_, rfl, ?_⟩) | ((with_reducible refine gate_callee (f := 37) rfl ?_); refine goesL_ (some 17) rfl rfl Try.func37 (by kernel_rfl) rfl #[.int .i64 a1] rfl sl_ ?_; (with_reducible refine (fixed_size.calls a1 t106 _ A5.out).mono ?_); rintro e w' ⟨rfl, ⟨nd, rfl⟩⟩; refine ⟨_, rfl, ?_⟩) | ((with_reducible refine gate_callee (f := 36) rfl ?_); refine goesL_ (some 18) rfl rfl Try.func36 (by kernel_rfl) rfl #[.int .u64 t105, .int .u64 t106] rfl sl_ ?_; (with_reducible refine (bits_Mul64.calls t105 t106 t107 t108 _ A6.out).mono ?_); rintro e w' ⟨rfl, ⟨nd, rfl⟩⟩; refine ⟨_, rfl, ?_⟩) | ((with_reducible refine gate_callee (f := 37) rfl ?_); refine goesL_ (some 23) rfl rfl Try.func37 (by kernel_rfl) rfl #[.int .i64 a2] rfl sl_ ?_; (with_reducible refine (fixed_size.calls a2 t109 _ A7.out).mono ?_); rintro e w' ⟨rfl, ⟨nd, rfl⟩⟩; refine ⟨_, rfl, ?_⟩) | ((with_reducible refine gate_callee (f := 37) rfl ?_); refine goesL_ (some 29) rfl rfl Try.func37 (by kernel_rfl) rfl #[.int .i64 a2] rfl sl_ ?_; (with_reducible refine (fixed_size.calls a2 t110 _ A9.out).mono ?_); rintro e w' ⟨rfl, ⟨nd, rfl⟩⟩; refine ⟨_, rfl, ?_⟩) | ((with_reducible refine gate_callee (f := 38) rfl ?_); refine goesL_ (some 30) rfl rfl Try.func38 (by kernel_rfl) rfl #[.int .u64 t107, .int .u64 t108, .int .u64 t110] rfl sl_ ?_; (with_reducible refine (bits_Div64.calls k t107 t108 t110 t111 t112 _ A10.out).mono ?_); rintro e w' ⟨rfl, ⟨nd, rfl⟩⟩; refine ⟨_, rfl, ?_⟩) | ((with_reducible refine gate_callee (f := 39) rfl ?_); refine goesL_ (some 52) rfl rfl Try.func39 (by kernel_rfl) rfl #[.int .u64 t111, .bool true] rfl sl_ ?_; (with_reducible refine (fixed_signed.calls t111 true t127 t128 _ A29.out).mono ?_); rintro e w' ⟨rfl, ⟨nd, rfl⟩⟩; refine ⟨_, rfl, ?_⟩))
            go_ret2
            exact ⟨by first | rfl | (simp; done) | (simp [*]; done), by repeat (first | exact Drawn0.refl _ | apply Drawn0.step)⟩
          · rw [if_neg c28] at H
            have c28b0 : (t112 == 0) = false := beq_eq_false_iff_ne.mpr c28
            have c28b1 : (t112 != 0) = true := bne_iff_ne.mpr c28
            by_cases c30 : (IntKind.u64.wrap (t111 + 1)) = 0
            · rw [if_pos c30] at H
              have c30b0 : ((IntKind.u64.wrap (t111 + 1)) == 0) = true := beq_iff_eq.mpr c30
              have c30b1 : ((IntKind.u64.wrap (t111 + 1)) != 0) = false := bne_eq_false_iff_eq.mpr c30
              clear c30
              simp only [Option.some.injEq, Prod.mk.injEq] at H
              obtain ⟨rfl, rfl⟩ := H
              go_enter Try.func32, Try.ntmps32
              go_wp2_with (first | ((with_reducible refine gate_callee (f := 37) rfl ?_); refine goesL_ (some 15) rfl rfl Try.func37 (by kernel_rfl) rfl #[.int .i64 a0] rfl sl_ ?_; (with_reducible refine (fixed_size.calls a0 t105 _ A4.out).mono ?_); rintro e w' ⟨rfl, ⟨nd, rfl⟩⟩; refine ⟨_, rfl, ?_⟩) | ((with_reducible refine gate_callee (f := 37) rfl ?_); refine goesL_ (some 17) rfl rfl Try.func37 (by kernel_rfl) rfl #[.int .i64 a1] rfl sl_ ?_; (with_reducible refine (fixed_size.calls a1 t106 _ A5.out).mono ?_); rintro e w' ⟨rfl, ⟨nd, rfl⟩⟩; refine ⟨_, rfl, ?_⟩) | ((with_reducible refine gate_callee (f := 36) rfl ?_); refine goesL_ (some 18) rfl rfl Try.func36 (by kernel_rfl) rfl #[.int .u64 t105, .int .u64 t106] rfl sl_ ?_; (with_reducible refine (bits_Mul64.calls t105 t106 t107 t108 _ A6.out).mono ?_); rintro e w' ⟨rfl, ⟨nd, rfl⟩⟩; refine ⟨_, rfl, ?_⟩) | ((with_reducible refine gate_callee (f := 37) rfl ?_); refine goesL_ (some 23) rfl rfl Try.func37 (by kernel_rfl) rfl #[.int .i64 a2] rfl sl_ ?_; (with_reducible refine (fixed_size.calls a2 t109 _ A7.out).mono ?_); rintro e w' ⟨rfl, ⟨nd, rfl⟩⟩; refine ⟨_, rfl, ?_⟩) | ((with_reducible refine gate_callee (f := 37) rfl ?_); refine goesL_ (some 29) rfl rfl Try.func37 (by kernel_rfl) rfl #[.int .i64 a2] rfl sl_ ?_; (with_reducible refine (fixed_size.calls a2 t110 _ A9.out).mono ?_); rintro e w' ⟨rfl, ⟨nd, rfl⟩⟩; refine ⟨_, rfl, ?_⟩) | ((with_reducible refine gate_callee (f := 38) rfl ?_); refine goesL_ (some 30) rfl rfl Try.func38 (by kernel_rfl) rfl #[.int .u64 t107, .int .u64 t108, .int .u64 t110] rfl sl_ ?_; (with_reducible refine (bits_Div64.calls k t107 t108 t110 t111 t112 _ A10.out).mono ?_); rintro e w' ⟨rfl, ⟨nd, rfl⟩⟩; refine ⟨_, rfl, ?_⟩))
              go_ret2
              exact ⟨by first | rfl | (simp; done) | (simp [*]; done), by repeat (first | exact Drawn0.refl _ | apply Drawn0.step)⟩
            · rw [if_neg c30] at H
              have c30b0 : ((IntKind.u64.wrap (t111 + 1)) == 0) = false := beq_eq_false_iff_ne.mpr c30
              have c30b1 : ((IntKind.u64.wrap (t111 + 1)) != 0) = true := bne_iff_ne.mpr c30
              replace H := Option.bind_eq_some_iff.mp H
              obtain ⟨⟨t129, t130⟩, A310, H⟩ := H
              replace H : (some (t129, t130)) = some (r1, r2) := H
              have A31 := Aside0.mk A310
              clear A310
              simp only [Option.some.injEq, Prod.mk.injEq] at H
              obtain ⟨rfl, rfl⟩ := H
              go_enter Try.func32, Try.ntmps32
              go_wp2_with (first | ((with_reducible refine gate_callee (f := 37) rfl ?_); refine goesL_ (some 15) rfl rfl Try.func37 (by kernel_rfl) rfl #[.int .i64 a0] rfl sl_ ?_; (with_reducible refine (fixed_size.calls a0 t105 _ A4.out).mono ?_); rintro e w' ⟨rfl, ⟨nd, rfl⟩⟩; refine ⟨_, rfl, ?_⟩) | ((with_reducible refine gate_callee (f := 37) rfl ?_); refine goesL_ (some 17) rfl rfl Try.func37 (by kernel_rfl) rfl #[.int .i64 a1] rfl sl_ ?_; (with_reducible refine (fixed_size.calls a1 t106 _ A5.out).mono ?_); rintro e w' ⟨rfl, ⟨nd, rfl⟩⟩; refine ⟨_, rfl, ?_⟩) | ((with_reducible refine gate_callee (f := 36) rfl ?_); refine goesL_ (some 18) rfl rfl Try.func36 (by kernel_rfl) rfl #[.int .u64 t105, .int .u64 t106] rfl sl_ ?_; (with_reducible refine (bits_Mul64.calls t105 t106 t107 t108 _ A6.out).mono ?_); rintro e w' ⟨rfl, ⟨nd, rfl⟩⟩; refine ⟨_, rfl, ?_⟩) | ((with_reducible refine gate_callee (f := 37) rfl ?_); refine goesL_ (some 23) rfl rfl Try.func37 (by kernel_rfl) rfl #[.int .i64 a2] rfl sl_ ?_; (with_reducible refine (fixed_size.calls a2 t109 _ A7.out).mono ?_); rintro e w' ⟨rfl, ⟨nd, rfl⟩⟩; refine ⟨_, rfl, ?_⟩) | ((with_reducible refine gate_callee (f := 37) rfl ?_); refine goesL_ (some 29) rfl rfl Try.func37 (by kernel_rfl) rfl #[.int .i64 a2] rfl sl_ ?_; (with_reducible refine (fixed_size.calls a2 t110 _ A9.out).mono ?_); rintro e w' ⟨rfl, ⟨nd, rfl⟩⟩; refine ⟨_, rfl, ?_⟩) | ((with_reducible refine gate_callee (f := 38) rfl ?_); refine goesL_ (some 30) rfl rfl Try.func38 (by kernel_rfl) rfl #[.int .u64 t107, .int .u64 t108, .int .u64 t110] rfl sl_ ?_; (with_reducible refine (bits_Div64.calls k t107 t108 t110 t111 t112 _ A10.out).mono ?_); rintro e w' ⟨rfl, ⟨nd, rfl⟩⟩; refine ⟨_, rfl, ?_⟩) | ((with_reducible refine gate_callee (f := 39) rfl ?_); refine goesL_ (some 52) rfl rfl Try.func39 (by kernel_rfl) rfl #[.int .u64 (IntKind.u64.wrap (t111 + 1)), .bool true] rfl sl_ ?_; (with_reducible refine (fixed_signed.calls (IntKind.u64.wrap (t111 + 1)) true t129 t130 _ A31.out).mono ?_); rintro e w' ⟨rfl, ⟨nd, rfl⟩⟩; refine ⟨_, rfl, ?_⟩))
              go_ret2
              exact ⟨by first | rfl | (simp; done) | (simp [*]; done), by repeat (first | exact Drawn0.refl _ | apply Drawn0.step)⟩
      · rw [if_neg c25] at H
        have c25b0 : decide (a1 < 0) = false := decide_eq_false c25
        clear c25
        by_cases c32 : a2 < 0
        · rw [if_pos c32] at H
          have c32b0 : decide (a2 < 0) = true := decide_eq_true c32
          clear c32
          by_cases c33 : t112 = 0
          · rw [if_pos c33] at H
            have c33b0 : (t112 == 0) = true := beq_iff_eq.mpr c33
            have c33b1 : (t112 != 0) = false := bne_eq_false_iff_eq.mpr c33
            clear c33
            replace H := Option.bind_eq_some_iff.mp H
            obtain ⟨⟨t131, t132⟩, A340, H⟩ := H
            replace H : (some (t131, t132)) = some (r1, r2) := H
            have A34 := Aside0.mk A340
            clear A340
            simp only [Option.some.injEq, Prod.mk.injEq] at H
            obtain ⟨rfl, rfl⟩ := H
            go_enter Try.func32, Try.ntmps32
            go_wp2_with (first | ((with_reducible refine gate_callee (f := 37) rfl ?_); refine goesL_ (some 15) rfl rfl Try.func37 (by kernel_rfl) rfl #[.int .i64 a0] rfl sl_ ?_; (with_reducible refine (fixed_size.calls a0 t105 _ A4.out).mono ?_); rintro e w' ⟨rfl, ⟨nd, rfl⟩⟩; refine ⟨_, rfl, ?_⟩) | ((with_reducible refine gate_callee (f := 37) rfl ?_); refine goesL_ (some 17) rfl rfl Try.func37 (by kernel_rfl) rfl #[.int .i64 a1] rfl sl_ ?_; (with_reducible refine (fixed_size.calls a1 t106 _ A5.out).mono ?_); rintro e w' ⟨rfl, ⟨nd, rfl⟩⟩; refine ⟨_, rfl, ?_⟩) | ((with_reducible refine gate_callee (f := 36) rfl ?_); refine goesL_ (some 18) rfl rfl Try.func36 (by kernel_rfl) rfl #[.int .u64 t105, .int .u64 t106] rfl sl_ ?_; (with_reducible refine (bits_Mul64.calls t105 t106 t107 t108 _ A6.out).mono ?_); rintro e w' ⟨rfl, ⟨nd, rfl⟩⟩; refine ⟨_, rfl, ?_⟩) | ((with_reducible refine gate_callee (f := 37) rfl ?_); refine goesL_ (some 23) rfl rfl Try.func37 (by kernel_rfl) rfl #[.int .i64 a2] rfl sl_ ?_; (with_reducible refine (fixed_size.calls a2 t109 _ A7.out).mono ?_); rintro e w' ⟨rfl, ⟨nd, rfl⟩⟩; refine ⟨_, rfl, ?_⟩) | ((with_reducible refine gate_callee (f := 37) rfl ?_); refine goesL_ (some 29) rfl rfl Try.func37 (by kernel_rfl) rfl #[.int .i64 a2] rfl sl_ ?_; (with_reducible refine (fixed_size.calls a2 t110 _ A9.out).mono ?_); rintro e w' ⟨rfl, ⟨nd, rfl⟩⟩; refine ⟨_, rfl, ?_⟩) | ((with_reducible refine gate_callee (f := 38) rfl ?_); refine goesL_ (some 30) rfl rfl Try.func38 (by kernel_rfl) rfl #[.int .u64 t107, .int .u64 t108, .int .u64 t110] rfl sl_ ?_; (with_reducible refine (bits_Div64.calls k t107 t108 t110 t111 t112 _ A10.out).mono ?_); rintro e w' ⟨rfl, ⟨nd, rfl⟩⟩; refine ⟨_, rfl, ?_⟩) | ((with_reducible refine gate_callee (f := 39) rfl ?_); refine goesL_ (some 52) rfl rfl Try.func39 (by kernel_rfl) rfl #[.int .u64 t111, .bool true] rfl sl_ ?_; (with_reducible refine (fixed_signed.calls t111 true t131 t132 _ A34.out).mono ?_); rintro e w' ⟨rfl, ⟨nd, rfl⟩⟩; refine ⟨_, rfl, ?_⟩))
            go_ret2
            exact ⟨by first | rfl | (simp; done) | (simp [*]; done), by repeat (first | exact Drawn0.refl _ | apply Drawn0.step)⟩
          · rw [if_neg c33] at H
            have c33b0 : (t112 == 0) = false := beq_eq_false_iff_ne.mpr c33
            have c33b1 : (t112 != 0) = true := bne_iff_ne.mpr c33
            by_cases c35 : (IntKind.u64.wrap (t111 + 1)) = 0
            · rw [if_pos c35] at H
              have c35b0 : ((IntKind.u64.wrap (t111 + 1)) == 0) = true := beq_iff_eq.mpr c35
              have c35b1 : ((IntKind.u64.wrap (t111 + 1)) != 0) = false := bne_eq_false_iff_eq.mpr c35
              clear c35
              simp only [Option.some.injEq, Prod.mk.injEq] at H
              obtain ⟨rfl, rfl⟩ := H
              go_enter Try.func32, Try.ntmps32
              go_wp2_with (first | ((with_reducible refine gate_callee (f := 37) rfl ?_); refine goesL_ (some 15) rfl rfl Try.func37 (by kernel_rfl) rfl #[.int .i64 a0] rfl sl_ ?_; (with_reducible refine (fixed_size.calls a0 t105 _ A4.out).mono ?_); rintro e w' ⟨rfl, ⟨nd, rfl⟩⟩; refine ⟨_, rfl, ?_⟩) | ((with_reducible refine gate_callee (f := 37) rfl ?_); refine goesL_ (some 17) rfl rfl Try.func37 (by kernel_rfl) rfl #[.int .i64 a1] rfl sl_ ?_; (with_reducible refine (fixed_size.calls a1 t106 _ A5.out).mono ?_); rintro e w' ⟨rfl, ⟨nd, rfl⟩⟩; refine ⟨_, rfl, ?_⟩) | ((with_reducible refine gate_callee (f := 36) rfl ?_); refine goesL_ (some 18) rfl rfl Try.func36 (by kernel_rfl) rfl #[.int .u64 t105, .int .u64 t106] rfl sl_ ?_; (with_reducible refine (bits_Mul64.calls t105 t106 t107 t108 _ A6.out).mono ?_); rintro e w' ⟨rfl, ⟨nd, rfl⟩⟩; refine ⟨_, rfl, ?_⟩) | ((with_reducible refine gate_callee (f := 37) rfl ?_); refine goesL_ (some 23) rfl rfl Try.func37 (by kernel_rfl) rfl #[.int .i64 a2] rfl sl_ ?_; (with_reducible refine (fixed_size.calls a2 t109 _ A7.out).mono ?_); rintro e w' ⟨rfl, ⟨nd, rfl⟩⟩; refine ⟨_, rfl, ?_⟩) | ((with_reducible refine gate_callee (f := 37) rfl ?_); refine goesL_ (some 29) rfl rfl Try.func37 (by kernel_rfl) rfl #[.int .i64 a2] rfl sl_ ?_; (with_reducible refine (fixed_size.calls a2 t110 _ A9.out).mono ?_); rintro e w' ⟨rfl, ⟨nd, rfl⟩⟩; refine ⟨_, rfl, ?_⟩) | ((with_reducible refine gate_callee (f := 38) rfl ?_); refine goesL_ (some 30) rfl rfl Try.func38 (by kernel_rfl) rfl #[.int .u64 t107, .int .u64 t108, .int .u64 t110] rfl sl_ ?_; (with_reducible refine (bits_Div64.calls k t107 t108 t110 t111 t112 _ A10.out).mono ?_); rintro e w' ⟨rfl, ⟨nd, rfl⟩⟩; refine ⟨_, rfl, ?_⟩))
              go_ret2
              exact ⟨by first | rfl | (simp; done) | (simp [*]; done), by repeat (first | exact Drawn0.refl _ | apply Drawn0.step)⟩
            · rw [if_neg c35] at H
              have c35b0 : ((IntKind.u64.wrap (t111 + 1)) == 0) = false := beq_eq_false_iff_ne.mpr c35
              have c35b1 : ((IntKind.u64.wrap (t111 + 1)) != 0) = true := bne_iff_ne.mpr c35
              replace H := Option.bind_eq_some_iff.mp H
              obtain ⟨⟨t133, t134⟩, A360, H⟩ := H
              replace H : (some (t133, t134)) = some (r1, r2) := H
              have A36 := Aside0.mk A360
              clear A360
              simp only [Option.some.injEq, Prod.mk.injEq] at H
              obtain ⟨rfl, rfl⟩ := H
              go_enter Try.func32, Try.ntmps32
              go_wp2_with (first | ((with_reducible refine gate_callee (f := 37) rfl ?_); refine goesL_ (some 15) rfl rfl Try.func37 (by kernel_rfl) rfl #[.int .i64 a0] rfl sl_ ?_; (with_reducible refine (fixed_size.calls a0 t105 _ A4.out).mono ?_); rintro e w' ⟨rfl, ⟨nd, rfl⟩⟩; refine ⟨_, rfl, ?_⟩) | ((with_reducible refine gate_callee (f := 37) rfl ?_); refine goesL_ (some 17) rfl rfl Try.func37 (by kernel_rfl) rfl #[.int .i64 a1] rfl sl_ ?_; (with_reducible refine (fixed_size.calls a1 t106 _ A5.out).mono ?_); rintro e w' ⟨rfl, ⟨nd, rfl⟩⟩; refine ⟨_, rfl, ?_⟩) | ((with_reducible refine gate_callee (f := 36) rfl ?_); refine goesL_ (some 18) rfl rfl Try.func36 (by kernel_rfl) rfl #[.int .u64 t105, .int .u64 t106] rfl sl_ ?_; (with_reducible refine (bits_Mul64.calls t105 t106 t107 t108 _ A6.out).mono ?_); rintro e w' ⟨rfl, ⟨nd, rfl⟩⟩; refine ⟨_, rfl, ?_⟩) | ((with_reducible refine gate_callee (f := 37) rfl ?_); refine goesL_ (some 23) rfl rfl Try.func37 (by kernel_rfl) rfl #[.int .i64 a2] rfl sl_ ?_; (with_reducible refine (fixed_size.calls a2 t109 _ A7.out).mono ?_); rintro e w' ⟨rfl, ⟨nd, rfl⟩⟩; refine ⟨_, rfl, ?_⟩) | ((with_reducible refine gate_callee (f := 37) rfl ?_); refine goesL_ (some 29) rfl rfl Try.func37 (by kernel_rfl) rfl #[.int .i64 a2] rfl sl_ ?_; (with_reducible refine (fixed_size.calls a2 t110 _ A9.out).mono ?_); rintro e w' ⟨rfl, ⟨nd, rfl⟩⟩; refine ⟨_, rfl, ?_⟩) | ((with_reducible refine gate_callee (f := 38) rfl ?_); refine goesL_ (some 30) rfl rfl Try.func38 (by kernel_rfl) rfl #[.int .u64 t107, .int .u64 t108, .int .u64 t110] rfl sl_ ?_; (with_reducible refine (bits_Div64.calls k t107 t108 t110 t111 t112 _ A10.out).mono ?_); rintro e w' ⟨rfl, ⟨nd, rfl⟩⟩; refine ⟨_, rfl, ?_⟩) | ((with_reducible refine gate_callee (f := 39) rfl ?_); refine goesL_ (some 52) rfl rfl Try.func39 (by kernel_rfl) rfl #[.int .u64 (IntKind.u64.wrap (t111 + 1)), .bool true] rfl sl_ ?_; (with_reducible refine (fixed_signed.calls (IntKind.u64.wrap (t111 + 1)) true t133 t134 _ A36.out).mono ?_); rintro e w' ⟨rfl, ⟨nd, rfl⟩⟩; refine ⟨_, rfl, ?_⟩))
              go_ret2
              exact ⟨by first | rfl | (simp; done) | (simp [*]; done), by repeat (first | exact Drawn0.refl _ | apply Drawn0.step)⟩
        · rw [if_neg c32] at H
          have c32b0 : decide (a2 < 0) = false := decide_eq_false c32
          clear c32
          replace H := Option.bind_eq_some_iff.mp H
          obtain ⟨⟨t135, t136⟩, A370, H⟩ := H
          replace H : (some (t135, t136)) = some (r1, r2) := H
          have A37 := Aside0.mk A370
          clear A370
          simp only [Option.some.injEq, Prod.mk.injEq] at H
          obtain ⟨rfl, rfl⟩ := H
          go_enter Try.func32, Try.ntmps32
          go_wp2_with (first | ((with_reducible refine gate_callee (f := 37) rfl ?_); refine goesL_ (some 15) rfl rfl Try.func37 (by kernel_rfl) rfl #[.int .i64 a0] rfl sl_ ?_; (with_reducible refine (fixed_size.calls a0 t105 _ A4.out).mono ?_); rintro e w' ⟨rfl, ⟨nd, rfl⟩⟩; refine ⟨_, rfl, ?_⟩) | ((with_reducible refine gate_callee (f := 37) rfl ?_); refine goesL_ (some 17) rfl rfl Try.func37 (by kernel_rfl) rfl #[.int .i64 a1] rfl sl_ ?_; (with_reducible refine (fixed_size.calls a1 t106 _ A5.out).mono ?_); rintro e w' ⟨rfl, ⟨nd, rfl⟩⟩; refine ⟨_, rfl, ?_⟩) | ((with_reducible refine gate_callee (f := 36) rfl ?_); refine goesL_ (some 18) rfl rfl Try.func36 (by kernel_rfl) rfl #[.int .u64 t105, .int .u64 t106] rfl sl_ ?_; (with_reducible refine (bits_Mul64.calls t105 t106 t107 t108 _ A6.out).mono ?_); rintro e w' ⟨rfl, ⟨nd, rfl⟩⟩; refine ⟨_, rfl, ?_⟩) | ((with_reducible refine gate_callee (f := 37) rfl ?_); refine goesL_ (some 23) rfl rfl Try.func37 (by kernel_rfl) rfl #[.int .i64 a2] rfl sl_ ?_; (with_reducible refine (fixed_size.calls a2 t109 _ A7.out).mono ?_); rintro e w' ⟨rfl, ⟨nd, rfl⟩⟩; refine ⟨_, rfl, ?_⟩) | ((with_reducible refine gate_callee (f := 37) rfl ?_); refine goesL_ (some 29) rfl rfl Try.func37 (by kernel_rfl) rfl #[.int .i64 a2] rfl sl_ ?_; (with_reducible refine (fixed_size.calls a2 t110 _ A9.out).mono ?_); rintro e w' ⟨rfl, ⟨nd, rfl⟩⟩; refine ⟨_, rfl, ?_⟩) | ((with_reducible refine gate_callee (f := 38) rfl ?_); refine goesL_ (some 30) rfl rfl Try.func38 (by kernel_rfl) rfl #[.int .u64 t107, .int .u64 t108, .int .u64 t110] rfl sl_ ?_; (with_reducible refine (bits_Div64.calls k t107 t108 t110 t111 t112 _ A10.out).mono ?_); rintro e w' ⟨rfl, ⟨nd, rfl⟩⟩; refine ⟨_, rfl, ?_⟩) | ((with_reducible refine gate_callee (f := 39) rfl ?_); refine goesL_ (some 52) rfl rfl Try.func39 (by kernel_rfl) rfl #[.int .u64 t111, .bool false] rfl sl_ ?_; (with_reducible refine (fixed_signed.calls t111 false t135 t136 _ A37.out).mono ?_); rintro e w' ⟨rfl, ⟨nd, rfl⟩⟩; refine ⟨_, rfl, ?_⟩))
          go_ret2
          exact ⟨by first | rfl | (simp; done) | (simp [*]; done), by repeat (first | exact Drawn0.refl _ | apply Drawn0.step)⟩

end Go.Proofs.Ytkbbjgjbfdpciaa.PAll
