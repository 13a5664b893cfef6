-- A text of this session, written by a program of its own (wip/tools).
import Derived.Test.YtimcdiombljajaaPAllx0
import Derived.Test.YtimcdiombljajaaPAllx33
import Derived.Test.YtimcdiombljajaaPAllx34
import Derived.Test.YtimcdiombljajaaPAllx37
import Derived.Test.YtimcdiombljajaaPAllx38
namespace Go.Proofs.Ytimcdiombljajaa.PAll
open Go.RowKit Go.Proofs.YtimcdiombljajaaW.PrintWords Go.Proofs.YtimcdiombljajaaW.PrintLast Go.Proofs.YtimcdiombljajaaW.PrintMore
attribute [local go_sem] max2_int min2_int max_two min_two max_three min_three max_four min_four   -- for this text's walks alone
set_option linter.unusedVariables false
set_option linter.unusedSimpArgs false

/-! ### fixed_MulDiv: function 31 -/
def fixed_MulDiv.f (k : Nat) (a0 : Int) (a1 : Int) (a2 : Int) : Option (Int × Bool) := (fixed_size.f a0).bind fun t181 => ((fixed_size.f a1).bind fun t182 => ((bits_Mul64.f t181 t182).bind fun bt183 => ((fixed_size.f a2).bind fun t185 => (if bt183.1 ≥ t185 then (some (0, false)) else ((fixed_size.f a2).bind fun t186 => ((bits_Div64.f k bt183.1 bt183.2 t186).bind fun bt187 => (if a0 < 0 then (if a1 < 0 then (if a2 < 0 then (if bt187.2 = 0 then ((fixed_signed.f bt187.1 true).bind fun bt189 => (some (bt189.1, bt189.2))) else (if (IntKind.u64.wrap (bt187.1 + 1)) = 0 then (some (0, false)) else ((fixed_signed.f (IntKind.u64.wrap (bt187.1 + 1)) true).bind fun bt191 => (some (bt191.1, bt191.2))))) else ((fixed_signed.f bt187.1 false).bind fun bt193 => (some (bt193.1, bt193.2)))) else (if a2 < 0 then ((fixed_signed.f bt187.1 false).bind fun bt195 => (some (bt195.1, bt195.2))) else (if bt187.2 = 0 then ((fixed_signed.f bt187.1 true).bind fun bt197 => (some (bt197.1, bt197.2))) else (if (IntKind.u64.wrap (bt187.1 + 1)) = 0 then (some (0, false)) else ((fixed_signed.f (IntKind.u64.wrap (bt187.1 + 1)) true).bind fun bt199 => (some (bt199.1, bt199.2))))))) else (if a1 < 0 then (if a2 < 0 then ((fixed_signed.f bt187.1 false).bind fun bt201 => (some (bt201.1, bt201.2))) else (if bt187.2 = 0 then ((fixed_signed.f bt187.1 true).bind fun bt203 => (some (bt203.1, bt203.2))) else (if (IntKind.u64.wrap (bt187.1 + 1)) = 0 then (some (0, false)) else ((fixed_signed.f (IntKind.u64.wrap (bt187.1 + 1)) true).bind fun bt205 => (some (bt205.1, bt205.2)))))) else (if a2 < 0 then (if bt187.2 = 0 then ((fixed_signed.f bt187.1 true).bind fun bt207 => (some (bt207.1, bt207.2))) else (if (IntKind.u64.wrap (bt187.1 + 1)) = 0 then (some (0, false)) else ((fixed_signed.f (IntKind.u64.wrap (bt187.1 + 1)) true).bind fun bt209 => (some (bt209.1, bt209.2))))) else ((fixed_signed.f bt187.1 false).bind fun bt211 => (some (bt211.1, bt211.2))))))))))))
theorem fixed_MulDiv.mono : ∀ a0 a1 a2 k, LeO (fixed_MulDiv.f k a0 a1 a2) (fixed_MulDiv.f (k + 1) a0 a1 a2) := by
  intro a0 a1 a2 k
  unfold fixed_MulDiv.f
  repeat' first
      | (with_reducible exact bits_Div64.mono _ _ _ _)
      | (with_reducible exact LeO.refl _)
      | (with_reducible exact LeO.none _)
      | (with_reducible refine LeO.ite ?_ ?_)
      | (with_reducible refine LeO.bind ?_ (fun _ => ?_))
      | exact bits_Div64.mono _ _ _ _
      | exact LeO.none _
      | refine LeO.ite ?_ ?_
      | refine LeO.bind ?_ (fun _ => ?_)
set_option maxHeartbeats 8000000 in
set_option maxRecDepth 100000 in
theorem fixed_MulDiv.calls (k : Nat) (a0 : Int) (a1 : Int) (a2 : Int) (r1 : Int) (r2 : Bool) (w : World) (h : fixed_MulDiv.f k a0 a1 a2 = some (r1, r2)) :
    Calls Try.prog 31 #[.int .i64 a0, .int .i64 a1, .int .i64 a2] w fun e w' => e = .returned (.tuple #[.int .i64 r1, .bool r2]) ∧ Drawn0 w w' := by
  have H : ((fixed_size.f a0).bind fun t181 => ((fixed_size.f a1).bind fun t182 => ((bits_Mul64.f t181 t182).bind fun bt183 => ((fixed_size.f a2).bind fun t185 => (if bt183.1 ≥ t185 then (some (0, false)) else ((fixed_size.f a2).bind fun t186 => ((bits_Div64.f k bt183.1 bt183.2 t186).bind fun bt187 => (if a0 < 0 then (if a1 < 0 then (if a2 < 0 then (if bt187.2 = 0 then ((fixed_signed.f bt187.1 true).bind fun bt189 => (some (bt189.1, bt189.2))) else (if (IntKind.u64.wrap (bt187.1 + 1)) = 0 then (some (0, false)) else ((fixed_signed.f (IntKind.u64.wrap (bt187.1 + 1)) true).bind fun bt191 => (some (bt191.1, bt191.2))))) else ((fixed_signed.f bt187.1 false).bind fun bt193 => (some (bt193.1, bt193.2)))) else (if a2 < 0 then ((fixed_signed.f bt187.1 false).bind fun bt195 => (some (bt195.1, bt195.2))) else (if bt187.2 = 0 then ((fixed_signed.f bt187.1 true).bind fun bt197 => (some (bt197.1, bt197.2))) else (if (IntKind.u64.wrap (bt187.1 + 1)) = 0 then (some (0, false)) else ((fixed_signed.f (IntKind.u64.wrap (bt187.1 + 1)) true).bind fun bt199 => (some (bt199.1, bt199.2))))))) else (if a1 < 0 then (if a2 < 0 then ((fixed_signed.f bt187.1 false).bind fun bt201 => (some (bt201.1, bt201.2))) else (if bt187.2 = 0 then ((fixed_signed.f bt187.1 true).bind fun bt203 => (some (bt203.1, bt203.2))) else (if (IntKind.u64.wrap (bt187.1 + 1)) = 0 then (some (0, false)) else ((fixed_signed.f (IntKind.u64.wrap (bt187.1 + 1)) true).bind fun bt205 => (some (bt205.1, bt205.2)))))) else (if a2 < 0 then (if bt187.2 = 0 then ((fixed_signed.f bt187.1 true).bind fun bt207 => (some (bt207.1, bt207.2))) else (if (IntKind.u64.wrap (bt187.1 + 1)) = 0 then (some (0, false)) else ((fixed_signed.f (IntKind.u64.wrap (bt187.1 + 1)) true).bind fun bt209 => (some (bt209.1, bt209.2))))) else ((fixed_signed.f bt187.1 false).bind fun bt211 => (some (bt211.1, bt211.2))))))))))))) = some (r1, r2) := h
  clear h
  replace H := Option.bind_eq_some_iff.mp H
  obtain ⟨t181, A40, H⟩ := H
  replace H : ((fixed_size.f a1).bind fun t182 => ((bits_Mul64.f t181 t182).bind fun bt183 => ((fixed_size.f a2).bind fun t185 => (if bt183.1 ≥ t185 then (some (0, false)) else ((fixed_size.f a2).bind fun t186 => ((bits_Div64.f k bt183.1 bt183.2 t186).bind fun bt187 => (if a0 < 0 then (if a1 < 0 then (if a2 < 0 then (if bt187.2 = 0 then ((fixed_signed.f bt187.1 true).bind fun bt189 => (some (bt189.1, bt189.2))) else (if (IntKind.u64.wrap (bt187.1 + 1)) = 0 then (some (0, false)) else ((fixed_signed.f (IntKind.u64.wrap (bt187.1 + 1)) true).bind fun bt191 => (some (bt191.1, bt191.2))))) else ((fixed_signed.f bt187.1 false).bind fun bt193 => (some (bt193.1, bt193.2)))) else (if a2 < 0 then ((fixed_signed.f bt187.1 false).bind fun bt195 => (some (bt195.1, bt195.2))) else (if bt187.2 = 0 then ((fixed_signed.f bt187.1 true).bind fun bt197 => (some (bt197.1, bt197.2))) else (if (IntKind.u64.wrap (bt187.1 + 1)) = 0 then (some (0, false)) else ((fixed_signed.f (IntKind.u64.wrap (bt187.1 + 1)) true).bind fun bt199 => (some (bt199.1, bt199.2))))))) else (if a1 < 0 then (if a2 < 0 then ((fixed_signed.f bt187.1 false).bind fun bt201 => (some (bt201.1, bt201.2))) else (if bt187.2 = 0 then ((fixed_signed.f bt187.1 true).bind fun bt203 => (some (bt203.1, bt203.2))) else (if (IntKind.u64.wrap (bt187.1 + 1)) = 0 then (some (0, false)) else ((fixed_signed.f (IntKind.u64.wrap (bt187.1 + 1)) true).bind fun bt205 => (some (bt205.1, bt205.2)))))) else (if a2 < 0 then (if bt187.2 = 0 then ((fixed_signed.f bt187.1 true).bind fun bt207 => (some (bt207.1, bt207.2))) else (if (IntKind.u64.wrap (bt187.1 + 1)) = 0 then (some (0, false)) else ((fixed_signed.f (IntKind.u64.wrap (bt187.1 + 1)) true).bind fun bt209 => (some (bt209.1, bt209.2))))) else ((fixed_signed.f bt187.1 false).bind fun bt211 => (some (bt211.1, bt211.2)))))))))))) = some (r1, r2) := H
  have A4 := Aside0.mk A40
  clear A40
  replace H := Option.bind_eq_some_iff.mp H
  obtain ⟨t182, A50, H⟩ := H
  replace H : ((bits_Mul64.f t181 t182).bind fun bt183 => ((fixed_size.f a2).bind fun t185 => (if bt183.1 ≥ t185 then (some (0, false)) else ((fixed_size.f a2).bind fun t186 => ((bits_Div64.f k bt183.1 bt183.2 t186).bind fun bt187 => (if a0 < 0 then (if a1 < 0 then (if a2 < 0 then (if bt187.2 = 0 then ((fixed_signed.f bt187.1 true).bind fun bt189 => (some (bt189.1, bt189.2))) else (if (IntKind.u64.wrap (bt187.1 + 1)) = 0 then (some (0, false)) else ((fixed_signed.f (IntKind.u64.wrap (bt187.1 + 1)) true).bind fun bt191 => (some (bt191.1, bt191.2))))) else ((fixed_signed.f bt187.1 false).bind fun bt193 => (some (bt193.1, bt193.2)))) else (if a2 < 0 then ((fixed_signed.f bt187.1 false).bind fun bt195 => (some (bt195.1, bt195.2))) else (if bt187.2 = 0 then ((fixed_signed.f bt187.1 true).bind fun bt197 => (some (bt197.1, bt197.2))) else (if (IntKind.u64.wrap (bt187.1 + 1)) = 0 then (some (0, false)) else ((fixed_signed.f (IntKind.u64.wrap (bt187.1 + 1)) true).bind fun bt199 => (some (bt199.1, bt199.2))))))) else (if a1 < 0 then (if a2 < 0 then ((fixed_signed.f bt187.1 false).bind fun bt201 => (some (bt201.1, bt201.2))) else (if bt187.2 = 0 then ((fixed_signed.f bt187.1 true).bind fun bt203 => (some (bt203.1, bt203.2))) else (if (IntKind.u64.wrap (bt187.1 + 1)) = 0 then (some (0, false)) else ((fixed_signed.f (IntKind.u64.wrap (bt187.1 + 1)) true).bind fun bt205 => (some (bt205.1, bt205.2)))))) else (if a2 < 0 then (if bt187.2 = 0 then ((fixed_signed.f bt187.1 true).bind fun bt207 => (some (bt207.1, bt207.2))) else (if (IntKind.u64.wrap (bt187.1 + 1)) = 0 then (some (0, false)) else ((fixed_signed.f (IntKind.u64.wrap (bt187.1 + 1)) true).bind fun bt209 => (some (bt209.1, bt209.2))))) else ((fixed_signed.f bt187.1 false).bind fun bt211 => (some (bt211.1, bt211.2))))))))))) = some (r1, r2) := H
  have A5 := Aside0.mk A50
  clear A50
  replace H := Option.bind_eq_some_iff.mp H
  obtain ⟨⟨t183, t184⟩, A60, H⟩ := H
  replace H : ((fixed_size.f a2).bind fun t185 => (if t183 ≥ t185 then (some (0, false)) else ((fixed_size.f a2).bind fun t186 => ((bits_Div64.f k t183 t184 t186).bind fun bt187 => (if a0 < 0 then (if a1 < 0 then (if a2 < 0 then (if bt187.2 = 0 then ((fixed_signed.f bt187.1 true).bind fun bt189 => (some (bt189.1, bt189.2))) else (if (IntKind.u64.wrap (bt187.1 + 1)) = 0 then (some (0, false)) else ((fixed_signed.f (IntKind.u64.wrap (bt187.1 + 1)) true).bind fun bt191 => (some (bt191.1, bt191.2))))) else ((fixed_signed.f bt187.1 false).bind fun bt193 => (some (bt193.1, bt193.2)))) else (if a2 < 0 then ((fixed_signed.f bt187.1 false).bind fun bt195 => (some (bt195.1, bt195.2))) else (if bt187.2 = 0 then ((fixed_signed.f bt187.1 true).bind fun bt197 => (some (bt197.1, bt197.2))) else (if (IntKind.u64.wrap (bt187.1 + 1)) = 0 then (some (0, false)) else ((fixed_signed.f (IntKind.u64.wrap (bt187.1 + 1)) true).bind fun bt199 => (some (bt199.1, bt199.2))))))) else (if a1 < 0 then (if a2 < 0 then ((fixed_signed.f bt187.1 false).bind fun bt201 => (some (bt201.1, bt201.2))) else (if bt187.2 = 0 then ((fixed_signed.f bt187.1 true).bind fun bt203 => (some (bt203.1, bt203.2))) else (if (IntKind.u64.wrap (bt187.1 + 1)) = 0 then (some (0, false)) else ((fixed_signed.f (IntKind.u64.wrap (bt187.1 + 1)) true).bind fun bt205 => (some (bt205.1, bt205.2)))))) else (if a2 < 0 then (if bt187.2 = 0 then ((fixed_signed.f bt187.1 true).bind fun bt207 => (some (bt207.1, bt207.2))) else (if (IntKind.u64.wrap (bt187.1 + 1)) = 0 then (some (0, false)) else ((fixed_signed.f (IntKind.u64.wrap (bt187.1 + 1)) true).bind fun bt209 => (some (bt209.1, bt209.2))))) else ((fixed_signed.f bt187.1 false).bind fun bt211 => (some (bt211.1, bt211.2)))))))))) = some (r1, r2) := H
  have A6 := Aside0.mk A60
  clear A60
  replace H := Option.bind_eq_some_iff.mp H
  obtain ⟨t185, A70, H⟩ := H
  replace H : (if t183 ≥ t185 then (some (0, false)) else ((fixed_size.f a2).bind fun t186 => ((bits_Div64.f k t183 t184 t186).bind fun bt187 => (if a0 < 0 then (if a1 < 0 then (if a2 < 0 then (if bt187.2 = 0 then ((fixed_signed.f bt187.1 true).bind fun bt189 => (some (bt189.1, bt189.2))) else (if (IntKind.u64.wrap (bt187.1 + 1)) = 0 then (some (0, false)) else ((fixed_signed.f (IntKind.u64.wrap (bt187.1 + 1)) true).bind fun bt191 => (some (bt191.1, bt191.2))))) else ((fixed_signed.f bt187.1 false).bind fun bt193 => (some (bt193.1, bt193.2)))) else (if a2 < 0 then ((fixed_signed.f bt187.1 false).bind fun bt195 => (some (bt195.1, bt195.2))) else (if bt187.2 = 0 then ((fixed_signed.f bt187.1 true).bind fun bt197 => (some (bt197.1, bt197.2))) else (if (IntKind.u64.wrap (bt187.1 + 1)) = 0 then (some (0, false)) else ((fixed_signed.f (IntKind.u64.wrap (bt187.1 + 1)) true).bind fun bt199 => (some (bt199.1, bt199.2))))))) else (if a1 < 0 then (if a2 < 0 then ((fixed_signed.f bt187.1 false).bind fun bt201 => (some (bt201.1, bt201.2))) else (if bt187.2 = 0 then ((fixed_signed.f bt187.1 true).bind fun bt203 => (some (bt203.1, bt203.2))) else (if (IntKind.u64.wrap (bt187.1 + 1)) = 0 then (some (0, false)) else ((fixed_signed.f (IntKind.u64.wrap (bt187.1 + 1)) true).bind fun bt205 => (some (bt205.1, bt205.2)))))) else (if a2 < 0 then (if bt187.2 = 0 then ((fixed_signed.f bt187.1 true).bind fun bt207 => (some (bt207.1, bt207.2))) else (if (IntKind.u64.wrap (bt187.1 + 1)) = 0 then (some (0, false)) else ((fixed_signed.f (IntKind.u64.wrap (bt187.1 + 1)) true).bind fun bt209 => (some (bt209.1, bt209.2))))) else ((fixed_signed.f bt187.1 false).bind fun bt211 => (some (bt211.1, bt211.2))))))))) = some (r1, r2) := H
  have A7 := Aside0.mk A70
  clear A70
  by_cases c8 : t183 ≥ t185
  · rw [if_pos c8] at H
    have c8b0 : decide (t185 ≤ t183) = true := decide_eq_true c8
    clear c8
    simp only [Option.some.injEq, Prod.mk.injEq] at H
    obtain ⟨rfl, rfl⟩ := H
    go_enter Try.func31, Try.ntmps31
    go_wp2_with (first | ((with_reducible refine gate_callee (f := 36) rfl ?_); refine goesL_ (some 15) rfl rfl Try.func36 (by kernel_rfl) rfl #[.int .i64 a0] rfl sl_ ?_; (with_reducible refine (fixed_size.calls a0 t181 _ A4.out).mono ?_); rintro e w' ⟨rfl, ⟨nd, rfl⟩⟩; refine ⟨_, rfl, ?_⟩) | ((with_reducible refine gate_callee (f := 36) rfl ?_); refine goesL_ (some 17) rfl rfl Try.func36 (by kernel_rfl) rfl #[.int .i64 a1] rfl sl_ ?_; (with_reducible refine (fixed_size.calls a1 t182 _ A5.out).mono ?_); rintro e w' ⟨rfl, ⟨nd, rfl⟩⟩; refine ⟨_, rfl, ?_⟩) | ((with_reducible refine gate_callee (f := 35) rfl ?_); refine goesL_ (some 18) rfl rfl Try.func35 (by kernel_rfl) rfl #[.int .u64 t181, .int .u64 t182] rfl sl_ ?_; (with_reducible refine (bits_Mul64.calls t181 t182 t183 t184 _ A6.out).mono ?_); rintro e w' ⟨rfl, ⟨nd, rfl⟩⟩; refine ⟨_, rfl, ?_⟩) | ((with_reducible refine gate_callee (f := 36) rfl ?_); refine goesL_ (some 23) rfl rfl Try.func36 (by kernel_rfl) rfl #[.int .i64 a2] rfl sl_ ?_; (with_reducible refine (fixed_size.calls a2 t185 _ A7.out).mono ?_); rintro e w' ⟨rfl, ⟨nd, rfl⟩⟩; refine ⟨_, rfl, ?_⟩))
    go_ret2
    exact ⟨by first | rfl | (simp; done) | (simp [*]; done), by repeat (first | exact Drawn0.refl _ | apply Drawn0.step)⟩
  · rw [if_neg c8] at H
    have c8b0 : decide (t185 ≤ t183) = false := decide_eq_false c8
    clear c8
    replace H := Option.bind_eq_some_iff.mp H
    obtain ⟨t186, A90, H⟩ := H
    replace H : ((bits_Div64.f k t183 t184 t186).bind fun bt187 => (if a0 < 0 then (if a1 < 0 then (if a2 < 0 then (if bt187.2 = 0 then ((fixed_signed.f bt187.1 true).bind fun bt189 => (some (bt189.1, bt189.2))) else (if (IntKind.u64.wrap (bt187.1 + 1)) = 0 then (some (0, false)) else ((fixed_signed.f (IntKind.u64.wrap (bt187.1 + 1)) true).bind fun bt191 => (some (bt191.1, bt191.2))))) else ((fixed_signed.f bt187.1 false).bind fun bt193 => (some (bt193.1, bt193.2)))) else (if a2 < 0 then ((fixed_signed.f bt187.1 false).bind fun bt195 => (some (bt195.1, bt195.2))) else (if bt187.2 = 0 then ((fixed_signed.f bt187.1 true).bind fun bt197 => (some (bt197.1, bt197.2))) else (if (IntKind.u64.wrap (bt187.1 + 1)) = 0 then (some (0, false)) else ((fixed_signed.f (IntKind.u64.wrap (bt187.1 + 1)) true).bind fun bt199 => (some (bt199.1, bt199.2))))))) else (if a1 < 0 then (if a2 < 0 then ((fixed_signed.f bt187.1 false).bind fun bt201 => (some (bt201.1, bt201.2))) else (if bt187.2 = 0 then ((fixed_signed.f bt187.1 true).bind fun bt203 => (some (bt203.1, bt203.2))) else (if (IntKind.u64.wrap (bt187.1 + 1)) = 0 then (some (0, false)) else ((fixed_signed.f (IntKind.u64.wrap (bt187.1 + 1)) true).bind fun bt205 => (some (bt205.1, bt205.2)))))) else (if a2 < 0 then (if bt187.2 = 0 then ((fixed_signed.f bt187.1 true).bind fun bt207 => (some (bt207.1, bt207.2))) else (if (IntKind.u64.wrap (bt187.1 + 1)) = 0 then (some (0, false)) else ((fixed_signed.f (IntKind.u64.wrap (bt187.1 + 1)) true).bind fun bt209 => (some (bt209.1, bt209.2))))) else ((fixed_signed.f bt187.1 false).bind fun bt211 => (some (bt211.1, bt211.2))))))) = some (r1, r2) := H
    have A9 := Aside0.mk A90
    clear A90
    replace H := Option.bind_eq_some_iff.mp H
    obtain ⟨⟨t187, t188⟩, A100, H⟩ := H
    replace H : (if a0 < 0 then (if a1 < 0 then (if a2 < 0 then (if t188 = 0 then ((fixed_signed.f t187 true).bind fun bt189 => (some (bt189.1, bt189.2))) else (if (IntKind.u64.wrap (t187 + 1)) = 0 then (some (0, false)) else ((fixed_signed.f (IntKind.u64.wrap (t187 + 1)) true).bind fun bt191 => (some (bt191.1, bt191.2))))) else ((fixed_signed.f t187 false).bind fun bt193 => (some (bt193.1, bt193.2)))) else (if a2 < 0 then ((fixed_signed.f t187 false).bind fun bt195 => (some (bt195.1, bt195.2))) else (if t188 = 0 then ((fixed_signed.f t187 true).bind fun bt197 => (some (bt197.1, bt197.2))) else (if (IntKind.u64.wrap (t187 + 1)) = 0 then (some (0, false)) else ((fixed_signed.f (IntKind.u64.wrap (t187 + 1)) true).bind fun bt199 => (some (bt199.1, bt199.2))))))) else (if a1 < 0 then (if a2 < 0 then ((fixed_signed.f t187 false).bind fun bt201 => (some (bt201.1, bt201.2))) else (if t188 = 0 then ((fixed_signed.f t187 true).bind fun bt203 => (some (bt203.1, bt203.2))) else (if (IntKind.u64.wrap (t187 + 1)) = 0 then (some (0, false)) else ((fixed_signed.f (IntKind.u64.wrap (t187 + 1)) true).bind fun bt205 => (some (bt205.1, bt205.2)))))) else (if a2 < 0 then (if t188 = 0 then ((fixed_signed.f t187 true).bind fun bt207 => (some (bt207.1, bt207.2))) else (if (IntKind.u64.wrap (t187 + 1)) = 0 then (some (0, false)) else ((fixed_signed.f (IntKind.u64.wrap (t187 + 1)) true).bind fun bt209 => (some (bt209.1, bt209.2))))) else ((fixed_signed.f t187 false).bind fun bt211 => (some (bt211.1, bt211.2)))))) = some (r1, r2) := H
    have A10 := Aside0.mk A100
    clear A100
    by_cases c11 : a0 < 0
    · rw [if_pos c11] at H
      have c11b0 : decide (a0 < 0) = true := decide_eq_true c11
      clear c11
      by_cases c12 : a1 < 0
      · rw [if_pos c12] at H
        have c12b0 : decide (a1 < 0) = true := decide_eq_true c12
        clear c12
        by_cases c13 : a2 < 0
        · rw [if_pos c13] at H
          have c13b0 : decide (a2 < 0) = true := decide_eq_true c13
          clear c13
          by_cases c14 : t188 = 0
          · rw [if_pos c14] at H
            have c14b0 : (t188 == 0) = true := beq_iff_eq.mpr c14
            have c14b1 : (t188 != 0) = false := bne_eq_false_iff_eq.mpr c14
            clear c14
            replace H := Option.bind_eq_some_iff.mp H
            obtain ⟨⟨t189, t190⟩, A150, H⟩ := H
            replace H : (some (t189, t190)) = some (r1, r2) := H
            have A15 := Aside0.mk A150
            clear A150
            simp only [Option.some.injEq, Prod.mk.injEq] at H
            obtain ⟨rfl, rfl⟩ := H
            go_enter Try.func31, Try.ntmps31
            go_wp2_with (first | ((with_reducible refine gate_callee (f := 36) rfl ?_); refine goesL_ (some 15) rfl rfl Try.func36 (by kernel_rfl) rfl #[.int .i64 a0] rfl sl_ ?_; (with_reducible refine (fixed_size.calls a0 t181 _ A4.out).mono ?_); rintro e w' ⟨rfl, ⟨nd, rfl⟩⟩; refine ⟨_, rfl, ?_⟩) | ((with_reducible refine gate_callee (f := 36) rfl ?_); refine goesL_ (some 17) rfl rfl Try.func36 (by kernel_rfl) rfl #[.int .i64 a1] rfl sl_ ?_; (with_reducible refine (fixed_size.calls a1 t182 _ A5.out).mono ?_); rintro e w' ⟨rfl, ⟨nd, rfl⟩⟩; refine ⟨_, rfl, ?_⟩) | ((with_reducible refine gate_callee (f := 35) rfl ?_); refine goesL_ (some 18) rfl rfl Try.func35 (by kernel_rfl) rfl #[.int .u64 t181, .int .u64 t182] rfl sl_ ?_; (with_reducible refine (bits_Mul64.calls t181 t182 t183 t184 _ A6.out).mono ?_); rintro e w' ⟨rfl, ⟨nd, rfl⟩⟩; refine ⟨_, rfl, ?_⟩) | ((with_reducible refine gate_callee (f := 36) rfl ?_); refine goesL_ (some 23) rfl rfl Try.func36 (by kernel_rfl) rfl #[.int .i64 a2] rfl sl_ ?_; (with_reducible refine (fixed_size.calls a2 t185 _ A7.out).mono ?_); rintro e w' ⟨rfl, ⟨nd, rfl⟩⟩; refine ⟨_, rfl, ?_⟩) | ((with_reducible refine gate_callee (f := 36) rfl ?_); refine goesL_ (some 29) rfl rfl Try.func36 (by kernel_rfl) rfl #[.int .i64 a2] rfl sl_ ?_; (with_reducible refine (fixed_size.calls a2 t186 _ A9.out).mono ?_); rintro e w' ⟨rfl, ⟨nd, rfl⟩⟩; refine ⟨_, rfl, ?_⟩) | ((with_reducible refine gate_callee (f := 37) rfl ?_); refine goesL_ (some 30) rfl rfl Try.func37 (by kernel_rfl) rfl #[.int .u64 t183, .int .u64 t184, .int .u64 t186] rfl sl_ ?_; (with_reducible refine (bits_Div64.calls k t183 t184 t186 t187 t188 _ A10.out).mono ?_); rintro e w' ⟨rfl, ⟨nd, rfl⟩⟩; refine ⟨_, rfl, ?_⟩) | ((with_reducible refine gate_callee (f := 38) rfl ?_); refine goesL_ (some 52) rfl rfl Try.func38 (by kernel_rfl) rfl #[.int .u64 t187, .bool true] rfl sl_ ?_; (with_reducible refine (fixed_signed.calls t187 true t189 t190 _ A15.out).mono ?_); rintro e w' ⟨rfl, ⟨nd, rfl⟩⟩; refine ⟨_, rfl, ?_⟩))
            go_ret2
            exact ⟨by first | rfl | (simp; done) | (simp [*]; done), by repeat (first | exact Drawn0.refl _ | apply Drawn0.step)⟩
          · rw [if_neg c14] at H
            have c14b0 : (t188 == 0) = false := beq_eq_false_iff_ne.mpr c14
            have c14b1 : (t188 != 0) = true := bne_iff_ne.mpr c14
            by_cases c16 : (IntKind.u64.wrap (t187 + 1)) = 0
            · rw [if_pos c16] at H
              have c16b0 : ((IntKind.u64.wrap (t187 + 1)) == 0) = true := beq_iff_eq.mpr c16
              have c16b1 : ((IntKind.u64.wrap (t187 + 1)) != 0) = false := bne_eq_false_iff_eq.mpr c16
              clear c16
              simp only [Option.some.injEq, Prod.mk.injEq] at H
              obtain ⟨rfl, rfl⟩ := H
              go_enter Try.func31, Try.ntmps31
              go_wp2_with (first | ((with_reducible refine gate_callee (f := 36) rfl ?_); refine goesL_ (some 15) rfl rfl Try.func36 (by kernel_rfl) rfl #[.int .i64 a0] rfl sl_ ?_; (with_reducible refine (fixed_size.calls a0 t181 _ A4.out).mono ?_); rintro e w' ⟨rfl, ⟨nd, rfl⟩⟩; refine ⟨_, rfl, ?_⟩) | ((with_reducible refine gate_callee (f := 36) rfl ?_); refine goesL_ (some 17) rfl rfl Try.func36 (by kernel_rfl) rfl #[.int .i64 a1] rfl sl_ ?_; (with_reducible refine (fixed_size.calls a1 t182 _ A5.out).mono ?_); rintro e w' ⟨rfl, ⟨nd, rfl⟩⟩; refine ⟨_, rfl, ?_⟩) | ((with_reducible refine gate_callee (f := 35) rfl ?_); refine goesL_ (some 18) rfl rfl Try.func35 (by kernel_rfl) rfl #[.int .u64 t181, .int .u64 t182] rfl sl_ ?_; (with_reducible refine (bits_Mul64.calls t181 t182 t183 t184 _ A6.out).mono ?_); rintro e w' ⟨rfl, ⟨nd, rfl⟩⟩; refine ⟨_, rfl, ?_⟩) | ((with_reducible refine gate_callee (f := 36) rfl ?_); refine goesL_ (some 23) rfl rfl Try.func36 (by kernel_rfl) rfl #[.int .i64 a2] rfl sl_ ?_; (with_reducible refine (fixed_size.calls a2 t185 _ A7.out).mono ?_); rintro e w' ⟨rfl, ⟨nd, rfl⟩⟩; refine ⟨_, rfl, ?_⟩) | ((with_reducible refine gate_callee (f := 36) rfl ?_); refine goesL_ (some 29) rfl rfl Try.func36 (by kernel_rfl) rfl #[.int .i64 a2] rfl sl_ ?_; (with_reducible refine (fixed_size.calls a2 t186 _ A9.out).mono ?_); rintro e w' ⟨rfl, ⟨nd, rfl⟩⟩; refine ⟨_, rfl, ?_⟩) | ((with_reducible refine gate_callee (f := 37) rfl ?_); refine goesL_ (some 30) rfl rfl Try.func37 (by kernel_rfl) rfl #[.int .u64 t183, .int .u64 t184, .int .u64 t186] rfl sl_ ?_; (with_reducible refine (bits_Div64.calls k t183 t184 t186 t187 t188 _ A10.out).mono ?_); rintro e w' ⟨rfl, ⟨nd, rfl⟩⟩; refine ⟨_, rfl, ?_⟩))
              go_ret2
              exact ⟨by first | rfl | (simp; done) | (simp [*]; done), by repeat (first | exact Drawn0.refl _ | apply Drawn0.step)⟩
            · rw [if_neg c16] at H
              have c16b0 : ((IntKind.u64.wrap (t187 + 1)) == 0) = false := beq_eq_false_iff_ne.mpr c16
              have c16b1 : ((IntKind.u64.wrap (t187 + 1)) != 0) = true := bne_iff_ne.mpr c16
              replace H := Option.bind_eq_some_iff.mp H
              obtain ⟨⟨t191, t192⟩, A170, H⟩ := H
              replace H : (some (t191, t192)) = some (r1, r2) := H
              have A17 := Aside0.mk A170
              clear A170
              simp only [Option.some.injEq, Prod.mk.injEq] at H
              obtain ⟨rfl, rfl⟩ := H
              go_enter Try.func31, Try.ntmps31
              go_wp2_with (first | ((with_reducible refine gate_callee (f := 36) rfl ?_); refine goesL_ (some 15) rfl rfl Try.func36 (by kernel_rfl) rfl #[.int .i64 a0] rfl sl_ ?_; (with_reducible refine (fixed_size.calls a0 t181 _ A4.out).mono ?_); rintro e w' ⟨rfl, ⟨nd, rfl⟩⟩; refine ⟨_, rfl, ?_⟩) | ((with_reducible refine gate_callee (f := 36) rfl ?_); refine goesL_ (some 17) rfl rfl Try.func36 (by kernel_rfl) rfl #[.int .i64 a1] rfl sl_ ?_; (with_reducible refine (fixed_size.calls a1 t182 _ A5.out).mono ?_); rintro e w' ⟨rfl, ⟨nd, rfl⟩⟩; refine ⟨_, rfl, ?_⟩) | ((with_reducible refine gate_callee (f := 35) rfl ?_); refine goesL_ (some 18) rfl rfl Try.func35 (by kernel_rfl) rfl #[.int .u64 t181, .int .u64 t182] rfl sl_ ?_; (with_reducible refine (bits_Mul64.calls t181 t182 t183 t184 _ A6.out).mono ?_); rintro e w' ⟨rfl, ⟨nd, rfl⟩⟩; refine ⟨_, rfl, ?_⟩) | ((with_reducible refine gate_callee (f := 36) rfl ?_); refine goesL_ (some 23) rfl rfl Try.func36 (by kernel_rfl) rfl #[.int .i64 a2] rfl sl_ ?_; (with_reducible refine (fixed_size.calls a2 t185 _ A7.out).mono ?_); rintro e w' ⟨rfl, ⟨nd, rfl⟩⟩; refine ⟨_, rfl, ?_⟩) | ((with_reducible refine gate_callee (f := 36) rfl ?_); refine goesL_ (some 29) rfl rfl Try.func36 (by kernel_rfl) rfl #[.int .i64 a2] rfl sl_ ?_; (with_reducible refine (fixed_size.calls a2 t186 _ A9.out).mono ?_); rintro e w' ⟨rfl, ⟨nd, rfl⟩⟩; refine ⟨_, rfl, ?_⟩) | ((with_reducible refine gate_callee (f := 37) rfl ?_); refine goesL_ (some 30) rfl rfl Try.func37 (by kernel_rfl) rfl #[.int .u64 t183, .int .u64 t184, .int .u64 t186] rfl sl_ ?_; (with_reducible refine (bits_Div64.calls k t183 t184 t186 t187 t188 _ A10.out).mono ?_); rintro e w' ⟨rfl, ⟨nd, rfl⟩⟩; refine ⟨_, rfl, ?_⟩) | ((with_reducible refine gate_callee (f := 38) rfl ?_); refine goesL_ (some 52) rfl rfl Try.func38 (by kernel_rfl) rfl #[.int .u64 (IntKind.u64.wrap (t187 + 1)), .bool true] rfl sl_ ?_; (with_reducible refine (fixed_signed.calls (IntKind.u64.wrap (t187 + 1)) true t191 t192 _ A17.out).mono ?_); rintro e w' ⟨rfl, ⟨nd, rfl⟩⟩; refine ⟨_, rfl, ?_⟩))
              go_ret2
              exact ⟨by first | rfl | (simp; done) | (simp [*]; done), by repeat (first | exact Drawn0.refl _ | apply Drawn0.step)⟩
        · rw [if_neg c13] at H
          have c13b0 : decide (a2 < 0) = false := decide_eq_false c13
          clear c13
          replace H := Option.bind_eq_some_iff.mp H
          obtain ⟨⟨t193, t194⟩, A180, H⟩ := H
          replace H : (some (t193, t194)) = some (r1, r2) := H
          have A18 := Aside0.mk A180
          clear A180
          simp only [Option.some.injEq, Prod.mk.injEq] at H
          obtain ⟨rfl, rfl⟩ := H
          go_enter Try.func31, Try.ntmps31
          go_wp2_with (first | ((with_reducible refine gate_callee (f := 36) rfl ?_); refine goesL_ (some 15) rfl rfl Try.func36 (by kernel_rfl) rfl #[.int .i64 a0] rfl sl_ ?_; (with_reducible refine (fixed_size.calls a0 t181 _ A4.out).mono ?_); rintro e w' ⟨rfl, ⟨nd, rfl⟩⟩; refine ⟨_, rfl, ?_⟩) | ((with_reducible refine gate_callee (f := 36) rfl ?_); refine goesL_ (some 17) rfl rfl Try.func36 (by kernel_rfl) rfl #[.int .i64 a1] rfl sl_ ?_; (with_reducible refine (fixed_size.calls a1 t182 _ A5.out).mono ?_); rintro e w' ⟨rfl, ⟨nd, rfl⟩⟩; refine ⟨_, rfl, ?_⟩) | ((with_reducible refine gate_callee (f := 35) rfl ?_); refine goesL_ (some 18) rfl rfl Try.func35 (by kernel_rfl) rfl #[.int .u64 t181, .int .u64 t182] rfl sl_ ?_; (with_reducible refine (bits_Mul64.calls t181 t182 t183 t184 _ A6.out).mono ?_); rintro e w' ⟨rfl, ⟨nd, rfl⟩⟩; refine ⟨_, rfl, ?_⟩) | ((with_reducible refine gate_callee (f := 36) rfl ?_); refine goesL_ (some 23) rfl rfl Try.func36 (by kernel_rfl) rfl #[.int .i64 a2] rfl sl_ ?_; (with_reducible refine (fixed_size.calls a2 t185 _ A7.out).mono ?_); rintro e w' ⟨rfl, ⟨nd, rfl⟩⟩; refine ⟨_, rfl, ?_⟩) | ((with_reducible refine gate_callee (f := 36) rfl ?_); refine goesL_ (some 29) rfl rfl Try.func36 (by kernel_rfl) rfl #[.int .i64 a2] rfl sl_ ?_; (with_reducible refine (fixed_size.calls a2 t186 _ A9.out).mono ?_); rintro e w' ⟨rfl, ⟨nd, rfl⟩⟩; refine ⟨_, rfl, ?_⟩) | ((with_reducible refine gate_callee (f := 37) rfl ?_); refine goesL_ (some 30) rfl rfl Try.func37 (by kernel_rfl) rfl #[.int .u64 t183, .int .u64 t184, .int .u64 t186] rfl sl_ ?_; (with_reducible refine (bits_Div64.calls k t183 t184 t186 t187 t188 _ A10.out).mono ?_); rintro e w' ⟨rfl, ⟨nd, rfl⟩⟩; refine ⟨_, rfl, ?_⟩) | ((with_reducible refine gate_callee (f := 38) rfl ?_); refine goesL_ (some 52) rfl rfl Try.func38 (by kernel_rfl) rfl #[.int .u64 t187, .bool false] rfl sl_ ?_; (with_reducible refine (fixed_signed.calls t187 false t193 t194 _ A18.out).mono ?_); rintro e w' ⟨rfl, ⟨nd, rfl⟩⟩; refine ⟨_, rfl, ?_⟩))
          go_ret2
          exact ⟨by first | rfl | (simp; done) | (simp [*]; done), by repeat (first | exact Drawn0.refl _ | apply Drawn0.step)⟩
      · rw [if_neg c12] at H
        have c12b0 : decide (a1 < 0) = false := decide_eq_false c12
        clear c12
        by_cases c19 : a2 < 0
        · rw [if_pos c19] at H
          have c19b0 : decide (a2 < 0) = true := decide_eq_true c19
          clear c19
          replace H := Option.bind_eq_some_iff.mp H
          obtain ⟨⟨t195, t196⟩, A200, H⟩ := H
          replace H : (some (t195, t196)) = some (r1, r2) := H
          have A20 := Aside0.mk A200
          clear A200
          simp only [Option.some.injEq, Prod.mk.injEq] at H
          obtain ⟨rfl, rfl⟩ := H
          go_enter Try.func31, Try.ntmps31
          go_wp2_with (first | ((with_reducible refine gate_callee (f := 36) rfl ?_); refine goesL_ (some 15) rfl rfl Try.func36 (by kernel_rfl) rfl #[.int .i64 a0] rfl sl_ ?_; (with_reducible refine (fixed_size.calls a0 t181 _ A4.out).mono ?_); rintro e w' ⟨rfl, ⟨nd, rfl⟩⟩; refine ⟨_, rfl, ?_⟩) | ((with_reducible refine gate_callee (f := 36) rfl ?_); refine goesL_ (some 17) rfl rfl Try.func36 (by kernel_rfl) rfl #[.int .i64 a1] rfl sl_ ?_; (with_reducible refine (fixed_size.calls a1 t182 _ A5.out).mono ?_); rintro e w' ⟨rfl, ⟨nd, rfl⟩⟩; refine ⟨_, rfl, ?_⟩) | ((with_reducible refine gate_callee (f := 35) rfl ?_); refine goesL_ (some 18) rfl rfl Try.func35 (by kernel_rfl) rfl #[.int .u64 t181, .int .u64 t182] rfl sl_ ?_; (with_reducible refine (bits_Mul64.calls t181 t182 t183 t184 _ A6.out).mono ?_); rintro e w' ⟨rfl, ⟨nd, rfl⟩⟩; refine ⟨_, rfl, ?_⟩) | ((with_reducible refine gate_callee (f := 36) rfl ?_); refine goesL_ (some 23) rfl rfl Try.func36 (by kernel_rfl) rfl #[.int .i64 a2] rfl sl_ ?_; (with_reducible refine (fixed_size.calls a2 t185 _ A7.out).mono ?_); rintro e w' ⟨rfl, ⟨nd, rfl⟩⟩; refine ⟨_, rfl, ?_⟩) | ((with_reducible refine gate_callee (f := 36) rfl ?_); refine goesL_ (some 29) rfl rfl Try.func36 (by kernel_rfl) rfl #[.int .i64 a2] rfl sl_ ?_; (with_reducible refine (fixed_size.calls a2 t186 _ A9.out).mono ?_); rintro e w' ⟨rfl, ⟨nd, rfl⟩⟩; refine ⟨_, rfl, ?_⟩) | ((with_reducible refine gate_callee (f := 37) rfl ?_); refine goesL_ (some 30) rfl rfl Try.func37 (by kernel_rfl) rfl #[.int .u64 t183, .int .u64 t184, .int .u64 t186] rfl sl_ ?_; (with_reducible refine (bits_Div64.calls k t183 t184 t186 t187 t188 _ A10.out).mono ?_); rintro e w' ⟨rfl, ⟨nd, rfl⟩⟩; refine ⟨_, rfl, ?_⟩) | ((with_reducible refine gate_callee (f := 38) rfl ?_); refine goesL_ (some 52) rfl rfl Try.func38 (by kernel_rfl) rfl #[.int .u64 t187, .bool false] rfl sl_ ?_; (with_reducible refine (fixed_signed.calls t187 false t195 t196 _ A20.out).mono ?_); rintro e w' ⟨rfl, ⟨nd, rfl⟩⟩; refine ⟨_, rfl, ?_⟩))
          go_ret2
          exact ⟨by first | rfl | (simp; done) | (simp [*]; done), by repeat (first | exact Drawn0.refl _ | apply Drawn0.step)⟩
        · rw [if_neg c19] at H
          have c19b0 : decide (a2 < 0) = false := decide_eq_false c19
          clear c19
          by_cases c21 : t188 = 0
          · rw [if_pos c21] at H
            have c21b0 : (t188 == 0) = true := beq_iff_eq.mpr c21
            have c21b1 : (t188 != 0) = false := bne_eq_false_iff_eq.mpr c21
            clear c21
            replace H := Option.bind_eq_some_iff.mp H
            obtain ⟨⟨t197, t198⟩, A220, H⟩ := H
            replace H : (some (t197, t198)) = some (r1, r2) := H
            have A22 := Aside0.mk A220
            clear A220
            simp only [Option.some.injEq, Prod.mk.injEq] at H
            obtain ⟨rfl, rfl⟩ := H
            go_enter Try.func31, Try.ntmps31
            go_wp2_with (first | ((with_reducible refine gate_callee (f := 36) rfl ?_); refine goesL_ (some 15) rfl rfl Try.func36 (by kernel_rfl) rfl #[.int .i64 a0] rfl sl_ ?_; (with_reducible refine (fixed_size.calls a0 t181 _ A4.out).mono ?_); rintro e w' ⟨rfl, ⟨nd, rfl⟩⟩; refine ⟨_, rfl, ?_⟩) | ((with_reducible refine gate_callee (f := 36) rfl ?_); refine goesL_ (some 17) rfl rfl Try.func36 (by kernel_rfl) rfl #[.int .i64 a1] rfl sl_ ?_; (with_reducible refine (fixed_size.calls a1 t182 _ A5.out).mono ?_); rintro e w' ⟨rfl, ⟨nd, rfl⟩⟩; refine ⟨_, rfl, ?_⟩) | ((with_reducible refine gate_callee (f := 35) rfl ?_); refine goesL_ (some 18) rfl rfl Try.func35 (by kernel_rfl) rfl #[.int .u64 t181, .int .u64 t182] rfl sl_ ?_; (with_reducible refine (bits_Mul64.calls t181 t182 t183 t184 _ A6.out).mono ?_); rintro e w' ⟨rfl, ⟨nd, rfl⟩⟩; refine ⟨_, rfl, ?_⟩) | ((with_reducible refine gate_callee (f := 36) rfl ?_); refine goesL_ (some 23) rfl rfl Try.func36 (by kernel_rfl) rfl #[.int .i64 a2] rfl sl_ ?_; (with_reducible refine (fixed_size.calls a2 t185 _ A7.out).mono ?_); rintro e w' ⟨rfl, ⟨nd, rfl⟩⟩; refine ⟨_, rfl, ?_⟩) | ((with_reducible refine gate_callee (f := 36) rfl ?_); refine goesL_ (some 29) rfl rfl Try.func36 (by kernel_rfl) rfl #[.int .i64 a2] rfl sl_ ?_; (with_reducible refine (fixed_size.calls a2 t186 _ A9.out).mono ?_); rintro e w' ⟨rfl, ⟨nd, rfl⟩⟩; refine ⟨_, rfl, ?_⟩) | ((with_reducible refine gate_callee (f := 37) rfl ?_); refine goesL_ (some 30) rfl rfl Try.func37 (by kernel_rfl) rfl #[.int .u64 t183, .int .u64 t184, .int .u64 t186] rfl sl_ ?_; (with_reducible refine (bits_Div64.calls k t183 t184 t186 t187 t188 _ A10.out).mono ?_); rintro e w' ⟨rfl, ⟨nd, rfl⟩⟩; refine ⟨_, rfl, ?_⟩) | ((with_reducible refine gate_callee (f := 38) rfl ?_); refine goesL_ (some 52) rfl rfl Try.func38 (by kernel_rfl) rfl #[.int .u64 t187, .bool true] rfl sl_ ?_; (with_reducible refine (fixed_signed.calls t187 true t197 t198 _ A22.out).mono ?_); rintro e w' ⟨rfl, ⟨nd, rfl⟩⟩; refine ⟨_, rfl, ?_⟩))
            go_ret2
            exact ⟨by first | rfl | (simp; done) | (simp [*]; done), by repeat (first | exact Drawn0.refl _ | apply Drawn0.step)⟩
          · rw [if_neg c21] at H
            have c21b0 : (t188 == 0) = false := beq_eq_false_iff_ne.mpr c21
            have c21b1 : (t188 != 0) = true := bne_iff_ne.mpr c21
            by_cases c23 : (IntKind.u64.wrap (t187 + 1)) = 0
            · rw [if_pos c23] at H
              have c23b0 : ((IntKind.u64.wrap (t187 + 1)) == 0) = true := beq_iff_eq.mpr c23
              have c23b1 : ((IntKind.u64.wrap (t187 + 1)) != 0) = false := bne_eq_false_iff_eq.mpr c23
              clear c23
              simp only [Option.some.injEq, Prod.mk.injEq] at H
              obtain ⟨rfl, rfl⟩ := H
              go_enter Try.func31, Try.ntmps31
              go_wp2_with (first | ((with_reducible refine gate_callee (f := 36) rfl ?_); refine goesL_ (some 15) rfl rfl Try.func36 (by kernel_rfl) rfl #[.int .i64 a0] rfl sl_ ?_; (with_reducible refine (fixed_size.calls a0 t181 _ A4.out).mono ?_); rintro e w' ⟨rfl, ⟨nd, rfl⟩⟩; refine ⟨_, rfl, ?_⟩) | ((with_reducible refine gate_callee (f := 36) rfl ?_); refine goesL_ (some 17) rfl rfl Try.func36 (by kernel_rfl) rfl #[.int .i64 a1] rfl sl_ ?_; (with_reducible refine (fixed_size.calls a1 t182 _ A5.out).mono ?_); rintro e w' ⟨rfl, ⟨nd, rfl⟩⟩; refine ⟨_, rfl, ?_⟩) | ((with_reducible refine gate_callee (f := 35) rfl ?_); refine goesL_ (some 18) rfl rfl Try.func35 (by kernel_rfl) rfl #[.int .u64 t181, .int .u64 t182] rfl sl_ ?_; (with_reducible refine (bits_Mul64.calls t181 t182 t183 t184 _ A6.out).mono ?_); rintro e w' ⟨rfl, ⟨nd, rfl⟩⟩; refine ⟨_, rfl, ?_⟩) | ((with_reducible refine gate_callee (f := 36) rfl ?_); refine goesL_ (some 23) rfl rfl Try.func36 (by kernel_rfl) rfl #[.int .i64 a2] rfl sl_ ?_; (with_reducible refine (fixed_size.calls a2 t185 _ A7.out).mono ?_); rintro e w' ⟨rfl, ⟨nd, rfl⟩⟩; refine ⟨_, rfl, ?_⟩) | ((with_reducible refine gate_callee (f := 36) rfl ?_); refine goesL_ (some 29) rfl rfl Try.func36 (by kernel_rfl) rfl #[.int .i64 a2] rfl sl_ ?_; (with_reducible refine (fixed_size.calls a2 t186 _ A9.out).mono ?_); rintro e w' ⟨rfl, ⟨nd, rfl⟩⟩; refine ⟨_, rfl, ?_⟩) | ((with_reducible refine gate_callee (f := 37) rfl ?_); refine goesL_ (some 30) rfl rfl Try.func37 (by kernel_rfl) rfl #[.int .u64 t183, .int .u64 t184, .int .u64 t186] rfl sl_ ?_; (with_reducible refine (bits_Div64.calls k t183 t184 t186 t187 t188 _ A10.out).mono ?_); rintro e w' ⟨rfl, ⟨nd, rfl⟩⟩; refine ⟨_, rfl, ?_⟩))
              go_ret2
              exact ⟨by first | rfl | (simp; done) | (simp [*]; done), by repeat (first | exact Drawn0.refl _ | apply Drawn0.step)⟩
            · rw [if_neg c23] at H
              have c23b0 : ((IntKind.u64.wrap (t187 + 1)) == 0) = false := beq_eq_false_iff_ne.mpr c23
              have c23b1 : ((IntKind.u64.wrap (t187 + 1)) != 0) = true := bne_iff_ne.mpr c23
              replace H := Option.bind_eq_some_iff.mp H
              obtain ⟨⟨t199, t200⟩, A240, H⟩ := H
              replace H : (some (t199, t200)) = some (r1, r2) := H
              have A24 := Aside0.mk A240
              clear A240
              simp only [Option.some.injEq, Prod.mk.injEq] at H
              obtain ⟨rfl, rfl⟩ := H
              go_enter Try.func31, Try.ntmps31
              go_wp2_with (first | ((with_reducible refine gate_callee (f := 36) rfl ?_); refine goesL_ (some 15) rfl rfl Try.func36 (by kernel_rfl) rfl #[.int .i64 a0] rfl sl_ ?_; (with_reducible refine (fixed_size.calls a0 t181 _ A4.out).mono ?_); rintro e w' ⟨rfl, ⟨nd, rfl⟩⟩; refine ⟨_, rfl, ?_⟩) | ((with_reducible refine gate_callee (f := 36) rfl ?_); refine goesL_ (some 17) rfl rfl Try.func36 (by kernel_rfl) rfl #[.int .i64 a1] rfl sl_ ?_; (with_reducible refine (fixed_size.calls a1 t182 _ A5.out).mono ?_); rintro e w' ⟨rfl, ⟨nd, rfl⟩⟩; refine ⟨_, rfl, ?_⟩) | ((with_reducible refine gate_callee (f := 35) rfl ?_); refine goesL_ (some 18) rfl rfl Try.func35 (by kernel_rfl) rfl #[.int .u64 t181, .int .u64 t182] rfl sl_ ?_; (with_reducible refine (bits_Mul64.calls t181 t182 t183 t184 _ A6.out).mono ?_); rintro e w' ⟨rfl, ⟨nd, rfl⟩⟩; refine ⟨_, rfl, ?_⟩) | ((with_reducible refine gate_callee (f := 36) rfl ?_); refine goesL_ (some 23) rfl rfl Try.func36 (by kernel_rfl) rfl #[.int .i64 a2] rfl sl_ ?_; (with_reducible refine (fixed_size.calls a2 t185 _ A7.out).mono ?_); rintro e w' ⟨rfl, ⟨nd, rfl⟩⟩; refine ⟨_, rfl, ?_⟩) | ((with_reducible refine gate_callee (f := 36) rfl ?_); refine goesL_ (some 29) rfl rfl Try.func36 (by kernel_rfl) rfl #[.int .i64 a2] rfl sl_ ?_; (with_reducible refine (fixed_size.calls a2 t186 _ A9.out).mono ?_); rintro e w' ⟨rfl, ⟨nd, rfl⟩⟩; refine ⟨_, rfl, ?_⟩) | ((with_reducible refine gate_callee (f := 37) rfl ?_); refine goesL_ (some 30) rfl rfl Try.func37 (by kernel_rfl) rfl #[.int .u64 t183, .int .u64 t184, .int .u64 t186] rfl sl_ ?_; (with_reducible refine (bits_Div64.calls k t183 t184 t186 t187 t188 _ A10.out).mono ?_); rintro e w' ⟨rfl, ⟨nd, rfl⟩⟩; refine ⟨_, rfl, ?_⟩) | ((with_reducible refine gate_callee (f := 38) rfl ?_); refine goesL_ (some 52) rfl rfl Try.func38 (by kernel_rfl) rfl #[.int .u64 (IntKind.u64.wrap (t187 + 1)), .bool true] rfl sl_ ?_; (with_reducible refine (fixed_signed.calls (IntKind.u64.wrap (t187 + 1)) true t199 t200 _ A24.out).mono ?_); rintro e w' ⟨rfl, ⟨nd, rfl⟩⟩; refine ⟨_, rfl, ?_⟩))
              go_ret2
              exact ⟨by first | rfl | (simp; done) | (simp [*]; done), by repeat (first | exact Drawn0.refl _ | apply Drawn0.step)⟩
    · rw [if_neg c11] at H
      have c11b0 : decide (a0 < 0) = false := decide_eq_false c11
      clear c11
      by_cases c25 : a1 < 0
      · rw [if_pos c25] at H
        have c25b0 : decide (a1 < 0) = true := decide_eq_true c25
        clear c25
        by_cases c26 : a2 < 0
        · rw [if_pos c26] at H
          have c26b0 : decide (a2 < 0) = true := decide_eq_true c26
          clear c26
          replace H := Option.bind_eq_some_iff.mp H
          obtain ⟨⟨t201, t202⟩, A270, H⟩ := H
          replace H : (some (t201, t202)) = some (r1, r2) := H
          have A27 := Aside0.mk A270
          clear A270
          simp only [Option.some.injEq, Prod.mk.injEq] at H
          obtain ⟨rfl, rfl⟩ := H
          go_enter Try.func31, Try.ntmps31
          go_wp2_with (first | ((with_reducible refine gate_callee (f := 36) rfl ?_); refine goesL_ (some 15) rfl rfl Try.func36 (by kernel_rfl) rfl #[.int .i64 a0] rfl sl_ ?_; (with_reducible refine (fixed_size.calls a0 t181 _ A4.out).mono ?_); rintro e w' ⟨rfl, ⟨nd, rfl⟩⟩; refine ⟨_, rfl, ?_⟩) | ((with_reducible refine gate_callee (f := 36) rfl ?_); refine goesL_ (some 17) rfl rfl Try.func36 (by kernel_rfl) rfl #[.int .i64 a1] rfl sl_ ?_; (with_reducible refine (fixed_size.calls a1 t182 _ A5.out).mono ?_); rintro e w' ⟨rfl, ⟨nd, rfl⟩⟩; refine ⟨_, rfl, ?_⟩) | ((with_reducible refine gate_callee (f := 35) rfl ?_); refine goesL_ (some 18) rfl rfl Try.func35 (by kernel_rfl) rfl #[.int .u64 t181, .int .u64 t182] rfl sl_ ?_; (with_reducible refine (bits_Mul64.calls t181 t182 t183 t184 _ A6.out).mono ?_); rintro e w' ⟨rfl, ⟨nd, rfl⟩⟩; refine ⟨_, rfl, ?_⟩) | ((with_reducible refine gate_callee (f := 36) rfl ?_); refine goesL_ (some 23) rfl rfl Try.func36 (by kernel_rfl) rfl #[.int .i64 a2] rfl sl_ ?_; (with_reducible refine (fixed_size.calls a2 t185 _ A7.out).mono ?_); rintro e w' ⟨rfl, ⟨nd, rfl⟩⟩; refine ⟨_, rfl, ?_⟩) | ((with_reducible refine gate_callee (f := 36) rfl ?_); refine goesL_ (some 29) rfl rfl Try.func36 (by kernel_rfl) rfl #[.int .i64 a2] rfl sl_ ?_; (with_reducible refine (fixed_size.calls a2 t186 _ A9.out).mono ?_); rintro e w' ⟨rfl, ⟨nd, rfl⟩⟩; refine ⟨_, rfl, ?_⟩) | ((with_reducible refine gate_callee (f := 37) rfl ?_); refine goesL_ (some 30) rfl rfl Try.func37 (by kernel_rfl) rfl #[.int .u64 t183, .int .u64 t184, .int .u64 t186] rfl sl_ ?_; (with_reducible refine (bits_Div64.calls k t183 t184 t186 t187 t188 _ A10.out).mono ?_); rintro e w' ⟨rfl, ⟨nd, rfl⟩⟩; refine ⟨_, rfl, ?_⟩) | ((with_reducible refine gate_callee (f := 38) rfl ?_); refine goesL_ (some 52) rfl rfl Try.func38 (by kernel_rfl) rfl #[.int .u64 t187, .bool false] rfl sl_ ?_; (with_reducible refine (fixed_signed.calls t187 false t201 t202 _ A27.out).mono ?_); rintro e w' ⟨rfl, ⟨nd, rfl⟩⟩; refine ⟨_, rfl, ?_⟩))
          go_ret2
          exact ⟨by first | rfl | (simp; done) | (simp [*]; done), by repeat (first | exact Drawn0.refl _ | apply Drawn0.step)⟩
        · rw [if_neg c26] at H
          have c26b0 : decide (a2 < 0) = false := decide_eq_false c26
          clear c26
          by_cases c28 : t188 = 0
          · rw [if_pos c28] at H
            have c28b0 : (t188 == 0) = true := beq_iff_eq.mpr c28
            have c28b1 : (t188 != 0) = false := bne_eq_false_iff_eq.mpr c28
            clear c28
            replace H := Option.bind_eq_some_iff.mp H
            obtain ⟨⟨t203, t204⟩, A290, H⟩ := H
            replace H : (some (t203, t204)) = some (r1, r2) := H
            have A29 := Aside0.mk A290
            clear A290
            simp only [Option.some.injEq, Prod.mk.injEq] at H
            obtain ⟨rfl, rfl⟩ := H
            go_enter Try.func31, Try.ntmps31
            go_wp2_with (first | ((with_reducible refine gate_callee (f := 36) rfl ?_); refine goesL_ (some 15) rfl rfl Try.func36 (by kernel_rfl) rfl #[.int .i64 a0] rfl sl_ ?_; (with_reducible refine (fixed_size.calls a0 t181 _ A4.out).mono ?_); rintro e w' ⟨rfl, ⟨nd, rfl⟩⟩; refine ⟨_, rfl, ?_⟩) | ((with_reducible refine gate_callee (f := 36) rfl ?_); refine goesL_ (some 17) rfl rfl Try.func36 (by kernel_rfl) rfl #[.int .i64 a1] rfl sl_ ?_; (with_reducible refine (fixed_size.calls a1 t182 _ A5.out).mono ?_); rintro e w' ⟨rfl, ⟨nd, rfl⟩⟩; refine ⟨_, rfl, ?_⟩) | ((with_reducible refine gate_callee (f := 35) rfl ?_); refine goesL_ (some 18) rfl rfl Try.func35 (by kernel_rfl) rfl #[.int .u64 t181, .int .u64 t182] rfl sl_ ?_; (with_reducible refine (bits_Mul64.calls t181 t182 t183 t184 _ A6.out).mono ?_); rintro e w' ⟨rfl, ⟨nd, rfl⟩⟩; refine ⟨_, rfl, ?_⟩) | ((with_reducible refine gate_callee (f := 36) rfl ?_); refine goesL_ (some 23) rfl rfl Try.func36 (by kernel_rfl) rfl #[.int .i64 a2] rfl sl_ ?_; (with_reducible refine (fixed_size.calls a2 t185 _ A7.out).mono ?_); rintro e w' ⟨rfl, ⟨nd, rfl⟩⟩; refine ⟨_, rfl, ?_⟩) | ((with_reducible refine gate_callee (f := 36) rfl ?_); refine goesL_ (some 29) rfl rfl Try.func36 (by kernel_rfl) rfl #[.int .i64 a2] rfl sl_ ?_; (with_reducible refine (fixed_size.calls a2 t186 _ A9.out).mono ?_); rintro e w' ⟨rfl, ⟨nd, rfl⟩⟩; refine ⟨_, rfl, ?_⟩) | ((with_reducible refine gate_callee (f := 37) rfl ?_); refine goesL_ (some 30) rfl rfl Try.func37 (by kernel_rfl) rfl #[.int .u64 t183, .int .u64 t184, .int .u64 t186] rfl sl_ ?_; (with_reducible refine (bits_Div64.calls k t183 t184 t186 t187 t188 _ A10.out).mono ?_); rintro e w' ⟨rfl, ⟨nd, rfl⟩⟩; refine ⟨_, rfl, ?_⟩) | ((with_reducible refine gate_callee (f := 38) rfl ?_); refine goesL_ (some 52) rfl rfl Try.func38 (by kernel_rfl) rfl #[.int .u64 t187, .bool true] rfl sl_ ?_; (with_reducible refine (fixed_signed.calls t187 true t203 t204 _ A29.out).mono ?_); rintro e w' ⟨rfl, ⟨nd, rfl⟩⟩; refine ⟨_, rfl, ?_⟩))
            go_ret2
            exact ⟨by first | rfl | (simp; done) | (simp [*]; done), by repeat (first | exact Drawn0.refl _ | apply Drawn0.step)⟩
          · rw [if_neg c28] at H
            have c28b0 : (t188 == 0) = false := beq_eq_false_iff_ne.mpr c28
            have c28b1 : (t188 != 0) = true := bne_iff_ne.mpr c28
            by_cases c30 : (IntKind.u64.wrap (t187 + 1)) = 0
            · rw [if_pos c30] at H
              have c30b0 : ((IntKind.u64.wrap (t187 + 1)) == 0) = true := beq_iff_eq.mpr c30
              have c30b1 : ((IntKind.u64.wrap (t187 + 1)) != 0) = false := bne_eq_false_iff_eq.mpr c30
              clear c30
              simp only [Option.some.injEq, Prod.mk.injEq] at H
              obtain ⟨rfl, rfl⟩ := H
              go_enter Try.func31, Try.ntmps31
              go_wp2_with (first | ((with_reducible refine gate_callee (f := 36) rfl ?_); refine goesL_ (some 15) rfl rfl Try.func36 (by kernel_rfl) rfl #[.int .i64 a0] rfl sl_ ?_; (with_reducible refine (fixed_size.calls a0 t181 _ A4.out).mono ?_); rintro e w' ⟨rfl, ⟨nd, rfl⟩⟩; refine ⟨_, rfl, ?_⟩) | ((with_reducible refine gate_callee (f := 36) rfl ?_); refine goesL_ (some 17) rfl rfl Try.func36 (by kernel_rfl) rfl #[.int .i64 a1] rfl sl_ ?_; (with_reducible refine (fixed_size.calls a1 t182 _ A5.out).mono ?_); rintro e w' ⟨rfl, ⟨nd, rfl⟩⟩; refine ⟨_, rfl, ?_⟩) | ((with_reducible refine gate_callee (f := 35) rfl ?_); refine goesL_ (some 18) rfl rfl Try.func35 (by kernel_rfl) rfl #[.int .u64 t181, .int .u64 t182] rfl sl_ ?_; (with_reducible refine (bits_Mul64.calls t181 t182 t183 t184 _ A6.out).mono ?_); rintro e w' ⟨rfl, ⟨nd, rfl⟩⟩; refine ⟨_, rfl, ?_⟩) | ((with_reducible refine gate_callee (f := 36) rfl ?_); refine goesL_ (some 23) rfl rfl Try.func36 (by kernel_rfl) rfl #[.int .i64 a2] rfl sl_ ?_; (with_reducible refine (fixed_size.calls a2 t185 _ A7.out).mono ?_); rintro e w' ⟨rfl, ⟨nd, rfl⟩⟩; refine ⟨_, rfl, ?_⟩) | ((with_reducible refine gate_callee (f := 36) rfl ?_); refine goesL_ (some 29) rfl rfl Try.func36 (by kernel_rfl) rfl #[.int .i64 a2] rfl sl_ ?_; (with_reducible refine (fixed_size.calls a2 t186 _ A9.out).mono ?_); rintro e w' ⟨rfl, ⟨nd, rfl⟩⟩; refine ⟨_, rfl, ?_⟩) | ((with_reducible refine gate_callee (f := 37) rfl ?_); refine goesL_ (some 30) rfl rfl Try.func37 (by kernel_rfl) rfl #[.int .u64 t183, .int .u64 t184, .int .u64 t186] rfl sl_ ?_; (with_reducible refine (bits_Div64.calls k t183 t184 t186 t187 t188 _ A10.out).mono ?_); rintro e w' ⟨rfl, ⟨nd, rfl⟩⟩; refine ⟨_, rfl, ?_⟩))
              go_ret2
              exact ⟨by first | rfl | (simp; done) | (simp [*]; done), by repeat (first | exact Drawn0.refl _ | apply Drawn0.step)⟩
            · rw [if_neg c30] at H
              have c30b0 : ((IntKind.u64.wrap (t187 + 1)) == 0) = false := beq_eq_false_iff_ne.mpr c30
              have c30b1 : ((IntKind.u64.wrap (t187 + 1)) != 0) = true := bne_iff_ne.mpr c30
              replace H := Option.bind_eq_some_iff.mp H
              obtain ⟨⟨t205, t206⟩, A310, H⟩ := H
              replace H : (some (t205, t206)) = some (r1, r2) := H
              have A31 := Aside0.mk A310
              clear A310
              simp only [Option.some.injEq, Prod.mk.injEq] at H
              obtain ⟨rfl, rfl⟩ := H
              go_enter Try.func31, Try.ntmps31
              go_wp2_with (first | ((with_reducible refine gate_callee (f := 36) rfl ?_); refine goesL_ (some 15) rfl rfl Try.func36 (by kernel_rfl) rfl #[.int .i64 a0] rfl sl_ ?_; (with_reducible refine (fixed_size.calls a0 t181 _ A4.out).mono ?_); rintro e w' ⟨rfl, ⟨nd, rfl⟩⟩; refine ⟨_, rfl, ?_⟩) | ((with_reducible refine gate_callee (f := 36) rfl ?_); refine goesL_ (some 17) rfl rfl Try.func36 (by kernel_rfl) rfl #[.int .i64 a1] rfl sl_ ?_; (with_reducible refine (fixed_size.calls a1 t182 _ A5.out).mono ?_); rintro e w' ⟨rfl, ⟨nd, rfl⟩⟩; refine ⟨_, rfl, ?_⟩) | ((with_reducible refine gate_callee (f := 35) rfl ?_); refine goesL_ (some 18) rfl rfl Try.func35 (by kernel_rfl) rfl #[.int .u64 t181, .int .u64 t182] rfl sl_ ?_; (with_reducible refine (bits_Mul64.calls t181 t182 t183 t184 _ A6.out).mono ?_); rintro e w' ⟨rfl, ⟨nd, rfl⟩⟩; refine ⟨_, rfl, ?_⟩) | ((with_reducible refine gate_callee (f := 36) rfl ?_); refine goesL_ (some 23) rfl rfl Try.func36 (by kernel_rfl) rfl #[.int .i64 a2] rfl sl_ ?_; (with_reducible refine (fixed_size.calls a2 t185 _ A7.out).mono ?_); rintro e w' ⟨rfl, ⟨nd, rfl⟩⟩; refine ⟨_, rfl, ?_⟩) | ((with_reducible refine gate_callee (f := 36) rfl ?_); refine goesL_ (some 29) rfl rfl Try.func36 (by kernel_rfl) rfl #[.int .i64 a2] rfl sl_ ?_; (with_reducible refine (fixed_size.calls a2 t186 _ A9.out).mono ?_); rintro e w' ⟨rfl, ⟨nd, rfl⟩⟩; refine ⟨_, rfl, ?_⟩) | ((with_reducible refine gate_callee (f := 37) rfl ?_); refine goesL_ (some 30) rfl rfl Try.func37 (by kernel_rfl) rfl #[.int .u64 t183, .int .u64 t184, .int .u64 t186] rfl sl_ ?_; (with_reducible refine (bits_Div64.calls k t183 t184 t186 t187 t188 _ A10.out).mono ?_); rintro e w' ⟨rfl, ⟨nd, rfl⟩⟩; refine ⟨_, rfl, ?_⟩) | ((with_reducible refine gate_callee (f := 38) rfl ?_); refine goesL_ (some 52) rfl rfl Try.func38 (by kernel_rfl) rfl #[.int .u64 (IntKind.u64.wrap (t187 + 1)), .bool true] rfl sl_ ?_; (with_reducible refine (fixed_signed.calls (IntKind.u64.wrap (t187 + 1)) true t205 t206 _ A31.out).mono ?_); rintro e w' ⟨rfl, ⟨nd, rfl⟩⟩; refine ⟨_, rfl, ?_⟩))
              go_ret2
              exact ⟨by first | rfl | (simp; done) | (simp [*]; done), by repeat (first | exact Drawn0.refl _ | apply Drawn0.step)⟩
      · rw [if_neg c25] at H
        have c25b0 : decide (a1 < 0) = false := decide_eq_false c25
        clear c25
        by_cases c32 : a2 < 0
        · rw [if_pos c32] at H
          have c32b0 : decide (a2 < 0) = true := decide_eq_true c32
          clear c32
          by_cases c33 : t188 = 0
          · rw [if_pos c33] at H
            have c33b0 : (t188 == 0) = true := beq_iff_eq.mpr c33
            have c33b1 : (t188 != 0) = false := bne_eq_false_iff_eq.mpr c33
            clear c33
            replace H := Option.bind_eq_some_iff.mp H
            obtain ⟨⟨t207, t208⟩, A340, H⟩ := H
            replace H : (some (t207, t208)) = some (r1, r2) := H
            have A34 := Aside0.mk A340
            clear A340
            simp only [Option.some.injEq, Prod.mk.injEq] at H
            obtain ⟨rfl, rfl⟩ := H
            go_enter Try.func31, Try.ntmps31
            go_wp2_with (first | ((with_reducible refine gate_callee (f := 36) rfl ?_); refine goesL_ (some 15) rfl rfl Try.func36 (by kernel_rfl) rfl #[.int .i64 a0] rfl sl_ ?_; (with_reducible refine (fixed_size.calls a0 t181 _ A4.out).mono ?_); rintro e w' ⟨rfl, ⟨nd, rfl⟩⟩; refine ⟨_, rfl, ?_⟩) | ((with_reducible refine gate_callee (f := 36) rfl ?_); refine goesL_ (some 17) rfl rfl Try.func36 (by kernel_rfl) rfl #[.int .i64 a1] rfl sl_ ?_; (with_reducible refine (fixed_size.calls a1 t182 _ A5.out).mono ?_); rintro e w' ⟨rfl, ⟨nd, rfl⟩⟩; refine ⟨_, rfl, ?_⟩) | ((with_reducible refine gate_callee (f := 35) rfl ?_); refine goesL_ (some 18) rfl rfl Try.func35 (by kernel_rfl) rfl #[.int .u64 t181, .int .u64 t182] rfl sl_ ?_; (with_reducible refine (bits_Mul64.calls t181 t182 t183 t184 _ A6.out).mono ?_); rintro e w' ⟨rfl, ⟨nd, rfl⟩⟩; refine ⟨_, rfl, ?_⟩) | ((with_reducible refine gate_callee (f := 36) rfl ?_); refine goesL_ (some 23) rfl rfl Try.func36 (by kernel_rfl) rfl #[.int .i64 a2] rfl sl_ ?_; (with_reducible refine (fixed_size.calls a2 t185 _ A7.out).mono ?_); rintro e w' ⟨rfl, ⟨nd, rfl⟩⟩; refine ⟨_, rfl, ?_⟩) | ((with_reducible refine gate_callee (f := 36) rfl ?_); refine goesL_ (some 29) rfl rfl Try.func36 (by kernel_rfl) rfl #[.int .i64 a2] rfl sl_ ?_; (with_reducible refine (fixed_size.calls a2 t186 _ A9.out).mono ?_); rintro e w' ⟨rfl, ⟨nd, rfl⟩⟩; refine ⟨_, rfl, ?_⟩) | ((with_reducible refine gate_callee (f := 37) rfl ?_); refine goesL_ (some 30) rfl rfl Try.func37 (by kernel_rfl) rfl #[.int .u64 t183, .int .u64 t184, .int .u64 t186] rfl sl_ ?_; (with_reducible refine (bits_Div64.calls k t183 t184 t186 t187 t188 _ A10.out).mono ?_); rintro e w' ⟨rfl, ⟨nd, rfl⟩⟩; refine ⟨_, rfl, ?_⟩) | ((with_reducible refine gate_callee (f := 38) rfl ?_); refine goesL_ (some 52) rfl rfl Try.func38 (by kernel_rfl) rfl #[.int .u64 t187, .bool true] rfl sl_ ?_; (with_reducible refine (fixed_signed.calls t187 true t207 t208 _ A34.out).mono ?_); rintro e w' ⟨rfl, ⟨nd, rfl⟩⟩; refine ⟨_, rfl, ?_⟩))
            go_ret2
            exact ⟨by first | rfl | (simp; done) | (simp [*]; done), by repeat (first | exact Drawn0.refl _ | apply Drawn0.step)⟩
          · rw [if_neg c33] at H
            have c33b0 : (t188 == 0) = false := beq_eq_false_iff_ne.mpr c33
            have c33b1 : (t188 != 0) = true := bne_iff_ne.mpr c33
            by_cases c35 : (IntKind.u64.wrap (t187 + 1)) = 0
            · rw [if_pos c35] at H
              have c35b0 : ((IntKind.u64.wrap (t187 + 1)) == 0) = true := beq_iff_eq.mpr c35
              have c35b1 : ((IntKind.u64.wrap (t187 + 1)) != 0) = false := bne_eq_false_iff_eq.mpr c35
              clear c35
              simp only [Option.some.injEq, Prod.mk.injEq] at H
              obtain ⟨rfl, rfl⟩ := H
              go_enter Try.func31, Try.ntmps31
              go_wp2_with (first | ((with_reducible refine gate_callee (f := 36) rfl ?_); refine goesL_ (some 15) rfl rfl Try.func36 (by kernel_rfl) rfl #[.int .i64 a0] rfl sl_ ?_; (with_reducible refine (fixed_size.calls a0 t181 _ A4.out).mono ?_); rintro e w' ⟨rfl, ⟨nd, rfl⟩⟩; refine ⟨_, rfl, ?_⟩) | ((with_reducible refine gate_callee (f := 36) rfl ?_); refine goesL_ (some 17) rfl rfl Try.func36 (by kernel_rfl) rfl #[.int .i64 a1] rfl sl_ ?_; (with_reducible refine (fixed_size.calls a1 t182 _ A5.out).mono ?_); rintro e w' ⟨rfl, ⟨nd, rfl⟩⟩; refine ⟨_, rfl, ?_⟩) | ((with_reducible refine gate_callee (f := 35) rfl ?_); refine goesL_ (some 18) rfl rfl Try.func35 (by kernel_rfl) rfl #[.int .u64 t181, .int .u64 t182] rfl sl_ ?_; (with_reducible refine (bits_Mul64.calls t181 t182 t183 t184 _ A6.out).mono ?_); rintro e w' ⟨rfl, ⟨nd, rfl⟩⟩; refine ⟨_, rfl, ?_⟩) | ((with_reducible refine gate_callee (f := 36) rfl ?_); refine goesL_ (some 23) rfl rfl Try.func36 (by kernel_rfl) rfl #[.int .i64 a2] rfl sl_ ?_; (with_reducible refine (fixed_size.calls a2 t185 _ A7.out).mono ?_); rintro e w' ⟨rfl, ⟨nd, rfl⟩⟩; refine ⟨_, rfl, ?_⟩) | ((with_reducible refine gate_callee (f := 36) rfl ?_); refine goesL_ (some 29) rfl rfl Try.func36 (by kernel_rfl) rfl #[.int .i64 a2] rfl sl_ ?_; (with_reducible refine (fixed_size.calls a2 t186 _ A9.out).mono ?_); rintro e w' ⟨rfl, ⟨nd, rfl⟩⟩; refine ⟨_, rfl, ?_⟩) | ((with_reducible refine gate_callee (f := 37) rfl ?_); refine goesL_ (some 30) rfl rfl Try.func37 (by kernel_rfl) rfl #[.int .u64 t183, .int .u64 t184, .int .u64 t186] rfl sl_ ?_; (with_reducible refine (bits_Div64.calls k t183 t184 t186 t187 t188 _ A10.out).mono ?_); rintro e w' ⟨rfl, ⟨nd, rfl⟩⟩; refine ⟨_, rfl, ?_⟩))
              go_ret2
              exact ⟨by first | rfl | (simp; done) | (simp [*]; done), by repeat (first | exact Drawn0.refl _ | apply Drawn0.step)⟩
            · rw [if_neg c35] at H
              have c35b0 : ((IntKind.u64.wrap (t187 + 1)) == 0) = false := beq_eq_false_iff_ne.mpr c35
              have c35b1 : ((IntKind.u64.wrap (t187 + 1)) != 0) = true := bne_iff_ne.mpr c35
              replace H := Option.bind_eq_some_iff.mp H
              obtain ⟨⟨t209, t210⟩, A360, H⟩ := H
              replace H : (some (t209, t210)) = some (r1, r2) := H
              have A36 := Aside0.mk A360
              clear A360
              simp only [Option.some.injEq, Prod.mk.injEq] at H
              obtain ⟨rfl, rfl⟩ := H
              go_enter Try.func31, Try.ntmps31
              go_wp2_with (first | ((with_reducible refine gate_callee (f := 36) rfl ?_); refine goesL_ (some 15) rfl rfl Try.func36 (by kernel_rfl) rfl #[.int .i64 a0] rfl sl_ ?_; (with_reducible refine (fixed_size.calls a0 t181 _ A4.out).mono ?_); rintro e w' ⟨rfl, ⟨nd, rfl⟩⟩; refine ⟨_, rfl, ?_⟩) | ((with_reducible refine gate_callee (f := 36) rfl ?_); refine goesL_ (some 17) rfl rfl Try.func36 (by kernel_rfl) rfl #[.int .i64 a1] rfl sl_ ?_; (with_reducible refine (fixed_size.calls a1 t182 _ A5.out).mono ?_); rintro e w' ⟨rfl, ⟨nd, rfl⟩⟩; refine ⟨_, rfl, ?_⟩) | ((with_reducible refine gate_callee (f := 35) rfl ?_); refine goesL_ (some 18) rfl rfl Try.func35 (by kernel_rfl) rfl #[.int .u64 t181, .int .u64 t182] rfl sl_ ?_; (with_reducible refine (bits_Mul64.calls t181 t182 t183 t184 _ A6.out).mono ?_); rintro e w' ⟨rfl, ⟨nd, rfl⟩⟩; refine ⟨_, rfl, ?_⟩) | ((with_reducible refine gate_callee (f := 36) rfl ?_); refine goesL_ (some 23) rfl rfl Try.func36 (by kernel_rfl) rfl #[.int .i64 a2] rfl sl_ ?_; (with_reducible refine (fixed_size.calls a2 t185 _ A7.out).mono ?_); rintro e w' ⟨rfl, ⟨nd, rfl⟩⟩; refine ⟨_, rfl, ?_⟩) | ((with_reducible refine gate_callee (f := 36) rfl ?_); refine goesL_ (some 29) rfl rfl Try.func36 (by kernel_rfl) rfl #[.int .i64 a2] rfl sl_ ?_; (with_reducible refine (fixed_size.calls a2 t186 _ A9.out).mono ?_); rintro e w' ⟨rfl, ⟨nd, rfl⟩⟩; refine ⟨_, rfl, ?_⟩) | ((with_reducible refine gate_callee (f := 37) rfl ?_); refine goesL_ (some 30) rfl rfl Try.func37 (by kernel_rfl) rfl #[.int .u64 t183, .int .u64 t184, .int .u64 t186] rfl sl_ ?_; (with_reducible refine (bits_Div64.calls k t183 t184 t186 t187 t188 _ A10.out).mono ?_); rintro e w' ⟨rfl, ⟨nd, rfl⟩⟩; refine ⟨_, rfl, ?_⟩) | ((with_reducible refine gate_callee (f := 38) rfl ?_); refine goesL_ (some 52) rfl rfl Try.func38 (by kernel_rfl) rfl #[.int .u64 (IntKind.u64.wrap (t187 + 1)), .bool true] rfl sl_ ?_; (with_reducible refine (fixed_signed.calls (IntKind.u64.wrap (t187 + 1)) true t209 t210 _ A36.out).mono ?_); rintro e w' ⟨rfl, ⟨nd, rfl⟩⟩; refine ⟨_, rfl, ?_⟩))
              go_ret2
              exact ⟨by first | rfl | (simp; done) | (simp [*]; done), by repeat (first | exact Drawn0.refl _ | apply Drawn0.step)⟩
        · rw [if_neg c32] at H
          have c32b0 : decide (a2 < 0) = false := decide_eq_false c32
          clear c32
          replace H := Option.bind_eq_some_iff.mp H
          obtain ⟨⟨t211, t212⟩, A370, H⟩ := H
          replace H : (some (t211, t212)) = some (r1, r2) := H
          have A37 := Aside0.mk A370
          clear A370
          simp only [Option.some.injEq, Prod.mk.injEq] at H
          obtain ⟨rfl, rfl⟩ := H
          go_enter Try.func31, Try.ntmps31
          go_wp2_with (first | ((with_reducible refine gate_callee (f := 36) rfl ?_); refine goesL_ (some 15) rfl rfl Try.func36 (by kernel_rfl) rfl #[.int .i64 a0] rfl sl_ ?_; (with_reducible refine (fixed_size.calls a0 t181 _ A4.out).mono ?_); rintro e w' ⟨rfl, ⟨nd, rfl⟩⟩; refine ⟨_, rfl, ?_⟩) | ((with_reducible refine gate_callee (f := 36) rfl ?_); refine goesL_ (some 17) rfl rfl Try.func36 (by kernel_rfl) rfl #[.int .i64 a1] rfl sl_ ?_; (with_reducible refine (fixed_size.calls a1 t182 _ A5.out).mono ?_); rintro e w' ⟨rfl, ⟨nd, rfl⟩⟩; refine ⟨_, rfl, ?_⟩) | ((with_reducible refine gate_callee (f := 35) rfl ?_); refine goesL_ (some 18) rfl rfl Try.func35 (by kernel_rfl) rfl #[.int .u64 t181, .int .u64 t182] rfl sl_ ?_; (with_reducible refine (bits_Mul64.calls t181 t182 t183 t184 _ A6.out).mono ?_); rintro e w' ⟨rfl, ⟨nd, rfl⟩⟩; refine ⟨_, rfl, ?_⟩) | ((with_reducible refine gate_callee (f := 36) rfl ?_); refine goesL_ (some 23) rfl rfl Try.func36 (by kernel_rfl) rfl #[.int .i64 a2] rfl sl_ ?_; (with_reducible refine (fixed_size.calls a2 t185 _ A7.out).mono ?_); rintro e w' ⟨rfl, ⟨nd, rfl⟩⟩; refine ⟨_, rfl, ?_⟩) | ((with_reducible refine gate_callee (f := 36) rfl ?_); refine goesL_ (some 29) rfl rfl Try.func36 (by kernel_rfl) rfl #[.int .i64 a2] rfl sl_ ?_; (with_reducible refine (fixed_size.calls a2 t186 _ A9.out).mono ?_); rintro e w' ⟨rfl, ⟨nd, rfl⟩⟩; refine ⟨_, rfl, ?_⟩) | ((with_reducible refine gate_callee (f := 37) rfl ?_); refine goesL_ (some 30) rfl rfl Try.func37 (by kernel_rfl) rfl #[.int .u64 t183, .int .u64 t184, .int .u64 t186] rfl sl_ ?_; (with_reducible refine (bits_Div64.calls k t183 t184 t186 t187 t188 _ A10.out).mono ?_); rintro e w' ⟨rfl, ⟨nd, rfl⟩⟩; refine ⟨_, rfl, ?_⟩) | ((with_reducible refine gate_callee (f := 38) rfl ?_); refine goesL_ (some 52) rfl rfl Try.func38 (by kernel_rfl) rfl #[.int .u64 t187, .bool false] rfl sl_ ?_; (with_reducible refine (fixed_signed.calls t187 false t211 t212 _ A37.out).mono ?_); rintro e w' ⟨rfl, ⟨nd, rfl⟩⟩; refine ⟨_, rfl, ?_⟩))
          go_ret2
          exact ⟨by first | rfl | (simp; done) | (simp [*]; done), by repeat (first | exact Drawn0.refl _ | apply Drawn0.step)⟩

end Go.Proofs.Ytimcdiombljajaa.PAll
