-- A text of this session, written by a program of its own (wip/tools).
import Derived.Test.YtimcdiombljajaaPAllx0
import Derived.Test.YtimcdiombljajaaPAllx15
import Derived.Test.YtimcdiombljajaaPAllx20
namespace Go.Proofs.Ytimcdiombljajaa.PAll
open Go.RowKit Go.Proofs.YtimcdiombljajaaW.PrintWords Go.Proofs.YtimcdiombljajaaW.PrintLast Go.Proofs.YtimcdiombljajaaW.PrintMore
attribute [local go_sem] max2_int min2_int max_two min_two max_three min_three max_four min_four   -- for this text's walks alone
set_option linter.unusedVariables false
set_option linter.unusedSimpArgs false

/-! ### timesyncref12_ratio: function 28 -/
def timesyncref12_ratio.j0 : Nat → Int → Int → Bool → Bool → Option (Int)
  | 0, _, _, _, _ => none
  | k + 1, x0, x5, x6, x18 => if x18 = true then (if x6 = true then ((timesyncref01_Clamp.f (-1000000000) (-1000000000) 1000000000).bind fun t161 => (some t161)) else (if x0 > 0 then ((timesyncref01_Clamp.f 1000000000 (-1000000000) 1000000000).bind fun t162 => (some t162)) else ((timesyncref01_Clamp.f (-1000000000) (-1000000000) 1000000000).bind fun t163 => (some t163)))) else (if x6 = true then ((timesyncref01_Clamp.f x5 (-1000000000) 1000000000).bind fun t164 => (some t164)) else (if x0 > 0 then ((timesyncref01_Clamp.f 1000000000 (-1000000000) 1000000000).bind fun t165 => (some t165)) else ((timesyncref01_Clamp.f x5 (-1000000000) 1000000000).bind fun t166 => (some t166))))
def timesyncref12_ratio.f (k : Nat) (a0 : Int) (a1 : Int) : Option (Int) := (timesyncref01_MulDiv.f k a0 1000000000 a1).bind fun bt159 => (if bt159.2 = true then (timesyncref12_ratio.j0 k a0 bt159.1 bt159.2 false) else (timesyncref12_ratio.j0 k a0 bt159.1 bt159.2 (decide (a0 < 0))))
theorem timesyncref12_ratio.mono_l : ∀ k, (∀ y0 y1 y2 y3, LeO (timesyncref12_ratio.j0 k y0 y1 y2 y3) (timesyncref12_ratio.j0 (k + 1) y0 y1 y2 y3))
  | 0 => fun _ _ _ _ r h => by simp [timesyncref12_ratio.j0] at h
  | k + 1 => by
    have ih0 := timesyncref12_ratio.mono_l k
    · intro y0 y1 y2 y3
      unfold timesyncref12_ratio.j0
      repeat' first
      | (with_reducible exact ih0 _ _ _ _)
      | (with_reducible exact timesyncref01_MulDiv.mono _ _ _ _)
      | (with_reducible exact LeO.refl _)
      | (with_reducible exact LeO.none _)
      | (with_reducible refine LeO.ite ?_ ?_)
      | (with_reducible refine LeO.bind ?_ (fun _ => ?_))
      | exact ih0 _ _ _ _
      | exact timesyncref01_MulDiv.mono _ _ _ _
      | exact LeO.none _
      | refine LeO.ite ?_ ?_
      | refine LeO.bind ?_ (fun _ => ?_)
theorem timesyncref12_ratio.mono : ∀ a0 a1 k, LeO (timesyncref12_ratio.f k a0 a1) (timesyncref12_ratio.f (k + 1) a0 a1) := by
  intro a0 a1 k
  have ih0 := timesyncref12_ratio.mono_l k
  unfold timesyncref12_ratio.f
  repeat' first
      | (with_reducible exact ih0 _ _ _ _)
      | (with_reducible exact timesyncref01_MulDiv.mono _ _ _ _)
      | (with_reducible exact LeO.refl _)
      | (with_reducible exact LeO.none _)
      | (with_reducible refine LeO.ite ?_ ?_)
      | (with_reducible refine LeO.bind ?_ (fun _ => ?_))
      | exact ih0 _ _ _ _
      | exact timesyncref01_MulDiv.mono _ _ _ _
      | exact LeO.none _
      | refine LeO.ite ?_ ?_
      | refine LeO.bind ?_ (fun _ => ?_)
set_option maxHeartbeats 8000000 in
set_option maxRecDepth 100000 in
theorem timesyncref12_ratio.calls (k : Nat) (a0 : Int) (a1 : Int) (r : Int) (w : World) (h : timesyncref12_ratio.f k a0 a1 = some r) :
    Calls Try.prog 28 #[.int .i64 a0, .int .i64 a1] w fun e w' => e = .returned (.int .i64 r) ∧ Drawn0 w w' := by
  have H : ((timesyncref01_MulDiv.f k a0 1000000000 a1).bind fun bt159 => (if bt159.2 = true then (timesyncref12_ratio.j0 k a0 bt159.1 bt159.2 false) else (timesyncref12_ratio.j0 k a0 bt159.1 bt159.2 (decide (a0 < 0))))) = some r := h
  clear h
  replace H := Option.bind_eq_some_iff.mp H
  obtain ⟨⟨t159, t160⟩, A30, H⟩ := H
  replace H : (if t160 = true then (timesyncref12_ratio.j0 k a0 t159 t160 false) else (timesyncref12_ratio.j0 k a0 t159 t160 (decide (a0 < 0)))) = some r := H
  have A3 := Aside0.mk A30
  clear A30
  have HC4 := Aside0.mk H
  clear H
  go_enter Try.func28, Try.ntmps28
  go_upto_region 2 with (first | ((with_reducible refine gate_callee (f := 33) rfl ?_); refine goesL_ (some 10) rfl rfl Try.func33 (by kernel_rfl) rfl #[.int .i64 a0, .int .i64 1000000000, .int .i64 a1] rfl sl_ ?_; (with_reducible refine (timesyncref01_MulDiv.calls k a0 1000000000 a1 t159 t160 _ A3.out).mono ?_); rintro e w' ⟨rfl, ⟨nd, rfl⟩⟩; refine ⟨_, rfl, ?_⟩))
  (try simp only [Act.put, z1, z2, z3])
  go_cut [18] (fun v18 wc => ∃ (kq : Nat) (x18_3 : Bool), v18 = .bool x18_3 ∧ Aside0 (timesyncref12_ratio.j0 kq a0 t159 t160 x18_3 = some r) ∧ Aside0 (kq ≤ k) ∧ Drawn0 w wc)
  case first =>
    have H := HC4.out
    clear HC4
    by_cases c5 : t160 = true
    · subst c5
      have H1 : (timesyncref12_ratio.j0 k a0 t159 true false) = some r := by rw [if_pos rfl] at H; exact H
      clear H
      have H := H1
      clear H1
      have H' := Aside0.mk H
      clear H
      go_wp2
      go_meet
      case rel => exact ⟨_, (false), (by first | rfl | (simp; done) | (simp [*]; done)), H', ⟨by first | omega | exact Nat.le_refl _⟩, by repeat (first | exact Drawn0.refl _ | apply Drawn0.step)⟩
    · replace c5 := Bool.eq_false_iff.mpr c5
      subst c5
      have H1 : (timesyncref12_ratio.j0 k a0 t159 false (decide (a0 < 0))) = some r := by rw [if_neg (show ¬ (false = true) by decide)] at H; exact H
      clear H
      have H := H1
      clear H1
      have H' := Aside0.mk H
      clear H
      go_wp2
      go_meet
      case rel => exact ⟨_, (decide (a0 < 0)), (by first | rfl | (simp; done) | (simp [*]; done)), H', ⟨by first | omega | exact Nat.le_refl _⟩, by repeat (first | exact Drawn0.refl _ | apply Drawn0.step)⟩
  case rest =>
    clear HC4
    try clear c2
    try clear p2
    try clear c3
    try clear c5
    obtain ⟨kq, x18_3, rfl, HA, HJ3, ⟨mc3, rfl⟩⟩ := hcut
    cases kq with
    | zero => exact absurd HA.out (by simp [timesyncref12_ratio.j0])
    | succ kj3 =>
      have H := HA.out
      clear HA
      simp only [timesyncref12_ratio.j0] at H
      by_cases c6 : x18_3 = true
      · subst c6
        have H1 : (if t160 = true then ((timesyncref01_Clamp.f (-1000000000) (-1000000000) 1000000000).bind fun t161 => (some t161)) else (if a0 > 0 then ((timesyncref01_Clamp.f 1000000000 (-1000000000) 1000000000).bind fun t162 => (some t162)) else ((timesyncref01_Clamp.f (-1000000000) (-1000000000) 1000000000).bind fun t163 => (some t163)))) = some r := by rw [if_pos rfl] at H; exact H
        clear H
        have H := H1
        clear H1
        by_cases c7 : t160 = true
        · subst c7
          have H1 : ((timesyncref01_Clamp.f (-1000000000) (-1000000000) 1000000000).bind fun t161 => (some t161)) = some r := by rw [if_pos rfl] at H; exact H
          clear H
          have H := H1
          clear H1
          replace H := Option.bind_eq_some_iff.mp H
          obtain ⟨t161, A80, H⟩ := H
          replace H : (some t161) = some r := H
          have A8 := Aside0.mk A80
          clear A80
          obtain rfl := Option.some.inj H
          go_wp2_with (first | ((with_reducible refine gate_callee (f := 29) rfl ?_); refine goesL_ (some 26) rfl rfl Try.func29 (by kernel_rfl) rfl #[.int .i64 (-1000000000), .int .i64 (-1000000000), .int .i64 1000000000] rfl sl_ ?_; (with_reducible refine (timesyncref01_Clamp.calls (-1000000000) (-1000000000) 1000000000 t161 _ A8.out).mono ?_); rintro e w' ⟨rfl, ⟨nd, rfl⟩⟩; refine ⟨_, rfl, ?_⟩))
          go_ret
          exact ⟨by first | rfl | (simp; done) | (simp [*]; done), by repeat (first | exact Drawn0.refl _ | apply Drawn0.step)⟩
        · replace c7 := Bool.eq_false_iff.mpr c7
          subst c7
          have H1 : (if a0 > 0 then ((timesyncref01_Clamp.f 1000000000 (-1000000000) 1000000000).bind fun t162 => (some t162)) else ((timesyncref01_Clamp.f (-1000000000) (-1000000000) 1000000000).bind fun t163 => (some t163))) = some r := by rw [if_neg (show ¬ (false = true) by decide)] at H; exact H
          clear H
          have H := H1
          clear H1
          by_cases c9 : a0 > 0
          · rw [if_pos c9] at H
            have c9b0 : decide (0 < a0) = true := decide_eq_true c9
            clear c9
            replace H := Option.bind_eq_some_iff.mp H
            obtain ⟨t162, A100, H⟩ := H
            replace H : (some t162) = some r := H
            have A10 := Aside0.mk A100
            clear A100
            obtain rfl := Option.some.inj H
            go_wp2_with (first | ((with_reducible refine gate_callee (f := 29) rfl ?_); refine goesL_ (some 26) rfl rfl Try.func29 (by kernel_rfl) rfl #[.int .i64 1000000000, .int .i64 (-1000000000), .int .i64 1000000000] rfl sl_ ?_; (with_reducible refine (timesyncref01_Clamp.calls 1000000000 (-1000000000) 1000000000 t162 _ A10.out).mono ?_); rintro e w' ⟨rfl, ⟨nd, rfl⟩⟩; refine ⟨_, rfl, ?_⟩))
            go_ret
            exact ⟨by first | rfl | (simp; done) | (simp [*]; done), by repeat (first | exact Drawn0.refl _ | apply Drawn0.step)⟩
          · rw [if_neg c9] at H
            have c9b0 : decide (0 < a0) = false := decide_eq_false c9
            clear c9
            replace H := Option.bind_eq_some_iff.mp H
            obtain ⟨t163, A110, H⟩ := H
            replace H : (some t163) = some r := H
            have A11 := Aside0.mk A110
            clear A110
            obtain rfl := Option.some.inj H
            go_wp2_with (first | ((with_reducible refine gate_callee (f := 29) rfl ?_); refine goesL_ (some 26) rfl rfl Try.func29 (by kernel_rfl) rfl #[.int .i64 (-1000000000), .int .i64 (-1000000000), .int .i64 1000000000] rfl sl_ ?_; (with_reducible refine (timesyncref01_Clamp.calls (-1000000000) (-1000000000) 1000000000 t163 _ A11.out).mono ?_); rintro e w' ⟨rfl, ⟨nd, rfl⟩⟩; refine ⟨_, rfl, ?_⟩))
            go_ret
            exact ⟨by first | rfl | (simp; done) | (simp [*]; done), by repeat (first | exact Drawn0.refl _ | apply Drawn0.step)⟩
      · replace c6 := Bool.eq_false_iff.mpr c6
        subst c6
        have H1 : (if t160 = true then ((timesyncref01_Clamp.f t159 (-1000000000) 1000000000).bind fun t164 => (some t164)) else (if a0 > 0 then ((timesyncref01_Clamp.f 1000000000 (-1000000000) 1000000000).bind fun t165 => (some t165)) else ((timesyncref01_Clamp.f t159 (-1000000000) 1000000000).bind fun t166 => (some t166)))) = some r := by rw [if_neg (show ¬ (false = true) by decide)] at H; exact H
        clear H
        have H := H1
        clear H1
        by_cases c12 : t160 = true
        · subst c12
          have H1 : ((timesyncref01_Clamp.f t159 (-1000000000) 1000000000).bind fun t164 => (some t164)) = some r := by rw [if_pos rfl] at H; exact H
          clear H
          have H := H1
          clear H1
          replace H := Option.bind_eq_some_iff.mp H
          obtain ⟨t164, A130, H⟩ := H
          replace H : (some t164) = some r := H
          have A13 := Aside0.mk A130
          clear A130
          obtain rfl := Option.some.inj H
          go_wp2_with (first | ((with_reducible refine gate_callee (f := 29) rfl ?_); refine goesL_ (some 26) rfl rfl Try.func29 (by kernel_rfl) rfl #[.int .i64 t159, .int .i64 (-1000000000), .int .i64 1000000000] rfl sl_ ?_; (with_reducible refine (timesyncref01_Clamp.calls t159 (-1000000000) 1000000000 t164 _ A13.out).mono ?_); rintro e w' ⟨rfl, ⟨nd, rfl⟩⟩; refine ⟨_, rfl, ?_⟩))
          go_ret
          exact ⟨by first | rfl | (simp; done) | (simp [*]; done), by repeat (first | exact Drawn0.refl _ | apply Drawn0.step)⟩
        · replace c12 := Bool.eq_false_iff.mpr c12
          subst c12
          have H1 : (if a0 > 0 then ((timesyncref01_Clamp.f 1000000000 (-1000000000) 1000000000).bind fun t165 => (some t165)) else ((timesyncref01_Clamp.f t159 (-1000000000) 1000000000).bind fun t166 => (some t166))) = some r := by rw [if_neg (show ¬ (false = true) by decide)] at H; exact H
          clear H
          have H := H1
          clear H1
          by_cases c14 : a0 > 0
          · rw [if_pos c14] at H
            have c14b0 : decide (0 < a0) = true := decide_eq_true c14
            clear c14
            replace H := Option.bind_eq_some_iff.mp H
            obtain ⟨t165, A150, H⟩ := H
            replace H : (some t165) = some r := H
            have A15 := Aside0.mk A150
            clear A150
            obtain rfl := Option.some.inj H
            go_wp2_with (first | ((with_reducible refine gate_callee (f := 29) rfl ?_); refine goesL_ (some 26) rfl rfl Try.func29 (by kernel_rfl) rfl #[.int .i64 1000000000, .int .i64 (-1000000000), .int .i64 1000000000] rfl sl_ ?_; (with_reducible refine (timesyncref01_Clamp.calls 1000000000 (-1000000000) 1000000000 t165 _ A15.out).mono ?_); rintro e w' ⟨rfl, ⟨nd, rfl⟩⟩; refine ⟨_, rfl, ?_⟩))
            go_ret
            exact ⟨by first | rfl | (simp; done) | (simp [*]; done), by repeat (first | exact Drawn0.refl _ | apply Drawn0.step)⟩
          · rw [if_neg c14] at H
            have c14b0 : decide (0 < a0) = false := decide_eq_false c14
            clear c14
            replace H := Option.bind_eq_some_iff.mp H
            obtain ⟨t166, A160, H⟩ := H
            replace H : (some t166) = some r := H
            have A16 := Aside0.mk A160
            clear A160
            obtain rfl := Option.some.inj H
            go_wp2_with (first | ((with_reducible refine gate_callee (f := 29) rfl ?_); refine goesL_ (some 26) rfl rfl Try.func29 (by kernel_rfl) rfl #[.int .i64 t159, .int .i64 (-1000000000), .int .i64 1000000000] rfl sl_ ?_; (with_reducible refine (timesyncref01_Clamp.calls t159 (-1000000000) 1000000000 t166 _ A16.out).mono ?_); rintro e w' ⟨rfl, ⟨nd, rfl⟩⟩; refine ⟨_, rfl, ?_⟩))
            go_ret
            exact ⟨by first | rfl | (simp; done) | (simp [*]; done), by repeat (first | exact Drawn0.refl _ | apply Drawn0.step)⟩

end Go.Proofs.Ytimcdiombljajaa.PAll
