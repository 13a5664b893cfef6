-- A text of this session, written by a program of its own (wip/tools).
import Derived.Test.YtbcmfmlbagjdoaaPAllx0
import Derived.Test.YtbcmfmlbagjdoaaPAllx41
namespace Go.Proofs.Ytbcmfmlbagjdoaa.PAll
open Go.RowKit Go.Proofs.YtbcmfmlbagjdoaaW.PrintWords Go.Proofs.YtbcmfmlbagjdoaaW.PrintLast Go.Proofs.YtbcmfmlbagjdoaaW.PrintMore
attribute [local go_sem] max2_int min2_int max_two min_two max_three min_three max_four min_four   -- for this text's walks alone
set_option linter.unusedVariables false
set_option linter.unusedSimpArgs false

/-! ### timesyncref25_System: function 11 -/
def timesyncref25_System.f (k : Nat) (l0 : List (S34)) : Option (Int × Bool) := (timesyncref25_Order.f k l0).bind fun t209 => (if (t209.length : Int) = 0 then (some (0, false)) else (if 0 < (t209.length : Int) then (some ((rd_T34 t209 0).f0, true)) else (none)))
theorem timesyncref25_System.mono : ∀ a0 k, LeO (timesyncref25_System.f k a0) (timesyncref25_System.f (k + 1) a0) := by
  intro a0 k
  unfold timesyncref25_System.f
  repeat' first
      | (with_reducible exact timesyncref25_Order.mono _ _)
      | (with_reducible exact LeO.refl _)
      | (with_reducible exact LeO.none _)
      | (with_reducible refine LeO.ite ?_ ?_)
      | (with_reducible refine LeO.bind ?_ (fun _ => ?_))
      | exact timesyncref25_Order.mono _ _
      | exact LeO.none _
      | refine LeO.ite ?_ ?_
      | refine LeO.bind ?_ (fun _ => ?_)
set_option maxHeartbeats 8000000 in
set_option maxRecDepth 100000 in
theorem timesyncref25_System.calls (k : Nat) (A0 : Option Addr) (c0 : Nat) (l0 : List (S34)) (r1 : Int) (r2 : Bool) (w : World) (hr0 : Kd.C k34 w A0 l0.length l0) (hc0 : l0.length ≤ c0) (h : timesyncref25_System.f k l0 = some (r1, r2)) :
    Calls Try.prog 11 #[.slice A0 l0.length c0] w fun e w' => e = .returned (.tuple #[.int .i64 r1, .bool r2]) ∧ Below w.heap.size w w' := by
  have HR0 := Aside0.mk hr0
  have HC0 := Aside0.mk hc0
  clear hr0 hc0
  have HB := Aside0.mk (Below.refl w.heap.size w)
  have H : ((timesyncref25_Order.f k l0).bind fun t209 => (if (t209.length : Int) = 0 then (some (0, false)) else (if 0 < (t209.length : Int) then (some ((rd_T34 t209 0).f0, true)) else (none)))) = some (r1, r2) := h
  clear h
  replace H := Option.bind_eq_some_iff.mp H
  obtain ⟨t209, A20, H⟩ := H
  replace H : (if (t209.length : Int) = 0 then (some (0, false)) else (if 0 < (t209.length : Int) then (some ((rd_T34 t209 0).f0, true)) else (none))) = some (r1, r2) := H
  have A2 := Aside0.mk A20
  clear A20
  by_cases c3 : (t209.length : Int) = 0
  · rw [if_pos c3] at H
    have c3b0 : ((t209.length : Int) == 0) = true := beq_iff_eq.mpr c3
    have c3b1 : ((t209.length : Int) != 0) = false := bne_eq_false_iff_eq.mpr c3
    clear c3
    simp only [Option.some.injEq, Prod.mk.injEq] at H
    obtain ⟨rfl, rfl⟩ := H
    go_enter Try.func11, Try.ntmps11
    go_wp2_with (first | ((with_reducible refine gate_callee (f := 14) rfl ?_); refine goesL_ (some 6) rfl rfl Try.func14 (by kernel_rfl) rfl #[.slice A0 l0.length c0] rfl sl_ ?_; (with_reducible refine (timesyncref25_Order.calls k (fun k_ => k_ < w.heap.size) _ _ l0 t209 _ ?side1 A2.out).mono ?_); (case side1 => exact Kd.V_mk HC0.out (Kd.F_below (Kd.C_F k34_heap HR0.out) hb_)); rintro e w4 ⟨v210, rfl, ho0, hb⟩; refine ⟨_, rfl, ?_⟩; have n0_ := Aside0.mk (Kd.R_lower (Kd.R_mono (ok' := fun k_ => True) ho0 (fun _ hk_ => trivial)) (below_size hb_)); have n1_ := Aside0.mk (below_step hb_ hb); clear HB; have HO211 := n0_; have HB := n1_; clear n0_ n1_; (try clear hb); (try clear hb2); (try clear hk); (try clear hi); (try clear ho0); obtain ⟨Ao5, co5, eo5⟩ := Kd.R_slice HO211.out; subst eo5))
    go_ret2
    exact ⟨by first | rfl | (simp [errW_none, errW_some] <;> rfl) | (simp [*, errW_none, errW_some] <;> rfl), hb_⟩
  · rw [if_neg c3] at H
    have c3b0 : ((t209.length : Int) == 0) = false := beq_eq_false_iff_ne.mpr c3
    have c3b1 : ((t209.length : Int) != 0) = true := bne_iff_ne.mpr c3
    have c3b2 : ¬ (t209 = []) := fun h_ => c3 (by rw [h_]; rfl)
    by_cases c6 : 0 < (t209.length : Int)
    · rw [if_pos c6] at H
      have c6b0 : decide (0 < (t209.length : Int)) = true := decide_eq_true c6
      have c6b1 : decide (0 < t209.length) = true := decide_eq_true (by omega)
      clear c6
      simp only [Option.some.injEq, Prod.mk.injEq] at H
      obtain ⟨rfl, rfl⟩ := H
      go_enter Try.func11, Try.ntmps11
      go_wp2_with (first | ((with_reducible refine gate_callee (f := 14) rfl ?_); refine goesL_ (some 6) rfl rfl Try.func14 (by kernel_rfl) rfl #[.slice A0 l0.length c0] rfl sl_ ?_; (with_reducible refine (timesyncref25_Order.calls k (fun k_ => k_ < w.heap.size) _ _ l0 t209 _ ?side1 A2.out).mono ?_); (case side1 => exact Kd.V_mk HC0.out (Kd.F_below (Kd.C_F k34_heap HR0.out) hb_)); rintro e w7 ⟨v210, rfl, ho0, hb⟩; refine ⟨_, rfl, ?_⟩; have n0_ := Aside0.mk (Kd.R_lower (Kd.R_mono (ok' := fun k_ => True) ho0 (fun _ hk_ => trivial)) (below_size hb_)); have n1_ := Aside0.mk (below_step hb_ hb); clear HB; have HO211 := n0_; have HB := n1_; clear n0_ n1_; (try clear hb); (try clear hb2); (try clear hk); (try clear hi); (try clear ho0); obtain ⟨Ao8, co8, eo8⟩ := Kd.R_slice HO211.out; subst eo8; have p212 : 0 ≤ (0 : Int) := (by omega); have q212 : 0 < (t209.length : Int) := of_decide_eq_true (by first | (with_reducible assumption) | assumption); obtain ⟨ad212, e212, hx212_0, hx212_1, hx212_2, hx212_3, hx212_4⟩ := at_T34 (Kd.R_reads' HO211.out).2.2 0 p212 q212; cases e212; have qi212 : (0 < t209.length) = True := eq_true (by omega); (try rw [show ((0 : Int)).toNat = 0 from rfl] at hx212_0); (try rw [show 0 * 5 = 0 from rfl] at hx212_0); (try rw [Addr.add_zero'] at hx212_0); (try rw [show ((0 : Int)).toNat = 0 from rfl] at hx212_1); (try rw [show 0 * 5 = 0 from rfl] at hx212_1); (try rw [Addr.add_zero'] at hx212_1); (try rw [show ((0 : Int)).toNat = 0 from rfl] at hx212_2); (try rw [show 0 * 5 = 0 from rfl] at hx212_2); (try rw [Addr.add_zero'] at hx212_2); (try rw [show ((0 : Int)).toNat = 0 from rfl] at hx212_3); (try rw [show 0 * 5 = 0 from rfl] at hx212_3); (try rw [Addr.add_zero'] at hx212_3); (try rw [show ((0 : Int)).toNat = 0 from rfl] at hx212_4); (try rw [show 0 * 5 = 0 from rfl] at hx212_4); (try rw [Addr.add_zero'] at hx212_4); replace p212 := eq_true p212; replace q212 := eq_true q212))
      go_ret2
      exact ⟨by first | rfl | (simp [errW_none, errW_some] <;> rfl) | (simp [*, errW_none, errW_some] <;> rfl), hb_⟩
    · rw [if_neg c6] at H
      exact absurd H (by simp)

end Go.Proofs.Ytbcmfmlbagjdoaa.PAll
