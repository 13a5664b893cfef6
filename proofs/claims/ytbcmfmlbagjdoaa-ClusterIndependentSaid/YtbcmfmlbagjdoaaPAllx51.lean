-- A text of this session, written by a program of its own (wip/tools).
import Derived.Test.YtbcmfmlbagjdoaaPAllx0
import Derived.Test.YtbcmfmlbagjdoaaPAllx2
import Derived.Test.YtbcmfmlbagjdoaaPAllx3
import Derived.Test.YtbcmfmlbagjdoaaPAllx25
import Derived.Test.YtbcmfmlbagjdoaaPAllx34
import Derived.Test.YtbcmfmlbagjdoaaPAllx35
import Derived.Test.YtbcmfmlbagjdoaaPAllx43
import Derived.Test.YtbcmfmlbagjdoaaWRepsOne
namespace Go.Proofs.Ytbcmfmlbagjdoaa.PAll
open Go.RowKit Go.Proofs.YtbcmfmlbagjdoaaW.PrintWords Go.Proofs.YtbcmfmlbagjdoaaW.PrintLast Go.Proofs.YtbcmfmlbagjdoaaW.PrintMore
attribute [local go_sem] max2_int min2_int max_two min_two max_three min_three max_four min_four   -- for this text's walks alone
set_option linter.unusedVariables false
set_option linter.unusedSimpArgs false

/-! ### timesynclaw25_ClusterIndependent: function 6 -/
mutual
def timesynclaw25_ClusterIndependent.j0 : Nat → List (S34) → Int → Int → Bool → Option (Bool)
  | 0, _, _, _, _ => none
  | k + 1, x0, x1, x2, x30 => if x30 = true then ((timesynclaw25_awake.f k).bind fun t273 => (some t273)) else (timesynclaw25_ClusterIndependent.l0 k x0 x1 x2 ([] : List (S34)) 0)
def timesynclaw25_ClusterIndependent.l0 : Nat → List (S34) → Int → Int → List (S34) → Int → Option (Bool)
  | 0, _, _, _, _, _ => none
  | k + 1, x0, x1, x2, x7, x8 => if x8 < (x0.length : Int) then (if (x0.length : Int) = 0 then (none) else (if 0 ≤ (Int.tmod (wrap64 (x8 + x1)) (x0.length : Int)) then (if (Int.tmod (wrap64 (x8 + x1)) (x0.length : Int)) < (x0.length : Int) then ((some (([(⟨(rd_T34 x0 (Int.tmod (wrap64 (x8 + x1)) (x0.length : Int))).f0, (rd_T34 x0 (Int.tmod (wrap64 (x8 + x1)) (x0.length : Int))).f1, (rd_T34 x0 (Int.tmod (wrap64 (x8 + x1)) (x0.length : Int))).f2, (rd_T34 x0 (Int.tmod (wrap64 (x8 + x1)) (x0.length : Int))).f3, (rd_T34 x0 (Int.tmod (wrap64 (x8 + x1)) (x0.length : Int))).f4⟩ : S34)] : List (S34)) : List (S34))).bind fun y275 => (if y275.length + x7.length < 3518437208883 then (timesynclaw25_ClusterIndependent.l0 k x0 x1 x2 (y275 ++ x7) (wrap64 (x8 + 1))) else (none))) else (none)) else (none))) else ((choose_Check.f k x0).bind fun t281 => (if t281 = 0 then ((choose_Check.f k x7).bind fun t282 => (timesynclaw25_ClusterIndependent.j2 k x0 x2 x7 (t282 != 0))) else (timesynclaw25_ClusterIndependent.j2 k x0 x2 x7 true)))
def timesynclaw25_ClusterIndependent.j2 : Nat → List (S34) → Int → List (S34) → Bool → Option (Bool)
  | 0, _, _, _, _ => none
  | k + 1, x0, x2, x7, x57 => if x57 = true then ((timesynclaw25_awake.f k).bind fun t283 => (some t283)) else ((cluster_Prune.f k x0 x2).bind fun bt284 => ((cluster_Prune.f k x7 x2).bind fun bt288 => ((timesynclaw25_same.f k bt284.1 bt288.1).bind fun t292 => (if t292 = true then (if bt284.2 = bt288.2 then ((cluster_Order.f k x0).bind fun t293 => ((cluster_Order.f k x7).bind fun t296 => ((timesynclaw25_same.f k t293 t296).bind fun t299 => (timesynclaw25_ClusterIndependent.j3 k x2 bt284.1 bt284.2 (!t299))))) else (timesynclaw25_ClusterIndependent.j3 k x2 bt284.1 bt284.2 true)) else (timesynclaw25_ClusterIndependent.j3 k x2 bt284.1 bt284.2 true)))))
def timesynclaw25_ClusterIndependent.j3 : Nat → Int → List (S34) → Int → Bool → Option (Bool)
  | 0, _, _, _, _ => none
  | k + 1, x2, x9, x10, x87 => if x87 = true then (some false) else (if x10 = 0 then ((cluster_Prune.f k x9 x2).bind fun bt300 => ((timesynclaw25_same.f k x9 bt300.1).bind fun t304 => (if t304 = true then (if bt300.2 = 0 then ((timesynclaw25_awake.f k).bind fun t305 => (some t305)) else (some false)) else (some false)))) else (if x10 = 3 then (if x2 < 1 then ((timesynclaw25_awake.f k).bind fun t306 => (some t306)) else (some false)) else (some false)))
end
def timesynclaw25_ClusterIndependent.f (k : Nat) (l0 : List (S34)) (a1 : Int) (a2 : Int) : Option (Bool) := (timesynclaw25_few.f l0).bind fun t272 => (if t272 = true then (if (l0.length : Int) = 0 then (timesynclaw25_ClusterIndependent.j0 k l0 a1 a2 true) else (if a1 < 0 then (timesynclaw25_ClusterIndependent.j0 k l0 a1 a2 true) else (timesynclaw25_ClusterIndependent.j0 k l0 a1 a2 (decide (a1 > 100))))) else (timesynclaw25_ClusterIndependent.j0 k l0 a1 a2 true))
theorem timesynclaw25_ClusterIndependent.mono_l : ∀ k, (∀ y0 y1 y2 y3, LeO (timesynclaw25_ClusterIndependent.j0 k y0 y1 y2 y3) (timesynclaw25_ClusterIndependent.j0 (k + 1) y0 y1 y2 y3)) ∧ (∀ y0 y1 y2 y3 y4, LeO (timesynclaw25_ClusterIndependent.l0 k y0 y1 y2 y3 y4) (timesynclaw25_ClusterIndependent.l0 (k + 1) y0 y1 y2 y3 y4)) ∧ (∀ y0 y1 y2 y3, LeO (timesynclaw25_ClusterIndependent.j2 k y0 y1 y2 y3) (timesynclaw25_ClusterIndependent.j2 (k + 1) y0 y1 y2 y3)) ∧ (∀ y0 y1 y2 y3, LeO (timesynclaw25_ClusterIndependent.j3 k y0 y1 y2 y3) (timesynclaw25_ClusterIndependent.j3 (k + 1) y0 y1 y2 y3))
  | 0 => ⟨fun _ _ _ _ r h => by simp [timesynclaw25_ClusterIndependent.j0] at h, fun _ _ _ _ _ r h => by simp [timesynclaw25_ClusterIndependent.l0] at h, fun _ _ _ _ r h => by simp [timesynclaw25_ClusterIndependent.j2] at h, fun _ _ _ _ r h => by simp [timesynclaw25_ClusterIndependent.j3] at h⟩
  | k + 1 => by
    obtain ⟨ih0, ih1, ih2, ih3⟩ := timesynclaw25_ClusterIndependent.mono_l k
    refine ⟨?_, ?_, ?_, ?_⟩
    · intro y0 y1 y2 y3
      unfold timesynclaw25_ClusterIndependent.j0
      repeat' first
      | (with_reducible exact ih0 _ _ _ _)
      | (with_reducible exact ih1 _ _ _ _ _)
      | (with_reducible exact ih2 _ _ _ _)
      | (with_reducible exact ih3 _ _ _ _)
      | (with_reducible exact choose_Check.mono _ _)
      | (with_reducible exact cluster_Order.mono _ _)
      | (with_reducible exact cluster_Prune.mono _ _ _)
      | (with_reducible exact timesynclaw25_awake.mono _)
      | (with_reducible exact timesynclaw25_same.mono _ _ _)
      | (with_reducible exact LeO.refl _)
      | (with_reducible exact LeO.none _)
      | (with_reducible refine LeO.ite ?_ ?_)
      | (with_reducible refine LeO.bind ?_ (fun _ => ?_))
      | exact ih0 _ _ _ _
      | exact ih1 _ _ _ _ _
      | exact ih2 _ _ _ _
      | exact ih3 _ _ _ _
      | exact choose_Check.mono _ _
      | exact cluster_Order.mono _ _
      | exact cluster_Prune.mono _ _ _
      | exact timesynclaw25_awake.mono _
      | exact timesynclaw25_same.mono _ _ _
      | exact LeO.none _
      | refine LeO.ite ?_ ?_
      | refine LeO.bind ?_ (fun _ => ?_)
    · intro y0 y1 y2 y3 y4
      unfold timesynclaw25_ClusterIndependent.l0
      repeat' first
      | (with_reducible exact ih0 _ _ _ _)
      | (with_reducible exact ih1 _ _ _ _ _)
      | (with_reducible exact ih2 _ _ _ _)
      | (with_reducible exact ih3 _ _ _ _)
      | (with_reducible exact choose_Check.mono _ _)
      | (with_reducible exact cluster_Order.mono _ _)
      | (with_reducible exact cluster_Prune.mono _ _ _)
      | (with_reducible exact timesynclaw25_awake.mono _)
      | (with_reducible exact timesynclaw25_same.mono _ _ _)
      | (with_reducible exact LeO.refl _)
      | (with_reducible exact LeO.none _)
      | (with_reducible refine LeO.ite ?_ ?_)
      | (with_reducible refine LeO.bind ?_ (fun _ => ?_))
      | exact ih0 _ _ _ _
      | exact ih1 _ _ _ _ _
      | exact ih2 _ _ _ _
      | exact ih3 _ _ _ _
      | exact choose_Check.mono _ _
      | exact cluster_Order.mono _ _
      | exact cluster_Prune.mono _ _ _
      | exact timesynclaw25_awake.mono _
      | exact timesynclaw25_same.mono _ _ _
      | exact LeO.none _
      | refine LeO.ite ?_ ?_
      | refine LeO.bind ?_ (fun _ => ?_)
    · intro y0 y1 y2 y3
      unfold timesynclaw25_ClusterIndependent.j2
      repeat' first
      | (with_reducible exact ih0 _ _ _ _)
      | (with_reducible exact ih1 _ _ _ _ _)
      | (with_reducible exact ih2 _ _ _ _)
      | (with_reducible exact ih3 _ _ _ _)
      | (with_reducible exact choose_Check.mono _ _)
      | (with_reducible exact cluster_Order.mono _ _)
      | (with_reducible exact cluster_Prune.mono _ _ _)
      | (with_reducible exact timesynclaw25_awake.mono _)
      | (with_reducible exact timesynclaw25_same.mono _ _ _)
      | (with_reducible exact LeO.refl _)
      | (with_reducible exact LeO.none _)
      | (with_reducible refine LeO.ite ?_ ?_)
      | (with_reducible refine LeO.bind ?_ (fun _ => ?_))
      | exact ih0 _ _ _ _
      | exact ih1 _ _ _ _ _
      | exact ih2 _ _ _ _
      | exact ih3 _ _ _ _
      | exact choose_Check.mono _ _
      | exact cluster_Order.mono _ _
      | exact cluster_Prune.mono _ _ _
      | exact timesynclaw25_awake.mono _
      | exact timesynclaw25_same.mono _ _ _
      | exact LeO.none _
      | refine LeO.ite ?_ ?_
      | refine LeO.bind ?_ (fun _ => ?_)
    · intro y0 y1 y2 y3
      unfold timesynclaw25_ClusterIndependent.j3
      repeat' first
      | (with_reducible exact ih0 _ _ _ _)
      | (with_reducible exact ih1 _ _ _ _ _)
      | (with_reducible exact ih2 _ _ _ _)
      | (with_reducible exact ih3 _ _ _ _)
      | (with_reducible exact choose_Check.mono _ _)
      | (with_reducible exact cluster_Order.mono _ _)
      | (with_reducible exact cluster_Prune.mono _ _ _)
      | (with_reducible exact timesynclaw25_awake.mono _)
      | (with_reducible exact timesynclaw25_same.mono _ _ _)
      | (with_reducible exact LeO.refl _)
      | (with_reducible exact LeO.none _)
      | (with_reducible refine LeO.ite ?_ ?_)
      | (with_reducible refine LeO.bind ?_ (fun _ => ?_))
      | exact ih0 _ _ _ _
      | exact ih1 _ _ _ _ _
      | exact ih2 _ _ _ _
      | exact ih3 _ _ _ _
      | exact choose_Check.mono _ _
      | exact cluster_Order.mono _ _
      | exact cluster_Prune.mono _ _ _
      | exact timesynclaw25_awake.mono _
      | exact timesynclaw25_same.mono _ _ _
      | exact LeO.none _
      | refine LeO.ite ?_ ?_
      | refine LeO.bind ?_ (fun _ => ?_)
theorem timesynclaw25_ClusterIndependent.mono : ∀ a0 a1 a2 k, LeO (timesynclaw25_ClusterIndependent.f k a0 a1 a2) (timesynclaw25_ClusterIndependent.f (k + 1) a0 a1 a2) := by
  intro a0 a1 a2 k
  obtain ⟨ih0, ih1, ih2, ih3⟩ := timesynclaw25_ClusterIndependent.mono_l k
  unfold timesynclaw25_ClusterIndependent.f
  repeat' first
      | (with_reducible exact ih0 _ _ _ _)
      | (with_reducible exact ih1 _ _ _ _ _)
      | (with_reducible exact ih2 _ _ _ _)
      | (with_reducible exact ih3 _ _ _ _)
      | (with_reducible exact choose_Check.mono _ _)
      | (with_reducible exact cluster_Order.mono _ _)
      | (with_reducible exact cluster_Prune.mono _ _ _)
      | (with_reducible exact timesynclaw25_awake.mono _)
      | (with_reducible exact timesynclaw25_same.mono _ _ _)
      | (with_reducible exact LeO.refl _)
      | (with_reducible exact LeO.none _)
      | (with_reducible refine LeO.ite ?_ ?_)
      | (with_reducible refine LeO.bind ?_ (fun _ => ?_))
      | exact ih0 _ _ _ _
      | exact ih1 _ _ _ _ _
      | exact ih2 _ _ _ _
      | exact ih3 _ _ _ _
      | exact choose_Check.mono _ _
      | exact cluster_Order.mono _ _
      | exact cluster_Prune.mono _ _ _
      | exact timesynclaw25_awake.mono _
      | exact timesynclaw25_same.mono _ _ _
      | exact LeO.none _
      | refine LeO.ite ?_ ?_
      | refine LeO.bind ?_ (fun _ => ?_)
set_option maxHeartbeats 8000000 in
set_option maxRecDepth 100000 in
theorem timesynclaw25_ClusterIndependent.calls (k : Nat) (A0 : Option Addr) (c0 : Nat) (l0 : List (S34)) (a1 : Int) (a2 : Int) (r : Bool) (w : World) (hr0 : Kd.C k34 w A0 l0.length l0) (hc0 : l0.length ≤ c0) (h : timesynclaw25_ClusterIndependent.f k l0 a1 a2 = some r) :
    Calls Try.prog 6 #[.slice A0 l0.length c0, .int .i64 a1, .int .i64 a2] w fun e w' => e = .returned (.bool r) ∧ Below w.heap.size w w' := by
  have hu34 := Try.underlying34
  have HR0 := Aside0.mk hr0
  have HC0 := Aside0.mk hc0
  clear hr0 hc0
  have HB := Aside0.mk (Below.refl w.heap.size w)
  have H : ((timesynclaw25_few.f l0).bind fun t272 => (if t272 = true then (if (l0.length : Int) = 0 then (timesynclaw25_ClusterIndependent.j0 k l0 a1 a2 true) else (if a1 < 0 then (timesynclaw25_ClusterIndependent.j0 k l0 a1 a2 true) else (timesynclaw25_ClusterIndependent.j0 k l0 a1 a2 (decide (a1 > 100))))) else (timesynclaw25_ClusterIndependent.j0 k l0 a1 a2 true))) = some r := h
  clear h
  have HC4 := Aside0.mk H
  clear H
  go_enter Try.func6, Try.ntmps6
  go_upto_region 1 with (fail)
  go_cut [30] (fun v30 wc => ∃ (kq : Nat) (x30_3 : Bool), v30 = .bool x30_3 ∧ Aside0 (timesynclaw25_ClusterIndependent.j0 kq l0 a1 a2 x30_3 = some r) ∧ Aside0 (kq ≤ k) ∧ Aside0 (Below w.heap.size w wc))
  case first =>
    have H := HC4.out
    clear HC4
    replace H := Option.bind_eq_some_iff.mp H
    obtain ⟨t272, A50, H⟩ := H
    replace H : (if t272 = true then (if (l0.length : Int) = 0 then (timesynclaw25_ClusterIndependent.j0 k l0 a1 a2 true) else (if a1 < 0 then (timesynclaw25_ClusterIndependent.j0 k l0 a1 a2 true) else (timesynclaw25_ClusterIndependent.j0 k l0 a1 a2 (decide (a1 > 100))))) else (timesynclaw25_ClusterIndependent.j0 k l0 a1 a2 true)) = some r := H
    have A5 := Aside0.mk A50
    clear A50
    by_cases c6 : t272 = true
    · subst c6
      have H1 : (if (l0.length : Int) = 0 then (timesynclaw25_ClusterIndependent.j0 k l0 a1 a2 true) else (if a1 < 0 then (timesynclaw25_ClusterIndependent.j0 k l0 a1 a2 true) else (timesynclaw25_ClusterIndependent.j0 k l0 a1 a2 (decide (a1 > 100))))) = some r := by rw [if_pos rfl] at H; exact H
      clear H
      have H := H1
      clear H1
      by_cases c7 : (l0.length : Int) = 0
      · rw [if_pos c7] at H
        have c7b0 : ((l0.length : Int) == 0) = true := beq_iff_eq.mpr c7
        have c7b1 : ((l0.length : Int) != 0) = false := bne_eq_false_iff_eq.mpr c7
        clear c7
        (first | rw [c7b0] | (simp only [i64_w, i32_w]; rw [c7b0]) | skip)
        have H' := Aside0.mk H
        clear H
        go_wp2_with (first | ((with_reducible refine gate_callee (f := 8) rfl ?_); refine goesL_ (some 16) rfl rfl Try.func8 (by kernel_rfl) rfl #[.slice A0 l0.length c0] rfl sl_ ?_; (with_reducible refine (timesynclaw25_few.calls _ _ l0 true _ ?side1 ?side2 A5.out).mono ?_); (case side1 => repeat (first | exact (Kd.C_below HR0.out HB.out) | (with_reducible refine Kd.C_alloc ?_ _) | (with_reducible refine Kd.C_drewN ?_ _) | (with_reducible refine Kd.C_drew ?_))); (case side2 => exact HC0.out); rintro e w' ⟨rfl, ⟨nd, rfl⟩⟩; refine ⟨_, rfl, ?_⟩))
        go_meet
        case rel => exact ⟨_, (true), (by first | rfl | (simp; done) | (simp [*]; done)), H', ⟨by first | omega | exact Nat.le_refl _⟩, ⟨hb_⟩⟩
      · rw [if_neg c7] at H
        have c7b0 : ((l0.length : Int) == 0) = false := beq_eq_false_iff_ne.mpr c7
        have c7b1 : ((l0.length : Int) != 0) = true := bne_iff_ne.mpr c7
        have c7b2 : ¬ (l0 = []) := fun h_ => c7 (by rw [h_]; rfl)
        (first | rw [c7b0] | (simp only [i64_w, i32_w]; rw [c7b0]) | skip)
        by_cases c8 : a1 < 0
        · rw [if_pos c8] at H
          have c8b0 : decide (a1 < 0) = true := decide_eq_true c8
          clear c8
          have H' := Aside0.mk H
          clear H
          go_wp2_with (first | ((with_reducible refine gate_callee (f := 8) rfl ?_); refine goesL_ (some 16) rfl rfl Try.func8 (by kernel_rfl) rfl #[.slice A0 l0.length c0] rfl sl_ ?_; (with_reducible refine (timesynclaw25_few.calls _ _ l0 true _ ?side1 ?side2 A5.out).mono ?_); (case side1 => repeat (first | exact (Kd.C_below HR0.out HB.out) | (with_reducible refine Kd.C_alloc ?_ _) | (with_reducible refine Kd.C_drewN ?_ _) | (with_reducible refine Kd.C_drew ?_))); (case side2 => exact HC0.out); rintro e w' ⟨rfl, ⟨nd, rfl⟩⟩; refine ⟨_, rfl, ?_⟩))
          go_meet
          case rel => exact ⟨_, (true), (by first | rfl | (simp; done) | (simp [*]; done)), H', ⟨by first | omega | exact Nat.le_refl _⟩, ⟨hb_⟩⟩
        · rw [if_neg c8] at H
          have c8b0 : decide (a1 < 0) = false := decide_eq_false c8
          clear c8
          have H' := Aside0.mk H
          clear H
          go_wp2_with (first | ((with_reducible refine gate_callee (f := 8) rfl ?_); refine goesL_ (some 16) rfl rfl Try.func8 (by kernel_rfl) rfl #[.slice A0 l0.length c0] rfl sl_ ?_; (with_reducible refine (timesynclaw25_few.calls _ _ l0 true _ ?side1 ?side2 A5.out).mono ?_); (case side1 => repeat (first | exact (Kd.C_below HR0.out HB.out) | (with_reducible refine Kd.C_alloc ?_ _) | (with_reducible refine Kd.C_drewN ?_ _) | (with_reducible refine Kd.C_drew ?_))); (case side2 => exact HC0.out); rintro e w' ⟨rfl, ⟨nd, rfl⟩⟩; refine ⟨_, rfl, ?_⟩))
          go_meet
          case rel => exact ⟨_, (decide (a1 > 100)), (by first | rfl | (simp; done) | (simp [*]; done)), H', ⟨by first | omega | exact Nat.le_refl _⟩, ⟨hb_⟩⟩
    · replace c6 := Bool.eq_false_iff.mpr c6
      subst c6
      have H1 : (timesynclaw25_ClusterIndependent.j0 k l0 a1 a2 true) = some r := by rw [if_neg (show ¬ (false = true) by decide)] at H; exact H
      clear H
      have H := H1
      clear H1
      have H' := Aside0.mk H
      clear H
      go_wp2_with (first | ((with_reducible refine gate_callee (f := 8) rfl ?_); refine goesL_ (some 16) rfl rfl Try.func8 (by kernel_rfl) rfl #[.slice A0 l0.length c0] rfl sl_ ?_; (with_reducible refine (timesynclaw25_few.calls _ _ l0 false _ ?side1 ?side2 A5.out).mono ?_); (case side1 => repeat (first | exact (Kd.C_below HR0.out HB.out) | (with_reducible refine Kd.C_alloc ?_ _) | (with_reducible refine Kd.C_drewN ?_ _) | (with_reducible refine Kd.C_drew ?_))); (case side2 => exact HC0.out); rintro e w' ⟨rfl, ⟨nd, rfl⟩⟩; refine ⟨_, rfl, ?_⟩))
      go_meet
      case rel => exact ⟨_, (true), (by first | rfl | (simp; done) | (simp [*]; done)), H', ⟨by first | omega | exact Nat.le_refl _⟩, ⟨hb_⟩⟩
  case rest =>
    clear HC4
    try clear p2
    try clear c6
    try clear c7
    try clear c7b0
    try clear c7b1
    try clear c7b2
    try clear c8
    try clear c8b0
    obtain ⟨kq, x30_3, rfl, HA, HJ3, HB⟩ := hcut
    cases kq with
    | zero => exact absurd HA.out (by simp [timesynclaw25_ClusterIndependent.j0])
    | succ kj3 =>
      have H := HA.out
      clear HA
      simp only [timesynclaw25_ClusterIndependent.j0] at H
      by_cases c9 : x30_3 = true
      · subst c9
        have H1 : ((timesynclaw25_awake.f kj3).bind fun t273 => (some t273)) = some r := by rw [if_pos rfl] at H; exact H
        clear H
        have H := H1
        clear H1
        replace H := Option.bind_eq_some_iff.mp H
        obtain ⟨t273, A100, H⟩ := H
        replace H : (some t273) = some r := H
        have A10 := Aside0.mk A100
        clear A100
        obtain rfl := Option.some.inj H
        go_wp2_with (first | ((with_reducible refine gate_callee (f := 9) rfl ?_); refine goesL_ (some 31) rfl rfl Try.func9 (by kernel_rfl) rfl #[] rfl sl_ ?_; (with_reducible refine (timesynclaw25_awake.calls kj3  t273 _ A10.out).mono ?_); rintro e w11 ⟨rfl, hb⟩; refine ⟨_, rfl, ?_⟩; have n0_ := Aside0.mk (below_step hb_ hb); clear HB; have HB := n0_; clear n0_; (try clear hb); (try clear hb2); (try clear hk); (try clear hi)))
        go_ret
        exact ⟨by first | rfl | (simp [errW_none, errW_some] <;> rfl) | (simp [*, errW_none, errW_some] <;> rfl), hb_⟩
      · replace c9 := Bool.eq_false_iff.mpr c9
        subst c9
        have H1 : (timesynclaw25_ClusterIndependent.l0 kj3 l0 a1 a2 ([] : List (S34)) 0) = some r := by rw [if_neg (show ¬ (false = true) by decide)] at H; exact H
        clear H
        have H := H1
        clear H1
        have H' := Aside0.mk H
        clear H
        go_wp2
        go_loopg [7, 8] kj3 (fun kq v7 v8 w' => ∃ (x7_2 : List (S34)) (x8_2 : Int), v8 = .int .i64 x8_2 ∧ Aside0 (timesynclaw25_ClusterIndependent.l0 kq l0 a1 a2 x7_2 x8_2 = some r) ∧ Aside0 (kq ≤ kj3) ∧ Aside0 (Kd.R k34 34 w' w.heap.size (fun _ => True) v7 x7_2) ∧ Aside0 (Below w.heap.size w w'))
        case atStart => exact ⟨(([] : List (S34))), (0), (by first | rfl | (simp; done) | (simp [*]; done)), H', ⟨Nat.le_refl _⟩, ⟨by first | exact Kd.R_nil _ _ _ _ _ | exact Kd.N_nil _ _ _ _ _ | exact Kd.V_nil _ _ _ _ _ | exact Kd.Q_nil _ _ _ _ _ | exact Kd.S_nil _ _ _ _ _⟩, ⟨hb_⟩⟩
        case round =>
          clear H'
          try clear p2
          try clear c6
          try clear c7
          try clear c7b0
          try clear c7b1
          try clear c7b2
          try clear c8
          try clear c8b0
          try clear c9
          try clear p2
          obtain ⟨x7_2, x8_2, rfl, HA, HK2, HO_7, HB⟩ := hrel
          cases gk with
          | zero => exact absurd HA.out (by simp [timesynclaw25_ClusterIndependent.l0])
          | succ k2 =>
            have H := HA.out
            clear HA
            simp only [timesynclaw25_ClusterIndependent.l0] at H
            by_cases c12 : x8_2 < (l0.length : Int)
            · rw [if_pos c12] at H
              have c12b0 : decide (x8_2 < (l0.length : Int)) = true := decide_eq_true c12
              clear c12
              by_cases c13 : (l0.length : Int) = 0
              · rw [if_pos c13] at H
                exact absurd H (by simp)
              · rw [if_neg c13] at H
                have c13b0 : ((l0.length : Int) == 0) = false := beq_eq_false_iff_ne.mpr c13
                have c13b1 : ((l0.length : Int) != 0) = true := bne_iff_ne.mpr c13
                have c13b2 : ¬ (l0 = []) := fun h_ => c13 (by rw [h_]; rfl)
                obtain ⟨ji14, hji14⟩ : ∃ j_ : Int, (Int.tmod (wrap64 (x8_2 + a1)) (l0.length : Int)) = j_ := ⟨_, rfl⟩
                replace H : (if 0 ≤ (ji14) then (if (ji14) < (l0.length : Int) then ((some (([(⟨(rd_T34 l0 (ji14)).f0, (rd_T34 l0 (ji14)).f1, (rd_T34 l0 (ji14)).f2, (rd_T34 l0 (ji14)).f3, (rd_T34 l0 (ji14)).f4⟩ : S34)] : List (S34)) : List (S34))).bind fun y275 => (if y275.length + x7_2.length < 3518437208883 then (timesynclaw25_ClusterIndependent.l0 k2 l0 a1 a2 (y275 ++ x7_2) (wrap64 (x8_2 + 1))) else (none))) else (none)) else (none)) = some r := by first | (rw [hji14] at H; exact H) | (simp only [hji14] at H ⊢; exact H)
                by_cases c15 : 0 ≤ (ji14)
                · rw [if_pos c15] at H
                  have c15b0 : decide (0 ≤ (ji14)) = true := decide_eq_true c15
                  clear c15
                  by_cases c16 : (ji14) < (l0.length : Int)
                  · rw [if_pos c16] at H
                    have c16b0 : decide ((ji14) < (l0.length : Int)) = true := decide_eq_true c16
                    clear c16
                    obtain ⟨y275, hy275⟩ : ∃ y_ : List (S34), y_ = (([(⟨(rd_T34 l0 (ji14)).f0, (rd_T34 l0 (ji14)).f1, (rd_T34 l0 (ji14)).f2, (rd_T34 l0 (ji14)).f3, (rd_T34 l0 (ji14)).f4⟩ : S34)] : List (S34))) := ⟨_, rfl⟩
                    replace H : (if y275.length + x7_2.length < 3518437208883 then (timesynclaw25_ClusterIndependent.l0 k2 l0 a1 a2 (y275 ++ x7_2) (wrap64 (x8_2 + 1))) else (none)) = some r := by first | (rw [hy275]; with_reducible exact H) | (have H2_ := (Option.bind_some _ _).symm.trans H; rw [hy275]; with_reducible exact H2_) | (have H2_ := (Option.bind_some _ _).symm.trans H; with_reducible exact H2_) | with_reducible exact H | (rw [hy275]; exact H) | exact H
                    have Ny275 := Aside0.mk hy275
                    clear hy275
                    by_cases c17 : y275.length + x7_2.length < 3518437208883
                    · rw [if_pos c17] at H
                      have LMc17 := Aside0.mk c17
                      clear c17
                      obtain ⟨y278, hy278⟩ : ∃ y_ : List (S34), y_ = (y275 ++ x7_2) := ⟨_, rfl⟩
                      replace H : (timesynclaw25_ClusterIndependent.l0 k2 l0 a1 a2 y278 (wrap64 (x8_2 + 1))) = some r := by first | (rw [hy278]; with_reducible exact H) | (have H2_ := (Option.bind_some _ _).symm.trans H; rw [hy278]; with_reducible exact H2_) | (have H2_ := (Option.bind_some _ _).symm.trans H; with_reducible exact H2_) | with_reducible exact H | (rw [hy278]; exact H) | exact H
                      have Ny278 := Aside0.mk hy278
                      clear hy278
                      have H' := Aside0.mk H
                      clear H
                      have p274 : 0 ≤ ((ji14) : Int) := of_decide_eq_true (by first | (with_reducible assumption) | assumption)
                      have q274 : (ji14) < (l0.length : Int) := of_decide_eq_true (by first | (with_reducible assumption) | assumption)
                      obtain ⟨ad274, e274, hx274_0, hx274_1, hx274_2, hx274_3, hx274_4⟩ := at_T34 HR0.out (ji14) p274 q274
                      cases e274
                      replace hx274_0 := (HB.out.cell (World.block_lt_of_cell? w _ hx274_0)).trans hx274_0
                      replace hx274_1 := (HB.out.cell (World.block_lt_of_cell? w _ hx274_1)).trans hx274_1
                      replace hx274_2 := (HB.out.cell (World.block_lt_of_cell? w _ hx274_2)).trans hx274_2
                      replace hx274_3 := (HB.out.cell (World.block_lt_of_cell? w _ hx274_3)).trans hx274_3
                      replace hx274_4 := (HB.out.cell (World.block_lt_of_cell? w _ hx274_4)).trans hx274_4
                      replace p274 := eq_true p274
                      replace q274 := eq_true q274
                      go_wp2_with (first | ((with_reducible refine gate_dst (N := 47) rfl ?_); refine Kd.R_lit k34 _ 34 ?hg (N := 47) ?hd (xs := ([(⟨(rd_T34 l0 (ji14)).f0, (rd_T34 l0 (ji14)).f1, (rd_T34 l0 (ji14)).f2, (rd_T34 l0 (ji14)).f3, (rd_T34 l0 (ji14)).f4⟩ : S34)] : List (S34))) (inner := [.int .i64 ((rd_T34 l0 (ji14)).f0), .int .i64 ((rd_T34 l0 (ji14)).f1), .int .i64 ((rd_T34 l0 (ji14)).f2), .int .i64 ((rd_T34 l0 (ji14)).f3), .int .i64 ((rd_T34 l0 (ji14)).f4)]) (ok := fun _ => True) (okp := fun _ => True) ?hr ?hp (fun _ hk => hk) trivial (Below.refl _ _) (Nat.le_refl _) (by simp) ?_; (case hd => rfl); (case hg => rfl); (case hr => first | (go_simp; done) | (go_simp; rfl)); (case hp => exact (Reps.c5 (show Kd.M k34 _ _ _ (⟨(rd_T34 l0 (ji14)).f0, (rd_T34 l0 (ji14)).f1, (rd_T34 l0 (ji14)).f2, (rd_T34 l0 (ji14)).f3, (rd_T34 l0 (ji14)).f4⟩ : S34) [.int .i64 ((rd_T34 l0 (ji14)).f0), .int .i64 ((rd_T34 l0 (ji14)).f1), .int .i64 ((rd_T34 l0 (ji14)).f2), .int .i64 ((rd_T34 l0 (ji14)).f3), .int .i64 ((rd_T34 l0 (ji14)).f4)] from (k34_mkM _ _ _ (⟨(rd_T34 l0 (ji14)).f0, (rd_T34 l0 (ji14)).f1, (rd_T34 l0 (ji14)).f2, (rd_T34 l0 (ji14)).f3, (rd_T34 l0 (ji14)).f4⟩ : S34) )) (Reps.none _ _))); intro v276 w18 ho19 hb hg_ hnew_; clear hg_ hnew_; (first | rw [← Ny275.out] at ho19 | (simp only [Int.reduceToNat] at ho19; rw [← Ny275.out] at ho19)); have n0_ := Aside0.mk (Kd.R_elder' (by (with_reducible repeat (first | apply Kd.R_alloc | apply Kd.R_drewN | apply Kd.R_drew)); exact HO_7.out) (Kd.R_base ho19) hb); have n1_ := Aside0.mk (Kd.R_lower (Kd.R_new' ho19 (Kd.R_lt (by (with_reducible repeat (first | apply Kd.R_alloc | apply Kd.R_drewN | apply Kd.R_drew)); exact HO_7.out))) (below_size hb_)); have n2_ := Aside0.mk (below_step hb_ hb); clear HO_7; clear HB; have HO_7 := n0_; have HO277 := n1_; have HB := n2_; clear n0_ n1_ n2_; clear hb ho19; obtain ⟨Ao21, co21, eo21⟩ := Kd.R_slice HO_7.out; subst eo21) | ((with_reducible refine gate_builtin (b := .append) (xs := #[.tmp 47, .tmp 48]) rfl ?_); at_builtin; refine Kd.R_append_rows k34 (w0 := w) w.heap.size rfl (.tmp 47) (.tmp 48) 22 34 (.agg #[(.int .i64 0), (.int .i64 0), (.int .i64 0), (.int .i64 0), (.int .i64 0)]) 40 rfl Try.underlying22 info34 rfl (by decide) (by omega) v276 y275 x7_2 _ _ _ (fun k_ => some k_ ≠ (.slice Ao21 x7_2.length co21 : Value).ownBlock) (fun _ => False) rfl rfl ?aO ?aR (fun _ _ h => h) (fun _ h => h.elim) ?aF ?aB ?aS ?aL ?_; (case aR => repeat (first | exact (Kd.R_reads' HO_7.out).2.2 | (with_reducible refine Kd.C_alloc ?_ _) | (with_reducible refine Kd.C_drewN ?_ _) | (with_reducible refine Kd.C_drew ?_))); (case aB => exact hb_); (case aF => exact (fun k_ hk => Kd.fresh' (Kd.R_lt (by (with_reducible repeat (first | apply Kd.R_alloc | apply Kd.R_drewN | apply Kd.R_drew)); exact HO_7.out)) k_ hk)); (case aO => exact (by (with_reducible repeat (first | apply Kd.R_alloc | apply Kd.R_drewN | apply Kd.R_drew)); exact Kd.R_mono HO277.out (fun _ hk => hk.2))); (case aS => exact (below_size hb_)); (case aL => have := LMc17.out; omega); intro v279 w20 ho hb hg hat; rw [← Ny278.out] at ho; have n0_ := Aside0.mk (Kd.R_after (ok := (fun _ => True)) (by (with_reducible repeat (first | apply Kd.R_alloc | apply Kd.R_drewN | apply Kd.R_drew)); exact HO_7.out) hg hat); have n1_ := Aside0.mk (hb); have n2_ := Aside0.mk (ho); clear HO_7; clear HB; clear HO277; have HO_7 := n0_; have HB := n1_; have HO280 := n2_; clear n0_ n1_ n2_; clear ho hb hg hat))
                      go_roundg k2
                      case measure => have := HJ3.out; have := HK2.out; omega
                      case rel => exact ⟨(y278), (wrap64 (x8_2 + 1)), (by first | rfl | (simp; done) | (simp [*]; done)), H', ⟨by have := HJ3.out; have := HK2.out; omega⟩, ⟨by (with_reducible repeat (first | apply Kd.R_alloc | apply Kd.R_drewN | apply Kd.R_drew)); exact Kd.R_mono HO280.out (fun _ hk => trivial)⟩, ⟨hb_⟩⟩
                    · rw [if_neg c17] at H
                      exact absurd H (by simp)
                  · rw [if_neg c16] at H
                    exact absurd H (by simp)
                · rw [if_neg c15] at H
                  exact absurd H (by simp)
            · rw [if_neg c12] at H
              have c12b0 : decide (x8_2 < (l0.length : Int)) = false := decide_eq_false c12
              clear c12
              have HC22 := Aside0.mk H
              clear H
              go_upto_region 8 with (fail)
              go_cut [57] (fun v57 wc => ∃ (kq : Nat) (x57_21 : Bool), v57 = .bool x57_21 ∧ Aside0 (timesynclaw25_ClusterIndependent.j2 kq l0 a2 x7_2 x57_21 = some r) ∧ Aside0 (kq ≤ k2) ∧ Aside0 (Kd.R k34 34 wc w.heap.size (fun _ => True) u7 x7_2) ∧ Aside0 (Below w.heap.size w wc))
              case first =>
                have H := HC22.out
                clear HC22
                replace H := Option.bind_eq_some_iff.mp H
                obtain ⟨t281, A230, H⟩ := H
                replace H : (if t281 = 0 then ((choose_Check.f k2 x7_2).bind fun t282 => (timesynclaw25_ClusterIndependent.j2 k2 l0 a2 x7_2 (t282 != 0))) else (timesynclaw25_ClusterIndependent.j2 k2 l0 a2 x7_2 true)) = some r := H
                have A23 := Aside0.mk A230
                clear A230
                by_cases c24 : t281 = 0
                · rw [if_pos c24] at H
                  have c24b0 : (t281 == 0) = true := beq_iff_eq.mpr c24
                  have c24b1 : (t281 != 0) = false := bne_eq_false_iff_eq.mpr c24
                  clear c24
                  (first | rw [c24b0] | (simp only [i64_w, i32_w]; rw [c24b0]) | skip)
                  replace H := Option.bind_eq_some_iff.mp H
                  obtain ⟨t282, A250, H⟩ := H
                  replace H : (timesynclaw25_ClusterIndependent.j2 k2 l0 a2 x7_2 (t282 != 0)) = some r := H
                  have A25 := Aside0.mk A250
                  clear A250
                  have H' := Aside0.mk H
                  clear H
                  go_wp2_with (first | ((with_reducible refine gate_callee (f := 17) rfl ?_); refine goesL_ (some 51) rfl rfl Try.func17 (by kernel_rfl) rfl #[.slice A0 l0.length c0] rfl sl_ ?_; (with_reducible refine (choose_Check.calls k2 _ _ l0 t281 _ ?side1 ?side2 A23.out).mono ?_); (case side1 => repeat (first | exact (Kd.C_below HR0.out HB.out) | (with_reducible refine Kd.C_alloc ?_ _) | (with_reducible refine Kd.C_drewN ?_ _) | (with_reducible refine Kd.C_drew ?_))); (case side2 => exact HC0.out); rintro e w26 ⟨rfl, hb⟩; refine ⟨_, rfl, ?_⟩; have n0_ := Aside0.mk (Kd.R_below (by (with_reducible repeat (first | apply Kd.R_alloc | apply Kd.R_drewN | apply Kd.R_drew)); exact HO_7.out) hb); have n1_ := Aside0.mk (below_step hb_ hb); clear HO_7; clear HB; have HO_7 := n0_; have HB := n1_; clear n0_ n1_; (try clear hb); (try clear hb2); (try clear hk); (try clear hi); obtain ⟨Ao27, co27, eo27⟩ := Kd.R_slice HO_7.out; subst eo27) | (go_at_call 17; (with_reducible refine (choose_Check.calls k2 _ _ x7_2 t282 _ ?side1 ?side2 A25.out).mono ?_); (case side1 => repeat (first | exact (Kd.R_reads' HO_7.out).2.2 | (with_reducible refine Kd.C_alloc ?_ _) | (with_reducible refine Kd.C_drewN ?_ _) | (with_reducible refine Kd.C_drew ?_))); (case side2 => exact (Kd.R_reads' HO_7.out).2.1); rintro e w28 ⟨rfl, hb⟩; have n0_ := Aside0.mk (Kd.R_below (by (with_reducible repeat (first | apply Kd.R_alloc | apply Kd.R_drewN | apply Kd.R_drew)); exact HO_7.out) hb); have n1_ := Aside0.mk (below_step hb_ hb); clear HO_7; clear HB; have HO_7 := n0_; have HB := n1_; clear n0_ n1_; (try clear hb); (try clear hb2); (try clear hk); (try clear hi)))
                  go_meet
                  case rel => exact ⟨_, ((t282 != 0)), (by first | rfl | (simp; done) | (simp [*]; done)), H', ⟨by have := HJ3.out; have := HK2.out; first | omega | exact Nat.le_refl _⟩, ⟨by (with_reducible repeat (first | apply Kd.R_alloc | apply Kd.R_drewN | apply Kd.R_drew)); exact HO_7.out⟩, ⟨hb_⟩⟩
                · rw [if_neg c24] at H
                  have c24b0 : (t281 == 0) = false := beq_eq_false_iff_ne.mpr c24
                  have c24b1 : (t281 != 0) = true := bne_iff_ne.mpr c24
                  (first | rw [c24b0] | (simp only [i64_w, i32_w]; rw [c24b0]) | skip)
                  have H' := Aside0.mk H
                  clear H
                  go_wp2_with (first | ((with_reducible refine gate_callee (f := 17) rfl ?_); refine goesL_ (some 51) rfl rfl Try.func17 (by kernel_rfl) rfl #[.slice A0 l0.length c0] rfl sl_ ?_; (with_reducible refine (choose_Check.calls k2 _ _ l0 t281 _ ?side1 ?side2 A23.out).mono ?_); (case side1 => repeat (first | exact (Kd.C_below HR0.out HB.out) | (with_reducible refine Kd.C_alloc ?_ _) | (with_reducible refine Kd.C_drewN ?_ _) | (with_reducible refine Kd.C_drew ?_))); (case side2 => exact HC0.out); rintro e w29 ⟨rfl, hb⟩; refine ⟨_, rfl, ?_⟩; have n0_ := Aside0.mk (Kd.R_below (by (with_reducible repeat (first | apply Kd.R_alloc | apply Kd.R_drewN | apply Kd.R_drew)); exact HO_7.out) hb); have n1_ := Aside0.mk (below_step hb_ hb); clear HO_7; clear HB; have HO_7 := n0_; have HB := n1_; clear n0_ n1_; (try clear hb); (try clear hb2); (try clear hk); (try clear hi)))
                  go_meet
                  case rel => exact ⟨_, (true), (by first | rfl | (simp; done) | (simp [*]; done)), H', ⟨by have := HJ3.out; have := HK2.out; first | omega | exact Nat.le_refl _⟩, ⟨by (with_reducible repeat (first | apply Kd.R_alloc | apply Kd.R_drewN | apply Kd.R_drew)); exact HO_7.out⟩, ⟨hb_⟩⟩
              case rest =>
                clear HC22
                try clear c1
                try clear c2
                try clear p2
                try clear q2
                try clear hx2
                try clear c5
                try clear c6
                try clear p6
                try clear c7
                try clear c7b0
                try clear c7b1
                try clear c7b2
                try clear c8
                try clear c8b0
                try clear c9
                try clear c12
                try clear c12b0
                try clear c13
                try clear c13b0
                try clear c13b1
                try clear c13b2
                try clear c15
                try clear c15b0
                try clear c16
                try clear c16b0
                try clear c17
                try clear c24
                try clear c24b0
                try clear c24b1
                try clear p27
                try clear q27
                try clear hx27
                try clear hx274_0
                try clear hx274_1
                try clear hx274_2
                try clear hx274_3
                try clear hx274_4
                try clear p2
                try clear p274
                try clear q274
                obtain ⟨kq, x57_21, rfl, HA, HJ21, HO_7, HB⟩ := hcut
                cases kq with
                | zero => exact absurd HA.out (by simp [timesynclaw25_ClusterIndependent.j2])
                | succ kj21 =>
                  have H := HA.out
                  clear HA
                  simp only [timesynclaw25_ClusterIndependent.j2] at H
                  by_cases c30 : x57_21 = true
                  · subst c30
                    have H1 : ((timesynclaw25_awake.f kj21).bind fun t283 => (some t283)) = some r := by rw [if_pos rfl] at H; exact H
                    clear H
                    have H := H1
                    clear H1
                    replace H := Option.bind_eq_some_iff.mp H
                    obtain ⟨t283, A310, H⟩ := H
                    replace H : (some t283) = some r := H
                    have A31 := Aside0.mk A310
                    clear A310
                    obtain rfl := Option.some.inj H
                    go_wp2_with (first | ((with_reducible refine gate_callee (f := 9) rfl ?_); refine goesL_ (some 58) rfl rfl Try.func9 (by kernel_rfl) rfl #[] rfl sl_ ?_; (with_reducible refine (timesynclaw25_awake.calls kj21  t283 _ A31.out).mono ?_); rintro e w32 ⟨rfl, hb⟩; refine ⟨_, rfl, ?_⟩; have n0_ := Aside0.mk (Kd.R_below (by (with_reducible repeat (first | apply Kd.R_alloc | apply Kd.R_drewN | apply Kd.R_drew)); exact HO_7.out) hb); have n1_ := Aside0.mk (below_step hb_ hb); clear HO_7; clear HB; have HO_7 := n0_; have HB := n1_; clear n0_ n1_; (try clear hb); (try clear hb2); (try clear hk); (try clear hi)))
                    go_ret
                    exact ⟨by first | rfl | (simp [errW_none, errW_some] <;> rfl) | (simp [*, errW_none, errW_some] <;> rfl), hb_⟩
                  · replace c30 := Bool.eq_false_iff.mpr c30
                    subst c30
                    have H1 : ((cluster_Prune.f kj21 l0 a2).bind fun bt284 => ((cluster_Prune.f kj21 x7_2 a2).bind fun bt288 => ((timesynclaw25_same.f kj21 bt284.1 bt288.1).bind fun t292 => (if t292 = true then (if bt284.2 = bt288.2 then ((cluster_Order.f kj21 l0).bind fun t293 => ((cluster_Order.f kj21 x7_2).bind fun t296 => ((timesynclaw25_same.f kj21 t293 t296).bind fun t299 => (timesynclaw25_ClusterIndependent.j3 kj21 a2 bt284.1 bt284.2 (!t299))))) else (timesynclaw25_ClusterIndependent.j3 kj21 a2 bt284.1 bt284.2 true)) else (timesynclaw25_ClusterIndependent.j3 kj21 a2 bt284.1 bt284.2 true))))) = some r := by rw [if_neg (show ¬ (false = true) by decide)] at H; exact H
                    clear H
                    have H := H1
                    clear H1
                    replace H := Option.bind_eq_some_iff.mp H
                    obtain ⟨⟨t284, t285⟩, A330, H⟩ := H
                    replace H : ((cluster_Prune.f kj21 x7_2 a2).bind fun bt288 => ((timesynclaw25_same.f kj21 t284 bt288.1).bind fun t292 => (if t292 = true then (if t285 = bt288.2 then ((cluster_Order.f kj21 l0).bind fun t293 => ((cluster_Order.f kj21 x7_2).bind fun t296 => ((timesynclaw25_same.f kj21 t293 t296).bind fun t299 => (timesynclaw25_ClusterIndependent.j3 kj21 a2 t284 t285 (!t299))))) else (timesynclaw25_ClusterIndependent.j3 kj21 a2 t284 t285 true)) else (timesynclaw25_ClusterIndependent.j3 kj21 a2 t284 t285 true)))) = some r := H
                    have A33 := Aside0.mk A330
                    clear A330
                    replace H := Option.bind_eq_some_iff.mp H
                    obtain ⟨⟨t288, t289⟩, A340, H⟩ := H
                    replace H : ((timesynclaw25_same.f kj21 t284 t288).bind fun t292 => (if t292 = true then (if t285 = t289 then ((cluster_Order.f kj21 l0).bind fun t293 => ((cluster_Order.f kj21 x7_2).bind fun t296 => ((timesynclaw25_same.f kj21 t293 t296).bind fun t299 => (timesynclaw25_ClusterIndependent.j3 kj21 a2 t284 t285 (!t299))))) else (timesynclaw25_ClusterIndependent.j3 kj21 a2 t284 t285 true)) else (timesynclaw25_ClusterIndependent.j3 kj21 a2 t284 t285 true))) = some r := H
                    have A34 := Aside0.mk A340
                    clear A340
                    have HC35 := Aside0.mk H
                    clear H
                    go_upto_region 12 with (first | ((with_reducible refine gate_callee (f := 19) rfl ?_); refine goesL_ (some 62) rfl rfl Try.func19 (by kernel_rfl) rfl #[.slice A0 l0.length c0, .int .i64 a2] rfl sl_ ?_; (with_reducible refine (cluster_Prune.calls kj21 _ _ l0 a2 t284 t285 _ ?side1 ?side2 A33.out).mono ?_); (case side1 => repeat (first | exact (Kd.C_below HR0.out HB.out) | (with_reducible refine Kd.C_alloc ?_ _) | (with_reducible refine Kd.C_drewN ?_ _) | (with_reducible refine Kd.C_drew ?_))); (case side2 => exact HC0.out); rintro e w36 ⟨v286, rfl, ho0, hb⟩; refine ⟨_, rfl, ?_⟩; have n0_ := Aside0.mk (Kd.R_elder' (by (with_reducible repeat (first | apply Kd.R_alloc | apply Kd.R_drewN | apply Kd.R_drew)); exact HO_7.out) (Kd.R_base ho0) hb); have n1_ := Aside0.mk (Kd.R_lower (Kd.R_new' ho0 (Kd.R_lt (by (with_reducible repeat (first | apply Kd.R_alloc | apply Kd.R_drewN | apply Kd.R_drew)); exact HO_7.out))) (below_size hb_)); have n2_ := Aside0.mk (below_step hb_ hb); clear HO_7; clear HB; have HO_7 := n0_; have HO287 := n1_; have HB := n2_; clear n0_ n1_ n2_; (try clear hb); (try clear hb2); (try clear hk); (try clear hi); (try clear ho0); obtain ⟨Ao37, co37, eo37⟩ := Kd.R_slice HO_7.out; subst eo37) | ((with_reducible refine gate_callee (f := 19) rfl ?_); refine goesL_ (some 68) rfl rfl Try.func19 (by kernel_rfl) rfl #[.slice Ao37 x7_2.length co37, .int .i64 a2] rfl sl_ ?_; (with_reducible refine (cluster_Prune.calls kj21 _ _ x7_2 a2 t288 t289 _ ?side1 ?side2 A34.out).mono ?_); (case side1 => repeat (first | exact (Kd.R_reads' HO_7.out).2.2 | (with_reducible refine Kd.C_alloc ?_ _) | (with_reducible refine Kd.C_drewN ?_ _) | (with_reducible refine Kd.C_drew ?_))); (case side2 => exact (Kd.R_reads' HO_7.out).2.1); rintro e w38 ⟨v290, rfl, ho0, hb⟩; refine ⟨_, rfl, ?_⟩; have n0_ := Aside0.mk (Kd.R_elder' (by (with_reducible repeat (first | apply Kd.R_alloc | apply Kd.R_drewN | apply Kd.R_drew)); exact HO_7.out) (Kd.R_base ho0) hb); have n1_ := Aside0.mk (Kd.R_elder' (by (with_reducible repeat (first | apply Kd.R_alloc | apply Kd.R_drewN | apply Kd.R_drew)); exact HO287.out) (Kd.R_base ho0) hb); have n2_ := Aside0.mk (Kd.R_lower (Kd.R_new' (Kd.R_new' ho0 (Kd.R_lt (by (with_reducible repeat (first | apply Kd.R_alloc | apply Kd.R_drewN | apply Kd.R_drew)); exact HO_7.out))) (Kd.R_lt (by (with_reducible repeat (first | apply Kd.R_alloc | apply Kd.R_drewN | apply Kd.R_drew)); exact HO287.out))) (below_size hb_)); have n3_ := Aside0.mk (below_step hb_ hb); clear HO_7; clear HO287; clear HB; have HO_7 := n0_; have HO287 := n1_; have HO291 := n2_; have HB := n3_; clear n0_ n1_ n2_ n3_; (try clear hb); (try clear hb2); (try clear hk); (try clear hi); (try clear ho0)))
                    (try simp only [Act.put, z1, z2, z3])
                    go_cut [87] (fun v87 wc => ∃ (kq : Nat) (x87_34 : Bool), v87 = .bool x87_34 ∧ Aside0 (timesynclaw25_ClusterIndependent.j3 kq a2 t284 t285 x87_34 = some r) ∧ Aside0 (kq ≤ kj21) ∧ Aside0 (Kd.R k34 34 wc w.heap.size (fun _ => True) v286 t284) ∧ Aside0 (Below w.heap.size w wc))
                    case first =>
                      have H := HC35.out
                      clear HC35
                      replace H := Option.bind_eq_some_iff.mp H
                      obtain ⟨t292, A390, H⟩ := H
                      replace H : (if t292 = true then (if t285 = t289 then ((cluster_Order.f kj21 l0).bind fun t293 => ((cluster_Order.f kj21 x7_2).bind fun t296 => ((timesynclaw25_same.f kj21 t293 t296).bind fun t299 => (timesynclaw25_ClusterIndependent.j3 kj21 a2 t284 t285 (!t299))))) else (timesynclaw25_ClusterIndependent.j3 kj21 a2 t284 t285 true)) else (timesynclaw25_ClusterIndependent.j3 kj21 a2 t284 t285 true)) = some r := H
                      have A39 := Aside0.mk A390
                      clear A390
                      by_cases c40 : t292 = true
                      · subst c40
                        have H1 : (if t285 = t289 then ((cluster_Order.f kj21 l0).bind fun t293 => ((cluster_Order.f kj21 x7_2).bind fun t296 => ((timesynclaw25_same.f kj21 t293 t296).bind fun t299 => (timesynclaw25_ClusterIndependent.j3 kj21 a2 t284 t285 (!t299))))) else (timesynclaw25_ClusterIndependent.j3 kj21 a2 t284 t285 true)) = some r := by rw [if_pos rfl] at H; exact H
                        clear H
                        have H := H1
                        clear H1
                        by_cases c41 : t285 = t289
                        · rw [if_pos c41] at H
                          have c41b0 : (t285 == t289) = true := beq_iff_eq.mpr c41
                          have c41b1 : (t285 != t289) = false := bne_eq_false_iff_eq.mpr c41
                          clear c41
                          (first | rw [c41b0] | (simp only [i64_w, i32_w]; rw [c41b0]) | skip)
                          replace H := Option.bind_eq_some_iff.mp H
                          obtain ⟨t293, A420, H⟩ := H
                          replace H : ((cluster_Order.f kj21 x7_2).bind fun t296 => ((timesynclaw25_same.f kj21 t293 t296).bind fun t299 => (timesynclaw25_ClusterIndependent.j3 kj21 a2 t284 t285 (!t299)))) = some r := H
                          have A42 := Aside0.mk A420
                          clear A420
                          replace H := Option.bind_eq_some_iff.mp H
                          obtain ⟨t296, A430, H⟩ := H
                          replace H : ((timesynclaw25_same.f kj21 t293 t296).bind fun t299 => (timesynclaw25_ClusterIndependent.j3 kj21 a2 t284 t285 (!t299))) = some r := H
                          have A43 := Aside0.mk A430
                          clear A430
                          replace H := Option.bind_eq_some_iff.mp H
                          obtain ⟨t299, A440, H⟩ := H
                          replace H : (timesynclaw25_ClusterIndependent.j3 kj21 a2 t284 t285 (!t299)) = some r := H
                          have A44 := Aside0.mk A440
                          clear A440
                          have H' := Aside0.mk H
                          clear H
                          obtain ⟨Ao45, co45, eo45⟩ := Kd.R_slice HO287.out
                          subst eo45
                          obtain ⟨Ao46, co46, eo46⟩ := Kd.R_slice HO291.out
                          subst eo46
                          go_wp2_with (first | ((with_reducible refine gate_callee (f := 12) rfl ?_); refine goesL_ (some 73) rfl rfl Try.func12 (by kernel_rfl) rfl #[.slice Ao45 t284.length co45, .slice Ao46 t288.length co46] rfl sl_ ?_; (with_reducible refine (timesynclaw25_same.calls kj21 _ _ t284 _ _ t288 true _ ?side1 ?side2 ?side3 ?side4 A39.out).mono ?_); (case side1 => repeat (first | exact (Kd.R_reads' HO287.out).2.2 | (with_reducible refine Kd.C_alloc ?_ _) | (with_reducible refine Kd.C_drewN ?_ _) | (with_reducible refine Kd.C_drew ?_))); (case side2 => exact (Kd.R_reads' HO287.out).2.1); (case side3 => repeat (first | exact (Kd.R_reads' HO291.out).2.2 | (with_reducible refine Kd.C_alloc ?_ _) | (with_reducible refine Kd.C_drewN ?_ _) | (with_reducible refine Kd.C_drew ?_))); (case side4 => exact (Kd.R_reads' HO291.out).2.1); rintro e w' ⟨rfl, ⟨nd, rfl⟩⟩; refine ⟨_, rfl, ?_⟩) | (go_at_call 13; (with_reducible refine (cluster_Order.calls kj21 _ _ l0 t293 _ ?side1 ?side2 A42.out).mono ?_); (case side1 => repeat (first | exact (Kd.C_below HR0.out hb_) | (with_reducible refine Kd.C_alloc ?_ _) | (with_reducible refine Kd.C_drewN ?_ _) | (with_reducible refine Kd.C_drew ?_))); (case side2 => exact HC0.out); rintro e w47 ⟨v294, rfl, ho0, hb⟩; have n0_ := Aside0.mk (Kd.R_elder' (by (with_reducible repeat (first | apply Kd.R_alloc | apply Kd.R_drewN | apply Kd.R_drew)); exact HO_7.out) (Kd.R_base ho0) hb); have n1_ := Aside0.mk (Kd.R_elder' (by (with_reducible repeat (first | apply Kd.R_alloc | apply Kd.R_drewN | apply Kd.R_drew)); exact HO287.out) (Kd.R_base ho0) hb); have n2_ := Aside0.mk (Kd.R_elder' (by (with_reducible repeat (first | apply Kd.R_alloc | apply Kd.R_drewN | apply Kd.R_drew)); exact HO291.out) (Kd.R_base ho0) hb); have n3_ := Aside0.mk (Kd.R_lower (Kd.R_new' (Kd.R_new' (Kd.R_new' ho0 (Kd.R_lt (by (with_reducible repeat (first | apply Kd.R_alloc | apply Kd.R_drewN | apply Kd.R_drew)); exact HO_7.out))) (Kd.R_lt (by (with_reducible repeat (first | apply Kd.R_alloc | apply Kd.R_drewN | apply Kd.R_drew)); exact HO287.out))) (Kd.R_lt (by (with_reducible repeat (first | apply Kd.R_alloc | apply Kd.R_drewN | apply Kd.R_drew)); exact HO291.out))) (below_size hb_)); have n4_ := Aside0.mk (below_step hb_ hb); clear HO_7; clear HO287; clear HO291; clear HB; have HO_7 := n0_; have HO287 := n1_; have HO291 := n2_; have HO295 := n3_; have HB := n4_; clear n0_ n1_ n2_ n3_ n4_; (try clear hb); (try clear hb2); (try clear hk); (try clear hi); (try clear ho0)) | (go_at_call 13; (with_reducible refine (cluster_Order.calls kj21 _ _ x7_2 t296 _ ?side1 ?side2 A43.out).mono ?_); (case side1 => repeat (first | exact (Kd.R_reads' HO_7.out).2.2 | (with_reducible refine Kd.C_alloc ?_ _) | (with_reducible refine Kd.C_drewN ?_ _) | (with_reducible refine Kd.C_drew ?_))); (case side2 => exact (Kd.R_reads' HO_7.out).2.1); rintro e w48 ⟨v297, rfl, ho0, hb⟩; have n0_ := Aside0.mk (Kd.R_elder' (by (with_reducible repeat (first | apply Kd.R_alloc | apply Kd.R_drewN | apply Kd.R_drew)); exact HO_7.out) (Kd.R_base ho0) hb); have n1_ := Aside0.mk (Kd.R_elder' (by (with_reducible repeat (first | apply Kd.R_alloc | apply Kd.R_drewN | apply Kd.R_drew)); exact HO287.out) (Kd.R_base ho0) hb); have n2_ := Aside0.mk (Kd.R_elder' (by (with_reducible repeat (first | apply Kd.R_alloc | apply Kd.R_drewN | apply Kd.R_drew)); exact HO291.out) (Kd.R_base ho0) hb); have n3_ := Aside0.mk (Kd.R_elder' (by (with_reducible repeat (first | apply Kd.R_alloc | apply Kd.R_drewN | apply Kd.R_drew)); exact HO295.out) (Kd.R_base ho0) hb); have n4_ := Aside0.mk (Kd.R_lower (Kd.R_new' (Kd.R_new' (Kd.R_new' (Kd.R_new' ho0 (Kd.R_lt (by (with_reducible repeat (first | apply Kd.R_alloc | apply Kd.R_drewN | apply Kd.R_drew)); exact HO_7.out))) (Kd.R_lt (by (with_reducible repeat (first | apply Kd.R_alloc | apply Kd.R_drewN | apply Kd.R_drew)); exact HO287.out))) (Kd.R_lt (by (with_reducible repeat (first | apply Kd.R_alloc | apply Kd.R_drewN | apply Kd.R_drew)); exact HO291.out))) (Kd.R_lt (by (with_reducible repeat (first | apply Kd.R_alloc | apply Kd.R_drewN | apply Kd.R_drew)); exact HO295.out))) (below_size hb_)); have n5_ := Aside0.mk (below_step hb_ hb); clear HO_7; clear HO287; clear HO291; clear HO295; clear HB; have HO_7 := n0_; have HO287 := n1_; have HO291 := n2_; have HO295 := n3_; have HO298 := n4_; have HB := n5_; clear n0_ n1_ n2_ n3_ n4_ n5_; (try clear hb); (try clear hb2); (try clear hk); (try clear hi); (try clear ho0); obtain ⟨Ao49, co49, eo49⟩ := Kd.R_slice HO295.out; subst eo49; obtain ⟨Ao50, co50, eo50⟩ := Kd.R_slice HO298.out; subst eo50) | (go_at_call 12; (with_reducible refine (timesynclaw25_same.calls kj21 _ _ t293 _ _ t296 t299 _ ?side1 ?side2 ?side3 ?side4 A44.out).mono ?_); (case side1 => repeat (first | exact (Kd.R_reads' HO295.out).2.2 | (with_reducible refine Kd.C_alloc ?_ _) | (with_reducible refine Kd.C_drewN ?_ _) | (with_reducible refine Kd.C_drew ?_))); (case side2 => exact (Kd.R_reads' HO295.out).2.1); (case side3 => repeat (first | exact (Kd.R_reads' HO298.out).2.2 | (with_reducible refine Kd.C_alloc ?_ _) | (with_reducible refine Kd.C_drewN ?_ _) | (with_reducible refine Kd.C_drew ?_))); (case side4 => exact (Kd.R_reads' HO298.out).2.1); rintro e w' ⟨rfl, ⟨nd, rfl⟩⟩))
                          go_meet
                          case rel => exact ⟨_, (!t299), (by first | rfl | (simp; done) | (simp [*]; done)), H', ⟨by have := HJ3.out; have := HK2.out; have := HJ21.out; first | omega | exact Nat.le_refl _⟩, ⟨by (with_reducible repeat (first | apply Kd.R_alloc | apply Kd.R_drewN | apply Kd.R_drew)); exact Kd.R_mono HO287.out (fun _ hk => trivial)⟩, ⟨hb_⟩⟩
                        · rw [if_neg c41] at H
                          have c41b0 : (t285 == t289) = false := beq_eq_false_iff_ne.mpr c41
                          have c41b1 : (t285 != t289) = true := bne_iff_ne.mpr c41
                          (first | rw [c41b0] | (simp only [i64_w, i32_w]; rw [c41b0]) | skip)
                          have H' := Aside0.mk H
                          clear H
                          obtain ⟨Ao51, co51, eo51⟩ := Kd.R_slice HO287.out
                          subst eo51
                          obtain ⟨Ao52, co52, eo52⟩ := Kd.R_slice HO291.out
                          subst eo52
                          go_wp2_with (first | ((with_reducible refine gate_callee (f := 12) rfl ?_); refine goesL_ (some 73) rfl rfl Try.func12 (by kernel_rfl) rfl #[.slice Ao51 t284.length co51, .slice Ao52 t288.length co52] rfl sl_ ?_; (with_reducible refine (timesynclaw25_same.calls kj21 _ _ t284 _ _ t288 true _ ?side1 ?side2 ?side3 ?side4 A39.out).mono ?_); (case side1 => repeat (first | exact (Kd.R_reads' HO287.out).2.2 | (with_reducible refine Kd.C_alloc ?_ _) | (with_reducible refine Kd.C_drewN ?_ _) | (with_reducible refine Kd.C_drew ?_))); (case side2 => exact (Kd.R_reads' HO287.out).2.1); (case side3 => repeat (first | exact (Kd.R_reads' HO291.out).2.2 | (with_reducible refine Kd.C_alloc ?_ _) | (with_reducible refine Kd.C_drewN ?_ _) | (with_reducible refine Kd.C_drew ?_))); (case side4 => exact (Kd.R_reads' HO291.out).2.1); rintro e w' ⟨rfl, ⟨nd, rfl⟩⟩; refine ⟨_, rfl, ?_⟩))
                          go_meet
                          case rel => exact ⟨_, (true), (by first | rfl | (simp; done) | (simp [*]; done)), H', ⟨by have := HJ3.out; have := HK2.out; have := HJ21.out; first | omega | exact Nat.le_refl _⟩, ⟨by (with_reducible repeat (first | apply Kd.R_alloc | apply Kd.R_drewN | apply Kd.R_drew)); exact Kd.R_mono HO287.out (fun _ hk => trivial)⟩, ⟨hb_⟩⟩
                      · replace c40 := Bool.eq_false_iff.mpr c40
                        subst c40
                        have H1 : (timesynclaw25_ClusterIndependent.j3 kj21 a2 t284 t285 true) = some r := by rw [if_neg (show ¬ (false = true) by decide)] at H; exact H
                        clear H
                        have H := H1
                        clear H1
                        have H' := Aside0.mk H
                        clear H
                        obtain ⟨Ao53, co53, eo53⟩ := Kd.R_slice HO287.out
                        subst eo53
                        obtain ⟨Ao54, co54, eo54⟩ := Kd.R_slice HO291.out
                        subst eo54
                        go_wp2_with (first | ((with_reducible refine gate_callee (f := 12) rfl ?_); refine goesL_ (some 73) rfl rfl Try.func12 (by kernel_rfl) rfl #[.slice Ao53 t284.length co53, .slice Ao54 t288.length co54] rfl sl_ ?_; (with_reducible refine (timesynclaw25_same.calls kj21 _ _ t284 _ _ t288 false _ ?side1 ?side2 ?side3 ?side4 A39.out).mono ?_); (case side1 => repeat (first | exact (Kd.R_reads' HO287.out).2.2 | (with_reducible refine Kd.C_alloc ?_ _) | (with_reducible refine Kd.C_drewN ?_ _) | (with_reducible refine Kd.C_drew ?_))); (case side2 => exact (Kd.R_reads' HO287.out).2.1); (case side3 => repeat (first | exact (Kd.R_reads' HO291.out).2.2 | (with_reducible refine Kd.C_alloc ?_ _) | (with_reducible refine Kd.C_drewN ?_ _) | (with_reducible refine Kd.C_drew ?_))); (case side4 => exact (Kd.R_reads' HO291.out).2.1); rintro e w' ⟨rfl, ⟨nd, rfl⟩⟩; refine ⟨_, rfl, ?_⟩))
                        go_meet
                        case rel => exact ⟨_, (true), (by first | rfl | (simp; done) | (simp [*]; done)), H', ⟨by have := HJ3.out; have := HK2.out; have := HJ21.out; first | omega | exact Nat.le_refl _⟩, ⟨by (with_reducible repeat (first | apply Kd.R_alloc | apply Kd.R_drewN | apply Kd.R_drew)); exact Kd.R_mono HO287.out (fun _ hk => trivial)⟩, ⟨hb_⟩⟩
                    case rest =>
                      clear HC35
                      try clear c1
                      try clear c2
                      try clear p2
                      try clear q2
                      try clear hx2
                      try clear c3
                      try clear c4
                      try clear c5
                      try clear c6
                      try clear p6
                      try clear c7
                      try clear c7b0
                      try clear c7b1
                      try clear c7b2
                      try clear c8
                      try clear c8b0
                      try clear c9
                      try clear c12
                      try clear c12b0
                      try clear c13
                      try clear c13b0
                      try clear c13b1
                      try clear c13b2
                      try clear c15
                      try clear c15b0
                      try clear c16
                      try clear c16b0
                      try clear c17
                      try clear c19
                      try clear c24
                      try clear c24b0
                      try clear c24b1
                      try clear p27
                      try clear q27
                      try clear hx27
                      try clear c30
                      try clear c40
                      try clear c41
                      try clear c41b0
                      try clear c41b1
                      try clear hx274_0
                      try clear hx274_1
                      try clear hx274_2
                      try clear hx274_3
                      try clear hx274_4
                      try clear p2
                      try clear p27
                      try clear p274
                      try clear p6
                      try clear q2
                      try clear q27
                      try clear q274
                      obtain ⟨kq, x87_34, rfl, HA, HJ34, HO_9, HB⟩ := hcut
                      cases kq with
                      | zero => exact absurd HA.out (by simp [timesynclaw25_ClusterIndependent.j3])
                      | succ kj34 =>
                        have H := HA.out
                        clear HA
                        simp only [timesynclaw25_ClusterIndependent.j3] at H
                        by_cases c55 : x87_34 = true
                        · subst c55
                          have H1 : (some false) = some r := by rw [if_pos rfl] at H; exact H
                          clear H
                          have H := H1
                          clear H1
                          obtain rfl := Option.some.inj H
                          go_wp2
                          go_ret
                          exact ⟨by first | rfl | (simp [errW_none, errW_some] <;> rfl) | (simp [*, errW_none, errW_some] <;> rfl), hb_⟩
                        · replace c55 := Bool.eq_false_iff.mpr c55
                          subst c55
                          have H1 : (if t285 = 0 then ((cluster_Prune.f kj34 t284 a2).bind fun bt300 => ((timesynclaw25_same.f kj34 t284 bt300.1).bind fun t304 => (if t304 = true then (if bt300.2 = 0 then ((timesynclaw25_awake.f kj34).bind fun t305 => (some t305)) else (some false)) else (some false)))) else (if t285 = 3 then (if a2 < 1 then ((timesynclaw25_awake.f kj34).bind fun t306 => (some t306)) else (some false)) else (some false))) = some r := by rw [if_neg (show ¬ (false = true) by decide)] at H; exact H
                          clear H
                          have H := H1
                          clear H1
                          by_cases c56 : t285 = 0
                          · rw [if_pos c56] at H
                            have c56b0 : (t285 == 0) = true := beq_iff_eq.mpr c56
                            have c56b1 : (t285 != 0) = false := bne_eq_false_iff_eq.mpr c56
                            clear c56
                            replace H := Option.bind_eq_some_iff.mp H
                            obtain ⟨⟨t300, t301⟩, A570, H⟩ := H
                            replace H : ((timesynclaw25_same.f kj34 t284 t300).bind fun t304 => (if t304 = true then (if t301 = 0 then ((timesynclaw25_awake.f kj34).bind fun t305 => (some t305)) else (some false)) else (some false))) = some r := H
                            have A57 := Aside0.mk A570
                            clear A570
                            replace H := Option.bind_eq_some_iff.mp H
                            obtain ⟨t304, A580, H⟩ := H
                            replace H : (if t304 = true then (if t301 = 0 then ((timesynclaw25_awake.f kj34).bind fun t305 => (some t305)) else (some false)) else (some false)) = some r := H
                            have A58 := Aside0.mk A580
                            clear A580
                            by_cases c59 : t304 = true
                            · subst c59
                              have H1 : (if t301 = 0 then ((timesynclaw25_awake.f kj34).bind fun t305 => (some t305)) else (some false)) = some r := by rw [if_pos rfl] at H; exact H
                              clear H
                              have H := H1
                              clear H1
                              by_cases c60 : t301 = 0
                              · rw [if_pos c60] at H
                                have c60b0 : (t301 == 0) = true := beq_iff_eq.mpr c60
                                have c60b1 : (t301 != 0) = false := bne_eq_false_iff_eq.mpr c60
                                clear c60
                                replace H := Option.bind_eq_some_iff.mp H
                                obtain ⟨t305, A610, H⟩ := H
                                replace H : (some t305) = some r := H
                                have A61 := Aside0.mk A610
                                clear A610
                                obtain rfl := Option.some.inj H
                                obtain ⟨Ao62, co62, eo62⟩ := Kd.R_slice HO_9.out
                                subst eo62
                                go_wp2_with (first | ((with_reducible refine gate_callee (f := 19) rfl ?_); refine goesL_ (some 102) rfl rfl Try.func19 (by kernel_rfl) rfl #[.slice Ao62 t284.length co62, .int .i64 a2] rfl sl_ ?_; (with_reducible refine (cluster_Prune.calls kj34 _ _ t284 a2 t300 t301 _ ?side1 ?side2 A57.out).mono ?_); (case side1 => repeat (first | exact (Kd.R_reads' HO_9.out).2.2 | (with_reducible refine Kd.C_alloc ?_ _) | (with_reducible refine Kd.C_drewN ?_ _) | (with_reducible refine Kd.C_drew ?_))); (case side2 => exact (Kd.R_reads' HO_9.out).2.1); rintro e w63 ⟨v302, rfl, ho0, hb⟩; refine ⟨_, rfl, ?_⟩; have n0_ := Aside0.mk (Kd.R_elder' (by (with_reducible repeat (first | apply Kd.R_alloc | apply Kd.R_drewN | apply Kd.R_drew)); exact HO_9.out) (Kd.R_base ho0) hb); have n1_ := Aside0.mk (Kd.R_lower (Kd.R_new' ho0 (Kd.R_lt (by (with_reducible repeat (first | apply Kd.R_alloc | apply Kd.R_drewN | apply Kd.R_drew)); exact HO_9.out))) (below_size hb_)); have n2_ := Aside0.mk (below_step hb_ hb); clear HO_9; clear HB; have HO_9 := n0_; have HO303 := n1_; have HB := n2_; clear n0_ n1_ n2_; (try clear hb); (try clear hb2); (try clear hk); (try clear hi); (try clear ho0); obtain ⟨Ao64, co64, eo64⟩ := Kd.R_slice HO303.out; subst eo64) | ((with_reducible refine gate_callee (f := 12) rfl ?_); refine goesL_ (some 107) rfl rfl Try.func12 (by kernel_rfl) rfl #[.slice Ao62 t284.length co62, .slice Ao64 t300.length co64] rfl sl_ ?_; (with_reducible refine (timesynclaw25_same.calls kj34 _ _ t284 _ _ t300 true _ ?side1 ?side2 ?side3 ?side4 A58.out).mono ?_); (case side1 => repeat (first | exact (Kd.R_reads' HO_9.out).2.2 | (with_reducible refine Kd.C_alloc ?_ _) | (with_reducible refine Kd.C_drewN ?_ _) | (with_reducible refine Kd.C_drew ?_))); (case side2 => exact (Kd.R_reads' HO_9.out).2.1); (case side3 => repeat (first | exact (Kd.R_reads' HO303.out).2.2 | (with_reducible refine Kd.C_alloc ?_ _) | (with_reducible refine Kd.C_drewN ?_ _) | (with_reducible refine Kd.C_drew ?_))); (case side4 => exact (Kd.R_reads' HO303.out).2.1); rintro e w' ⟨rfl, ⟨nd, rfl⟩⟩; refine ⟨_, rfl, ?_⟩) | (go_at_call 9; (with_reducible refine (timesynclaw25_awake.calls kj34  t305 _ A61.out).mono ?_); rintro e w65 ⟨rfl, hb⟩; have n0_ := Aside0.mk (Kd.R_below (by (with_reducible repeat (first | apply Kd.R_alloc | apply Kd.R_drewN | apply Kd.R_drew)); exact HO_9.out) hb); have n1_ := Aside0.mk (Kd.R_below (by (with_reducible repeat (first | apply Kd.R_alloc | apply Kd.R_drewN | apply Kd.R_drew)); exact HO303.out) hb); have n2_ := Aside0.mk (below_step hb_ hb); clear HO_9; clear HO303; clear HB; have HO_9 := n0_; have HO303 := n1_; have HB := n2_; clear n0_ n1_ n2_; (try clear hb); (try clear hb2); (try clear hk); (try clear hi)))
                                go_ret
                                exact ⟨by first | rfl | (simp [errW_none, errW_some] <;> rfl) | (simp [*, errW_none, errW_some] <;> rfl), hb_⟩
                              · rw [if_neg c60] at H
                                have c60b0 : (t301 == 0) = false := beq_eq_false_iff_ne.mpr c60
                                have c60b1 : (t301 != 0) = true := bne_iff_ne.mpr c60
                                obtain rfl := Option.some.inj H
                                obtain ⟨Ao66, co66, eo66⟩ := Kd.R_slice HO_9.out
                                subst eo66
                                go_wp2_with (first | ((with_reducible refine gate_callee (f := 19) rfl ?_); refine goesL_ (some 102) rfl rfl Try.func19 (by kernel_rfl) rfl #[.slice Ao66 t284.length co66, .int .i64 a2] rfl sl_ ?_; (with_reducible refine (cluster_Prune.calls kj34 _ _ t284 a2 t300 t301 _ ?side1 ?side2 A57.out).mono ?_); (case side1 => repeat (first | exact (Kd.R_reads' HO_9.out).2.2 | (with_reducible refine Kd.C_alloc ?_ _) | (with_reducible refine Kd.C_drewN ?_ _) | (with_reducible refine Kd.C_drew ?_))); (case side2 => exact (Kd.R_reads' HO_9.out).2.1); rintro e w67 ⟨v302, rfl, ho0, hb⟩; refine ⟨_, rfl, ?_⟩; have n0_ := Aside0.mk (Kd.R_elder' (by (with_reducible repeat (first | apply Kd.R_alloc | apply Kd.R_drewN | apply Kd.R_drew)); exact HO_9.out) (Kd.R_base ho0) hb); have n1_ := Aside0.mk (Kd.R_lower (Kd.R_new' ho0 (Kd.R_lt (by (with_reducible repeat (first | apply Kd.R_alloc | apply Kd.R_drewN | apply Kd.R_drew)); exact HO_9.out))) (below_size hb_)); have n2_ := Aside0.mk (below_step hb_ hb); clear HO_9; clear HB; have HO_9 := n0_; have HO303 := n1_; have HB := n2_; clear n0_ n1_ n2_; (try clear hb); (try clear hb2); (try clear hk); (try clear hi); (try clear ho0); obtain ⟨Ao68, co68, eo68⟩ := Kd.R_slice HO303.out; subst eo68) | ((with_reducible refine gate_callee (f := 12) rfl ?_); refine goesL_ (some 107) rfl rfl Try.func12 (by kernel_rfl) rfl #[.slice Ao66 t284.length co66, .slice Ao68 t300.length co68] rfl sl_ ?_; (with_reducible refine (timesynclaw25_same.calls kj34 _ _ t284 _ _ t300 true _ ?side1 ?side2 ?side3 ?side4 A58.out).mono ?_); (case side1 => repeat (first | exact (Kd.R_reads' HO_9.out).2.2 | (with_reducible refine Kd.C_alloc ?_ _) | (with_reducible refine Kd.C_drewN ?_ _) | (with_reducible refine Kd.C_drew ?_))); (case side2 => exact (Kd.R_reads' HO_9.out).2.1); (case side3 => repeat (first | exact (Kd.R_reads' HO303.out).2.2 | (with_reducible refine Kd.C_alloc ?_ _) | (with_reducible refine Kd.C_drewN ?_ _) | (with_reducible refine Kd.C_drew ?_))); (case side4 => exact (Kd.R_reads' HO303.out).2.1); rintro e w' ⟨rfl, ⟨nd, rfl⟩⟩; refine ⟨_, rfl, ?_⟩))
                                go_ret
                                exact ⟨by first | rfl | (simp [errW_none, errW_some] <;> rfl) | (simp [*, errW_none, errW_some] <;> rfl), hb_⟩
                            · replace c59 := Bool.eq_false_iff.mpr c59
                              subst c59
                              have H1 : (some false) = some r := by rw [if_neg (show ¬ (false = true) by decide)] at H; exact H
                              clear H
                              have H := H1
                              clear H1
                              obtain rfl := Option.some.inj H
                              obtain ⟨Ao69, co69, eo69⟩ := Kd.R_slice HO_9.out
                              subst eo69
                              go_wp2_with (first | ((with_reducible refine gate_callee (f := 19) rfl ?_); refine goesL_ (some 102) rfl rfl Try.func19 (by kernel_rfl) rfl #[.slice Ao69 t284.length co69, .int .i64 a2] rfl sl_ ?_; (with_reducible refine (cluster_Prune.calls kj34 _ _ t284 a2 t300 t301 _ ?side1 ?side2 A57.out).mono ?_); (case side1 => repeat (first | exact (Kd.R_reads' HO_9.out).2.2 | (with_reducible refine Kd.C_alloc ?_ _) | (with_reducible refine Kd.C_drewN ?_ _) | (with_reducible refine Kd.C_drew ?_))); (case side2 => exact (Kd.R_reads' HO_9.out).2.1); rintro e w70 ⟨v302, rfl, ho0, hb⟩; refine ⟨_, rfl, ?_⟩; have n0_ := Aside0.mk (Kd.R_elder' (by (with_reducible repeat (first | apply Kd.R_alloc | apply Kd.R_drewN | apply Kd.R_drew)); exact HO_9.out) (Kd.R_base ho0) hb); have n1_ := Aside0.mk (Kd.R_lower (Kd.R_new' ho0 (Kd.R_lt (by (with_reducible repeat (first | apply Kd.R_alloc | apply Kd.R_drewN | apply Kd.R_drew)); exact HO_9.out))) (below_size hb_)); have n2_ := Aside0.mk (below_step hb_ hb); clear HO_9; clear HB; have HO_9 := n0_; have HO303 := n1_; have HB := n2_; clear n0_ n1_ n2_; (try clear hb); (try clear hb2); (try clear hk); (try clear hi); (try clear ho0); obtain ⟨Ao71, co71, eo71⟩ := Kd.R_slice HO303.out; subst eo71) | ((with_reducible refine gate_callee (f := 12) rfl ?_); refine goesL_ (some 107) rfl rfl Try.func12 (by kernel_rfl) rfl #[.slice Ao69 t284.length co69, .slice Ao71 t300.length co71] rfl sl_ ?_; (with_reducible refine (timesynclaw25_same.calls kj34 _ _ t284 _ _ t300 false _ ?side1 ?side2 ?side3 ?side4 A58.out).mono ?_); (case side1 => repeat (first | exact (Kd.R_reads' HO_9.out).2.2 | (with_reducible refine Kd.C_alloc ?_ _) | (with_reducible refine Kd.C_drewN ?_ _) | (with_reducible refine Kd.C_drew ?_))); (case side2 => exact (Kd.R_reads' HO_9.out).2.1); (case side3 => repeat (first | exact (Kd.R_reads' HO303.out).2.2 | (with_reducible refine Kd.C_alloc ?_ _) | (with_reducible refine Kd.C_drewN ?_ _) | (with_reducible refine Kd.C_drew ?_))); (case side4 => exact (Kd.R_reads' HO303.out).2.1); rintro e w' ⟨rfl, ⟨nd, rfl⟩⟩; refine ⟨_, rfl, ?_⟩))
                              go_ret
                              exact ⟨by first | rfl | (simp [errW_none, errW_some] <;> rfl) | (simp [*, errW_none, errW_some] <;> rfl), hb_⟩
                          · rw [if_neg c56] at H
                            have c56b0 : (t285 == 0) = false := beq_eq_false_iff_ne.mpr c56
                            have c56b1 : (t285 != 0) = true := bne_iff_ne.mpr c56
                            by_cases c72 : t285 = 3
                            · rw [if_pos c72] at H
                              have c72b0 : (t285 == 3) = true := beq_iff_eq.mpr c72
                              have c72b1 : (t285 != 3) = false := bne_eq_false_iff_eq.mpr c72
                              clear c72
                              by_cases c73 : a2 < 1
                              · rw [if_pos c73] at H
                                have c73b0 : decide (a2 < 1) = true := decide_eq_true c73
                                clear c73
                                replace H := Option.bind_eq_some_iff.mp H
                                obtain ⟨t306, A740, H⟩ := H
                                replace H : (some t306) = some r := H
                                have A74 := Aside0.mk A740
                                clear A740
                                obtain rfl := Option.some.inj H
                                go_wp2_with (first | (go_at_call 9; (with_reducible refine (timesynclaw25_awake.calls kj34  t306 _ A74.out).mono ?_); rintro e w75 ⟨rfl, hb⟩; have n0_ := Aside0.mk (Kd.R_below (by (with_reducible repeat (first | apply Kd.R_alloc | apply Kd.R_drewN | apply Kd.R_drew)); exact HO_9.out) hb); have n1_ := Aside0.mk (below_step hb_ hb); clear HO_9; clear HB; have HO_9 := n0_; have HB := n1_; clear n0_ n1_; (try clear hb); (try clear hb2); (try clear hk); (try clear hi)))
                                go_ret
                                exact ⟨by first | rfl | (simp [errW_none, errW_some] <;> rfl) | (simp [*, errW_none, errW_some] <;> rfl), hb_⟩
                              · rw [if_neg c73] at H
                                have c73b0 : decide (a2 < 1) = false := decide_eq_false c73
                                clear c73
                                obtain rfl := Option.some.inj H
                                go_wp2
                                go_ret
                                exact ⟨by first | rfl | (simp [errW_none, errW_some] <;> rfl) | (simp [*, errW_none, errW_some] <;> rfl), hb_⟩
                            · rw [if_neg c72] at H
                              have c72b0 : (t285 == 3) = false := beq_eq_false_iff_ne.mpr c72
                              have c72b1 : (t285 != 3) = true := bne_iff_ne.mpr c72
                              obtain rfl := Option.some.inj H
                              go_wp2
                              go_ret
                              exact ⟨by first | rfl | (simp [errW_none, errW_some] <;> rfl) | (simp [*, errW_none, errW_some] <;> rfl), hb_⟩

end Go.Proofs.Ytbcmfmlbagjdoaa.PAll
