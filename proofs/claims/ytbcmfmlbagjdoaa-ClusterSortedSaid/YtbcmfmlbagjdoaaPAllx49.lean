-- A text of this session, written by a program of its own (wip/tools).
import Derived.Test.YtbcmfmlbagjdoaaPAllx0
import Derived.Test.YtbcmfmlbagjdoaaPAllx1
import Derived.Test.YtbcmfmlbagjdoaaPAllx2
import Derived.Test.YtbcmfmlbagjdoaaPAllx3
import Derived.Test.YtbcmfmlbagjdoaaPAllx25
import Derived.Test.YtbcmfmlbagjdoaaPAllx26
import Derived.Test.YtbcmfmlbagjdoaaPAllx35
import Derived.Test.YtbcmfmlbagjdoaaPAllx48
namespace Go.Proofs.Ytbcmfmlbagjdoaa.PAll
open Go.RowKit Go.Proofs.YtbcmfmlbagjdoaaW.PrintWords Go.Proofs.YtbcmfmlbagjdoaaW.PrintLast Go.Proofs.YtbcmfmlbagjdoaaW.PrintMore
attribute [local go_sem] max2_int min2_int max_two min_two max_three min_three max_four min_four   -- for this text's walks alone
set_option linter.unusedVariables false
set_option linter.unusedSimpArgs false

attribute [local go_sem high] eqA34
/-! ### timesynclaw25_ClusterSorted: function 4 -/
mutual
def timesynclaw25_ClusterSorted.j0 : Nat → List (S34) → List (S34) → Bool → Option (Bool)
  | 0, _, _, _ => none
  | k + 1, x0, x3, x59 => if x59 = true then (some false) else (timesynclaw25_ClusterSorted.l0 k x0 x3 0)
def timesynclaw25_ClusterSorted.l0 : Nat → List (S34) → List (S34) → Int → Option (Bool)
  | 0, _, _, _ => none
  | k + 1, x0, x3, x6 => if x6 < (x3.length : Int) then (timesynclaw25_ClusterSorted.l1 k x0 x3 x6 false 0) else ((timesynclaw25_awake.f k).bind fun t251 => (some t251))
def timesynclaw25_ClusterSorted.l1 : Nat → List (S34) → List (S34) → Int → Bool → Int → Option (Bool)
  | 0, _, _, _, _, _ => none
  | k + 1, x0, x3, x6, x7, x8 => if x8 < (x0.length : Int) then (if x7 = true then (timesynclaw25_ClusterSorted.l1 k x0 x3 x6 true (wrap64 (x8 + 1))) else (if 0 ≤ x8 then (if 0 ≤ x6 then (if x6 < (x3.length : Int) then (timesynclaw25_ClusterSorted.l1 k x0 x3 x6 (((rd_T34 x0 x8).f0) == ((rd_T34 x3 x6).f0) && (((rd_T34 x0 x8).f1) == ((rd_T34 x3 x6).f1) && (((rd_T34 x0 x8).f2) == ((rd_T34 x3 x6).f2) && (((rd_T34 x0 x8).f3) == ((rd_T34 x3 x6).f3) && (((rd_T34 x0 x8).f4) == ((rd_T34 x3 x6).f4)))))) (wrap64 (x8 + 1))) else (none)) else (none)) else (none))) else (if x7 = true then (if x6 > 0 then (if 0 ≤ (wrap64 (x6 - 1)) then (if (wrap64 (x6 - 1)) < (x3.length : Int) then (if 0 ≤ x6 then (if x6 < (x3.length : Int) then ((timesynclaw25_rank.f ((rd_T34 x3 (wrap64 (x6 - 1))).f0) ((rd_T34 x3 (wrap64 (x6 - 1))).f1) ((rd_T34 x3 (wrap64 (x6 - 1))).f2) ((rd_T34 x3 (wrap64 (x6 - 1))).f3) ((rd_T34 x3 (wrap64 (x6 - 1))).f4) ((rd_T34 x3 x6).f0) ((rd_T34 x3 x6).f1) ((rd_T34 x3 x6).f2) ((rd_T34 x3 x6).f3) ((rd_T34 x3 x6).f4)).bind fun t256 => (if t256 = 1 then (timesynclaw25_ClusterSorted.l0 k x0 x3 (wrap64 (x6 + 1))) else (some false))) else (none)) else (none)) else (none)) else (none)) else (timesynclaw25_ClusterSorted.l0 k x0 x3 (wrap64 (x6 + 1)))) else (some false))
end
def timesynclaw25_ClusterSorted.f (k : Nat) (l0 : List (S34)) : Option (Bool) := (timesynclaw25_few.f l0).bind fun t241 => (if t241 = true then ((cluster_Order.f k l0).bind fun t243 => ((cluster_System.f k l0).bind fun bt246 => ((choose_Check.f k l0).bind fun t248 => (if t248 = 0 then (if (t243.length : Int) = (l0.length : Int) then (if bt246.2 = true then (if (l0.length : Int) > 0 then (if 0 < (t243.length : Int) then (timesynclaw25_ClusterSorted.j0 k l0 t243 (bt246.1 != ((rd_T34 t243 0).f0))) else (none)) else (timesynclaw25_ClusterSorted.j0 k l0 t243 true)) else (if (l0.length : Int) > 0 then (timesynclaw25_ClusterSorted.j0 k l0 t243 true) else (timesynclaw25_ClusterSorted.j0 k l0 t243 false))) else (timesynclaw25_ClusterSorted.j0 k l0 t243 true)) else (if (t243.length : Int) = 0 then (if bt246.1 = 0 then (if bt246.2 = true then (some false) else ((timesynclaw25_awake.f k).bind fun t249 => (some t249))) else (some false)) else (some false)))))) else ((timesynclaw25_awake.f k).bind fun t242 => (some t242)))
theorem timesynclaw25_ClusterSorted.mono_l : ∀ k, (∀ y0 y1 y2, LeO (timesynclaw25_ClusterSorted.j0 k y0 y1 y2) (timesynclaw25_ClusterSorted.j0 (k + 1) y0 y1 y2)) ∧ (∀ y0 y1 y2, LeO (timesynclaw25_ClusterSorted.l0 k y0 y1 y2) (timesynclaw25_ClusterSorted.l0 (k + 1) y0 y1 y2)) ∧ (∀ y0 y1 y2 y3 y4, LeO (timesynclaw25_ClusterSorted.l1 k y0 y1 y2 y3 y4) (timesynclaw25_ClusterSorted.l1 (k + 1) y0 y1 y2 y3 y4))
  | 0 => ⟨fun _ _ _ r h => by simp [timesynclaw25_ClusterSorted.j0] at h, fun _ _ _ r h => by simp [timesynclaw25_ClusterSorted.l0] at h, fun _ _ _ _ _ r h => by simp [timesynclaw25_ClusterSorted.l1] at h⟩
  | k + 1 => by
    obtain ⟨ih0, ih1, ih2⟩ := timesynclaw25_ClusterSorted.mono_l k
    refine ⟨?_, ?_, ?_⟩
    · intro y0 y1 y2
      unfold timesynclaw25_ClusterSorted.j0
      repeat' first
      | (with_reducible exact ih0 _ _ _)
      | (with_reducible exact ih1 _ _ _)
      | (with_reducible exact ih2 _ _ _ _ _)
      | (with_reducible exact choose_Check.mono _ _)
      | (with_reducible exact cluster_Order.mono _ _)
      | (with_reducible exact cluster_System.mono _ _)
      | (with_reducible exact timesynclaw25_awake.mono _)
      | (with_reducible exact LeO.refl _)
      | (with_reducible exact LeO.none _)
      | (with_reducible refine LeO.ite ?_ ?_)
      | (with_reducible refine LeO.bind ?_ (fun _ => ?_))
      | exact ih0 _ _ _
      | exact ih1 _ _ _
      | exact ih2 _ _ _ _ _
      | exact choose_Check.mono _ _
      | exact cluster_Order.mono _ _
      | exact cluster_System.mono _ _
      | exact timesynclaw25_awake.mono _
      | exact LeO.none _
      | refine LeO.ite ?_ ?_
      | refine LeO.bind ?_ (fun _ => ?_)
    · intro y0 y1 y2
      unfold timesynclaw25_ClusterSorted.l0
      repeat' first
      | (with_reducible exact ih0 _ _ _)
      | (with_reducible exact ih1 _ _ _)
      | (with_reducible exact ih2 _ _ _ _ _)
      | (with_reducible exact choose_Check.mono _ _)
      | (with_reducible exact cluster_Order.mono _ _)
      | (with_reducible exact cluster_System.mono _ _)
      | (with_reducible exact timesynclaw25_awake.mono _)
      | (with_reducible exact LeO.refl _)
      | (with_reducible exact LeO.none _)
      | (with_reducible refine LeO.ite ?_ ?_)
      | (with_reducible refine LeO.bind ?_ (fun _ => ?_))
      | exact ih0 _ _ _
      | exact ih1 _ _ _
      | exact ih2 _ _ _ _ _
      | exact choose_Check.mono _ _
      | exact cluster_Order.mono _ _
      | exact cluster_System.mono _ _
      | exact timesynclaw25_awake.mono _
      | exact LeO.none _
      | refine LeO.ite ?_ ?_
      | refine LeO.bind ?_ (fun _ => ?_)
    · intro y0 y1 y2 y3 y4
      unfold timesynclaw25_ClusterSorted.l1
      repeat' first
      | (with_reducible exact ih0 _ _ _)
      | (with_reducible exact ih1 _ _ _)
      | (with_reducible exact ih2 _ _ _ _ _)
      | (with_reducible exact choose_Check.mono _ _)
      | (with_reducible exact cluster_Order.mono _ _)
      | (with_reducible exact cluster_System.mono _ _)
      | (with_reducible exact timesynclaw25_awake.mono _)
      | (with_reducible exact LeO.refl _)
      | (with_reducible exact LeO.none _)
      | (with_reducible refine LeO.ite ?_ ?_)
      | (with_reducible refine LeO.bind ?_ (fun _ => ?_))
      | exact ih0 _ _ _
      | exact ih1 _ _ _
      | exact ih2 _ _ _ _ _
      | exact choose_Check.mono _ _
      | exact cluster_Order.mono _ _
      | exact cluster_System.mono _ _
      | exact timesynclaw25_awake.mono _
      | exact LeO.none _
      | refine LeO.ite ?_ ?_
      | refine LeO.bind ?_ (fun _ => ?_)
theorem timesynclaw25_ClusterSorted.mono : ∀ a0 k, LeO (timesynclaw25_ClusterSorted.f k a0) (timesynclaw25_ClusterSorted.f (k + 1) a0) := by
  intro a0 k
  obtain ⟨ih0, ih1, ih2⟩ := timesynclaw25_ClusterSorted.mono_l k
  unfold timesynclaw25_ClusterSorted.f
  repeat' first
      | (with_reducible exact ih0 _ _ _)
      | (with_reducible exact ih1 _ _ _)
      | (with_reducible exact ih2 _ _ _ _ _)
      | (with_reducible exact choose_Check.mono _ _)
      | (with_reducible exact cluster_Order.mono _ _)
      | (with_reducible exact cluster_System.mono _ _)
      | (with_reducible exact timesynclaw25_awake.mono _)
      | (with_reducible exact LeO.refl _)
      | (with_reducible exact LeO.none _)
      | (with_reducible refine LeO.ite ?_ ?_)
      | (with_reducible refine LeO.bind ?_ (fun _ => ?_))
      | exact ih0 _ _ _
      | exact ih1 _ _ _
      | exact ih2 _ _ _ _ _
      | exact choose_Check.mono _ _
      | exact cluster_Order.mono _ _
      | exact cluster_System.mono _ _
      | exact timesynclaw25_awake.mono _
      | exact LeO.none _
      | refine LeO.ite ?_ ?_
      | refine LeO.bind ?_ (fun _ => ?_)
def timesynclaw25_ClusterSorted.T16 : Bool × List (List Nat × List Nat) := (true, [([], []), ([0], [0]), ([1], [1]), ([1], [1]), ([2, 3, 1], [1, 2, 3]), ([4, 1], [1, 4]), ([1], [1]), ([1], [1]), ([6, 7, 1], [1, 6, 7]), ([8, 1], [1, 8]), ([5, 9, 1], [1, 5, 9]), ([1, 10], [1, 10]), ([11, 1, 0, 1, 2, 3, 4, 5, 6, 7, 8, 9, 10, 11], [0, 11])])
def timesynclaw25_ClusterSorted.B16 : List Nat := [0, 1, 3, 3, 15, 31, 3, 3, 195, 451, 1023, 2047, 4095]
theorem timesynclaw25_ClusterSorted.tab16 : rtab .any (opsOf Try.f4 16) = timesynclaw25_ClusterSorted.T16 := by kernel_rfl
theorem timesynclaw25_ClusterSorted.bits16 : waitsOk timesynclaw25_ClusterSorted.T16.2 timesynclaw25_ClusterSorted.B16 = true := by kernel_rfl
def timesynclaw25_ClusterSorted.T17 : Bool × List (List Nat × List Nat) := (true, [([], []), ([0], [0]), ([1], [1]), ([2], [2]), ([3, 2], [2, 3]), ([4, 2, 2], [2, 4]), ([5], [5]), ([5], [5]), ([7, 5], [5, 7]), ([6, 8, 5], [5, 6, 8]), ([9, 5], [5, 9]), ([5], [5]), ([5], [5]), ([11, 12, 5], [5, 11, 12]), ([13, 5], [5, 13]), ([10, 14, 5, 5], [5, 10, 14]), ([15, 5], [5, 15]), ([5, 16, 2], [2, 5, 16]), ([2, 17], [2, 17])])
def timesynclaw25_ClusterSorted.B17 : List Nat := [0, 1, 3, 7, 15, 31, 63, 63, 191, 511, 1023, 63, 63, 6207, 14399, 32767, 65535, 131071, 262143]
theorem timesynclaw25_ClusterSorted.tab17 : rtab .any (opsOf Try.f4 17) = timesynclaw25_ClusterSorted.T17 := by kernel_rfl
theorem timesynclaw25_ClusterSorted.bits17 : waitsOk timesynclaw25_ClusterSorted.T17.2 timesynclaw25_ClusterSorted.B17 = true := by kernel_rfl
abbrev b4_0 : Array Bool := #[false, false, false, false, false, false, false, false, false, false, false, false, false]
abbrev b4_1 : Array Bool := #[true, false, false, false, false, false, false, false, false, false, false, false, false]
abbrev b4_2 : Array Bool := #[true, true, false, false, false, false, false, false, false, false, false, false, false]
abbrev b4_3 : Array Bool := #[true, true, true, false, false, false, false, false, false, false, false, false, false]
abbrev b4_4 : Array Bool := #[true, true, true, true, false, false, false, false, false, false, false, false, false]
abbrev b4_5 : Array Bool := #[true, true, true, true, true, false, false, false, false, false, false, false, false]
abbrev b4_6 : Array Bool := #[true, true, true, true, true, true, false, false, false, false, false, false, false]
abbrev b4_7 : Array Bool := #[true, true, true, true, true, true, true, false, false, false, false, false, false]
abbrev b4_8 : Array Bool := #[true, true, true, true, true, true, true, true, false, false, false, false, false]
abbrev b4_9 : Array Bool := #[true, true, true, true, true, true, true, true, true, false, false, false, false]
abbrev b4_10 : Array Bool := #[true, true, true, true, true, true, true, true, true, true, false, false, false]
abbrev b4_11 : Array Bool := #[true, true, true, true, true, true, true, true, true, true, true, false, false]
abbrev b4_12 : Array Bool := #[true, true, true, true, true, true, true, true, true, true, true, true, false]
abbrev b4_13 : Array Bool := #[true, true, true, true, true, true, true, true, true, true, true, true, true]
abbrev b4_14 : Array Bool := #[true, true, true, true, true, false, true, false, false, false, false, false, false]
abbrev b4_15 : Array Bool := #[true, true, true, true, true, false, true, true, false, false, false, false, false]
abbrev b4_16 : Array Bool := #[true, true, true, true, true, false, true, true, true, false, false, false, false]
abbrev b4_17 : Array Bool := #[false, false, false, false, false, false, false, false, false, false, false, false, false, false, false, false, false, false, false]
abbrev b4_18 : Array Bool := #[true, false, false, false, false, false, false, false, false, false, false, false, false, false, false, false, false, false, false]
abbrev b4_19 : Array Bool := #[true, true, false, false, false, false, false, false, false, false, false, false, false, false, false, false, false, false, false]
abbrev b4_20 : Array Bool := #[true, true, true, false, false, false, false, false, false, false, false, false, false, false, false, false, false, false, false]
abbrev b4_21 : Array Bool := #[true, true, true, true, false, false, false, false, false, false, false, false, false, false, false, false, false, false, false]
abbrev b4_22 : Array Bool := #[true, true, true, true, true, false, false, false, false, false, false, false, false, false, false, false, false, false, false]
abbrev b4_23 : Array Bool := #[true, true, true, true, true, true, false, false, false, false, false, false, false, false, false, false, false, false, false]
abbrev b4_24 : Array Bool := #[true, true, true, true, true, true, true, false, false, false, false, false, false, false, false, false, false, false, false]
abbrev b4_25 : Array Bool := #[true, true, true, true, true, true, true, true, false, false, false, false, false, false, false, false, false, false, false]
abbrev b4_26 : Array Bool := #[true, true, true, true, true, true, true, true, true, false, false, false, false, false, false, false, false, false, false]
abbrev b4_27 : Array Bool := #[true, true, true, true, true, true, true, true, true, true, false, false, false, false, false, false, false, false, false]
abbrev b4_28 : Array Bool := #[true, true, true, true, true, true, true, true, true, true, false, true, false, false, false, false, false, false, false]
abbrev b4_29 : Array Bool := #[true, true, true, true, true, true, true, true, true, true, false, true, true, false, false, false, false, false, false]
abbrev b4_30 : Array Bool := #[true, true, true, true, true, true, true, true, true, true, false, true, true, true, false, false, false, false, false]
abbrev b4_31 : Array Bool := #[true, true, true, true, true, true, true, true, true, true, true, true, true, true, false, false, false, false, false]
abbrev b4_32 : Array Bool := #[true, true, true, true, true, true, true, true, true, true, true, true, true, true, true, false, false, false, false]
abbrev b4_33 : Array Bool := #[true, true, true, true, true, true, true, true, true, true, true, true, true, true, true, true, false, false, false]
abbrev b4_34 : Array Bool := #[true, true, true, true, true, true, true, true, true, true, true, true, true, true, true, true, true, false, false]
abbrev b4_35 : Array Bool := #[true, true, true, true, true, true, true, true, true, true, true, true, true, true, true, true, true, true, false]
abbrev b4_36 : Array Bool := #[true, true, true, true, true, true, true, true, true, true, true, true, true, true, true, true, true, true, true]
abbrev b4_37 : Array Bool := #[true, true, true, true, true, true, true, true, true, true, true, false, false, false, false, false, false, false, false]
abbrev b4_38 : Array Bool := #[true, true, true, true, true, true, true, true, true, true, true, true, false, false, false, false, false, false, false]
abbrev b4_39 : Array Bool := #[true, true, true, true, true, true, true, true, true, true, true, true, true, false, false, false, false, false, false]
set_option maxHeartbeats 8000000 in
set_option maxRecDepth 100000 in
theorem timesynclaw25_ClusterSorted.calls (k : Nat) (A0 : Option Addr) (c0 : Nat) (l0 : List (S34)) (r : Bool) (w : World) (hr0 : Kd.C k34 w A0 l0.length l0) (hc0 : l0.length ≤ c0) (h : timesynclaw25_ClusterSorted.f k l0 = some r) :
    Calls Try.prog 4 #[.slice A0 l0.length c0] w fun e w' => e = .returned (.bool r) ∧ Below w.heap.size w w' := by
  have hu34 := Try.underlying34
  have HR0 := Aside0.mk hr0
  have HC0 := Aside0.mk hc0
  clear hr0 hc0
  have HB := Aside0.mk (Below.refl w.heap.size w)
  have H : ((timesynclaw25_few.f l0).bind fun t241 => (if t241 = true then ((cluster_Order.f k l0).bind fun t243 => ((cluster_System.f k l0).bind fun bt246 => ((choose_Check.f k l0).bind fun t248 => (if t248 = 0 then (if (t243.length : Int) = (l0.length : Int) then (if bt246.2 = true then (if (l0.length : Int) > 0 then (if 0 < (t243.length : Int) then (timesynclaw25_ClusterSorted.j0 k l0 t243 (bt246.1 != ((rd_T34 t243 0).f0))) else (none)) else (timesynclaw25_ClusterSorted.j0 k l0 t243 true)) else (if (l0.length : Int) > 0 then (timesynclaw25_ClusterSorted.j0 k l0 t243 true) else (timesynclaw25_ClusterSorted.j0 k l0 t243 false))) else (timesynclaw25_ClusterSorted.j0 k l0 t243 true)) else (if (t243.length : Int) = 0 then (if bt246.1 = 0 then (if bt246.2 = true then (some false) else ((timesynclaw25_awake.f k).bind fun t249 => (some t249))) else (some false)) else (some false)))))) else ((timesynclaw25_awake.f k).bind fun t242 => (some t242)))) = some r := h
  clear h
  replace H := Option.bind_eq_some_iff.mp H
  obtain ⟨t241, A20, H⟩ := H
  replace H : (if t241 = true then ((cluster_Order.f k l0).bind fun t243 => ((cluster_System.f k l0).bind fun bt246 => ((choose_Check.f k l0).bind fun t248 => (if t248 = 0 then (if (t243.length : Int) = (l0.length : Int) then (if bt246.2 = true then (if (l0.length : Int) > 0 then (if 0 < (t243.length : Int) then (timesynclaw25_ClusterSorted.j0 k l0 t243 (bt246.1 != ((rd_T34 t243 0).f0))) else (none)) else (timesynclaw25_ClusterSorted.j0 k l0 t243 true)) else (if (l0.length : Int) > 0 then (timesynclaw25_ClusterSorted.j0 k l0 t243 true) else (timesynclaw25_ClusterSorted.j0 k l0 t243 false))) else (timesynclaw25_ClusterSorted.j0 k l0 t243 true)) else (if (t243.length : Int) = 0 then (if bt246.1 = 0 then (if bt246.2 = true then (some false) else ((timesynclaw25_awake.f k).bind fun t249 => (some t249))) else (some false)) else (some false)))))) else ((timesynclaw25_awake.f k).bind fun t242 => (some t242))) = some r := H
  have A2 := Aside0.mk A20
  clear A20
  by_cases c3 : t241 = true
  · subst c3
    have H1 : ((cluster_Order.f k l0).bind fun t243 => ((cluster_System.f k l0).bind fun bt246 => ((choose_Check.f k l0).bind fun t248 => (if t248 = 0 then (if (t243.length : Int) = (l0.length : Int) then (if bt246.2 = true then (if (l0.length : Int) > 0 then (if 0 < (t243.length : Int) then (timesynclaw25_ClusterSorted.j0 k l0 t243 (bt246.1 != ((rd_T34 t243 0).f0))) else (none)) else (timesynclaw25_ClusterSorted.j0 k l0 t243 true)) else (if (l0.length : Int) > 0 then (timesynclaw25_ClusterSorted.j0 k l0 t243 true) else (timesynclaw25_ClusterSorted.j0 k l0 t243 false))) else (timesynclaw25_ClusterSorted.j0 k l0 t243 true)) else (if (t243.length : Int) = 0 then (if bt246.1 = 0 then (if bt246.2 = true then (some false) else ((timesynclaw25_awake.f k).bind fun t249 => (some t249))) else (some false)) else (some false)))))) = some r := by rw [if_pos rfl] at H; exact H
    clear H
    have H := H1
    clear H1
    replace H := Option.bind_eq_some_iff.mp H
    obtain ⟨t243, A40, H⟩ := H
    replace H : ((cluster_System.f k l0).bind fun bt246 => ((choose_Check.f k l0).bind fun t248 => (if t248 = 0 then (if (t243.length : Int) = (l0.length : Int) then (if bt246.2 = true then (if (l0.length : Int) > 0 then (if 0 < (t243.length : Int) then (timesynclaw25_ClusterSorted.j0 k l0 t243 (bt246.1 != ((rd_T34 t243 0).f0))) else (none)) else (timesynclaw25_ClusterSorted.j0 k l0 t243 true)) else (if (l0.length : Int) > 0 then (timesynclaw25_ClusterSorted.j0 k l0 t243 true) else (timesynclaw25_ClusterSorted.j0 k l0 t243 false))) else (timesynclaw25_ClusterSorted.j0 k l0 t243 true)) else (if (t243.length : Int) = 0 then (if bt246.1 = 0 then (if bt246.2 = true then (some false) else ((timesynclaw25_awake.f k).bind fun t249 => (some t249))) else (some false)) else (some false))))) = some r := H
    have A4 := Aside0.mk A40
    clear A40
    replace H := Option.bind_eq_some_iff.mp H
    obtain ⟨⟨t246, t247⟩, A50, H⟩ := H
    replace H : ((choose_Check.f k l0).bind fun t248 => (if t248 = 0 then (if (t243.length : Int) = (l0.length : Int) then (if t247 = true then (if (l0.length : Int) > 0 then (if 0 < (t243.length : Int) then (timesynclaw25_ClusterSorted.j0 k l0 t243 (t246 != ((rd_T34 t243 0).f0))) else (none)) else (timesynclaw25_ClusterSorted.j0 k l0 t243 true)) else (if (l0.length : Int) > 0 then (timesynclaw25_ClusterSorted.j0 k l0 t243 true) else (timesynclaw25_ClusterSorted.j0 k l0 t243 false))) else (timesynclaw25_ClusterSorted.j0 k l0 t243 true)) else (if (t243.length : Int) = 0 then (if t246 = 0 then (if t247 = true then (some false) else ((timesynclaw25_awake.f k).bind fun t249 => (some t249))) else (some false)) else (some false)))) = some r := H
    have A5 := Aside0.mk A50
    clear A50
    replace H := Option.bind_eq_some_iff.mp H
    obtain ⟨t248, A60, H⟩ := H
    replace H : (if t248 = 0 then (if (t243.length : Int) = (l0.length : Int) then (if t247 = true then (if (l0.length : Int) > 0 then (if 0 < (t243.length : Int) then (timesynclaw25_ClusterSorted.j0 k l0 t243 (t246 != ((rd_T34 t243 0).f0))) else (none)) else (timesynclaw25_ClusterSorted.j0 k l0 t243 true)) else (if (l0.length : Int) > 0 then (timesynclaw25_ClusterSorted.j0 k l0 t243 true) else (timesynclaw25_ClusterSorted.j0 k l0 t243 false))) else (timesynclaw25_ClusterSorted.j0 k l0 t243 true)) else (if (t243.length : Int) = 0 then (if t246 = 0 then (if t247 = true then (some false) else ((timesynclaw25_awake.f k).bind fun t249 => (some t249))) else (some false)) else (some false))) = some r := H
    have A6 := Aside0.mk A60
    clear A60
    by_cases c7 : t248 = 0
    · rw [if_pos c7] at H
      have c7b0 : (t248 == 0) = true := beq_iff_eq.mpr c7
      have c7b1 : (t248 != 0) = false := bne_eq_false_iff_eq.mpr c7
      clear c7
      have HC8 := Aside0.mk H
      clear H
      go_enter Try.func4, Try.ntmps4
      go_upto_region 7 with (first | ((with_reducible refine gate_callee (f := 8) rfl ?_); refine goesL_ (some 10) rfl rfl Try.func8 (by kernel_rfl) rfl #[.slice A0 l0.length c0] rfl sl_ ?_; (with_reducible refine (timesynclaw25_few.calls _ _ l0 true _ ?side1 ?side2 A2.out).mono ?_); (case side1 => repeat (first | exact HR0.out | (with_reducible refine Kd.C_alloc ?_ _) | (with_reducible refine Kd.C_drewN ?_ _) | (with_reducible refine Kd.C_drew ?_))); (case side2 => exact HC0.out); rintro e w' ⟨rfl, ⟨nd, rfl⟩⟩; refine ⟨_, rfl, ?_⟩) | ((with_reducible refine gate_callee (f := 13) rfl ?_); refine goesL_ (some 14) rfl rfl Try.func13 (by kernel_rfl) rfl #[.slice A0 l0.length c0] rfl sl_ ?_; (with_reducible refine (cluster_Order.calls k _ _ l0 t243 _ ?side1 ?side2 A4.out).mono ?_); (case side1 => repeat (first | exact HR0.out | (with_reducible refine Kd.C_alloc ?_ _) | (with_reducible refine Kd.C_drewN ?_ _) | (with_reducible refine Kd.C_drew ?_))); (case side2 => exact HC0.out); rintro e w9 ⟨v244, rfl, ho0, hb⟩; refine ⟨_, rfl, ?_⟩; have n0_ := Aside0.mk (Kd.R_lower ho0 (below_size hb_)); have n1_ := Aside0.mk (below_step hb_ hb); clear HB; have HO245 := n0_; have HB := n1_; clear n0_ n1_; (try clear hb); (try clear hb2); (try clear hk); (try clear hi); (try clear ho0)) | ((with_reducible refine gate_callee (f := 10) rfl ?_); refine goesL_ (some 17) rfl rfl Try.func10 (by kernel_rfl) rfl #[.slice A0 l0.length c0] rfl sl_ ?_; (with_reducible refine (cluster_System.calls k _ _ l0 t246 t247 _ ?side1 ?side2 A5.out).mono ?_); (case side1 => repeat (first | exact (Kd.C_below HR0.out HB.out) | (with_reducible refine Kd.C_alloc ?_ _) | (with_reducible refine Kd.C_drewN ?_ _) | (with_reducible refine Kd.C_drew ?_))); (case side2 => exact HC0.out); rintro e w10 ⟨rfl, hb⟩; refine ⟨_, rfl, ?_⟩; have n0_ := Aside0.mk (Kd.R_below (by (with_reducible repeat (first | apply Kd.R_alloc | apply Kd.R_drewN | apply Kd.R_drew)); exact HO245.out) hb); have n1_ := Aside0.mk (below_step hb_ hb); clear HO245; clear HB; have HO245 := n0_; have HB := n1_; clear n0_ n1_; (try clear hb); (try clear hb2); (try clear hk); (try clear hi)) | ((with_reducible refine gate_callee (f := 17) rfl ?_); refine goesL_ (some 21) rfl rfl Try.func17 (by kernel_rfl) rfl #[.slice A0 l0.length c0] rfl sl_ ?_; (with_reducible refine (choose_Check.calls k _ _ l0 t248 _ ?side1 ?side2 A6.out).mono ?_); (case side1 => repeat (first | exact (Kd.C_below HR0.out HB.out) | (with_reducible refine Kd.C_alloc ?_ _) | (with_reducible refine Kd.C_drewN ?_ _) | (with_reducible refine Kd.C_drew ?_))); (case side2 => exact HC0.out); rintro e w11 ⟨rfl, hb⟩; refine ⟨_, rfl, ?_⟩; have n0_ := Aside0.mk (Kd.R_below (by (with_reducible repeat (first | apply Kd.R_alloc | apply Kd.R_drewN | apply Kd.R_drew)); exact HO245.out) hb); have n1_ := Aside0.mk (below_step hb_ hb); clear HO245; clear HB; have HO245 := n0_; have HB := n1_; clear n0_ n1_; (try clear hb); (try clear hb2); (try clear hk); (try clear hi)))
      (try simp only [Act.put, z1, z2, z3])
      go_cut [59] (fun v59 wc => ∃ (kq : Nat) (x59_7 : Bool), v59 = .bool x59_7 ∧ Aside0 (timesynclaw25_ClusterSorted.j0 kq l0 t243 x59_7 = some r) ∧ Aside0 (kq ≤ k) ∧ Aside0 (Kd.R k34 34 wc w.heap.size (fun _ => True) v244 t243) ∧ Aside0 (Below w.heap.size w wc))
      case first =>
        have H := HC8.out
        clear HC8
        by_cases c12 : (t243.length : Int) = (l0.length : Int)
        · rw [if_pos c12] at H
          have c12b0 : ((t243.length : Int) == (l0.length : Int)) = true := beq_iff_eq.mpr c12
          have c12b1 : ((t243.length : Int) != (l0.length : Int)) = false := bne_eq_false_iff_eq.mpr c12
          have c12b2 : (t243.length == l0.length) = true := by first | simpa using c12 | (simp at c12 ⊢; omega)
          clear c12
          (first | rw [c12b0] | (simp only [i64_w, i32_w]; rw [c12b0]) | skip)
          by_cases c13 : t247 = true
          · subst c13
            have H1 : (if (l0.length : Int) > 0 then (if 0 < (t243.length : Int) then (timesynclaw25_ClusterSorted.j0 k l0 t243 (t246 != ((rd_T34 t243 0).f0))) else (none)) else (timesynclaw25_ClusterSorted.j0 k l0 t243 true)) = some r := by rw [if_pos rfl] at H; exact H
            clear H
            have H := H1
            clear H1
            by_cases c14 : (l0.length : Int) > 0
            · rw [if_pos c14] at H
              have c14b0 : decide (0 < (l0.length : Int)) = true := decide_eq_true c14
              have c14b1 : decide (0 < l0.length) = true := decide_eq_true (by omega)
              clear c14
              by_cases c15 : 0 < (t243.length : Int)
              · rw [if_pos c15] at H
                have c15b0 : decide (0 < (t243.length : Int)) = true := decide_eq_true c15
                have c15b1 : decide (0 < t243.length) = true := decide_eq_true (by omega)
                clear c15
                have H' := Aside0.mk H
                clear H
                obtain ⟨Ao16, co16, eo16⟩ := Kd.R_slice HO245.out
                subst eo16
                have p250 : 0 ≤ (0 : Int) := (by omega)
                have q250 : 0 < (t243.length : Int) := of_decide_eq_true (by first | (with_reducible assumption) | assumption)
                obtain ⟨ad250, e250, hx250_0, hx250_1, hx250_2, hx250_3, hx250_4⟩ := at_T34 (Kd.R_reads' HO245.out).2.2 0 p250 q250
                cases e250
                have qi250 : (0 < t243.length) = True := eq_true (by omega)
                (try rw [show ((0 : Int)).toNat = 0 from rfl] at hx250_0)
                (try rw [show 0 * 5 = 0 from rfl] at hx250_0)
                (try rw [Addr.add_zero'] at hx250_0)
                (try rw [show ((0 : Int)).toNat = 0 from rfl] at hx250_1)
                (try rw [show 0 * 5 = 0 from rfl] at hx250_1)
                (try rw [Addr.add_zero'] at hx250_1)
                (try rw [show ((0 : Int)).toNat = 0 from rfl] at hx250_2)
                (try rw [show 0 * 5 = 0 from rfl] at hx250_2)
                (try rw [Addr.add_zero'] at hx250_2)
                (try rw [show ((0 : Int)).toNat = 0 from rfl] at hx250_3)
                (try rw [show 0 * 5 = 0 from rfl] at hx250_3)
                (try rw [Addr.add_zero'] at hx250_3)
                (try rw [show ((0 : Int)).toNat = 0 from rfl] at hx250_4)
                (try rw [show 0 * 5 = 0 from rfl] at hx250_4)
                (try rw [Addr.add_zero'] at hx250_4)
                replace p250 := eq_true p250
                replace q250 := eq_true q250
                go_wp2
                go_meet
                case rel => exact ⟨_, ((t246 != ((rd_T34 t243 0).f0))), (by first | rfl | (simp; done) | (simp [*]; done)), H', ⟨by first | omega | exact Nat.le_refl _⟩, ⟨by (with_reducible repeat (first | apply Kd.R_alloc | apply Kd.R_drewN | apply Kd.R_drew)); exact HO245.out⟩, ⟨hb_⟩⟩
              · rw [if_neg c15] at H
                exact absurd H (by simp)
            · rw [if_neg c14] at H
              have c14b0 : decide (0 < (l0.length : Int)) = false := decide_eq_false c14
              have c14b1 : decide (0 < l0.length) = false := decide_eq_false (by omega)
              clear c14
              have H' := Aside0.mk H
              clear H
              obtain ⟨Ao17, co17, eo17⟩ := Kd.R_slice HO245.out
              subst eo17
              go_wp2
              go_meet
              case rel => exact ⟨_, (true), (by first | rfl | (simp; done) | (simp [*]; done)), H', ⟨by first | omega | exact Nat.le_refl _⟩, ⟨by (with_reducible repeat (first | apply Kd.R_alloc | apply Kd.R_drewN | apply Kd.R_drew)); exact HO245.out⟩, ⟨hb_⟩⟩
          · replace c13 := Bool.eq_false_iff.mpr c13
            subst c13
            have H1 : (if (l0.length : Int) > 0 then (timesynclaw25_ClusterSorted.j0 k l0 t243 true) else (timesynclaw25_ClusterSorted.j0 k l0 t243 false)) = some r := by rw [if_neg (show ¬ (false = true) by decide)] at H; exact H
            clear H
            have H := H1
            clear H1
            by_cases c18 : (l0.length : Int) > 0
            · rw [if_pos c18] at H
              have c18b0 : decide (0 < (l0.length : Int)) = true := decide_eq_true c18
              have c18b1 : decide (0 < l0.length) = true := decide_eq_true (by omega)
              clear c18
              have H' := Aside0.mk H
              clear H
              obtain ⟨Ao19, co19, eo19⟩ := Kd.R_slice HO245.out
              subst eo19
              go_wp2
              go_meet
              case rel => exact ⟨_, (true), (by first | rfl | (simp; done) | (simp [*]; done)), H', ⟨by first | omega | exact Nat.le_refl _⟩, ⟨by (with_reducible repeat (first | apply Kd.R_alloc | apply Kd.R_drewN | apply Kd.R_drew)); exact HO245.out⟩, ⟨hb_⟩⟩
            · rw [if_neg c18] at H
              have c18b0 : decide (0 < (l0.length : Int)) = false := decide_eq_false c18
              have c18b1 : decide (0 < l0.length) = false := decide_eq_false (by omega)
              clear c18
              have H' := Aside0.mk H
              clear H
              obtain ⟨Ao20, co20, eo20⟩ := Kd.R_slice HO245.out
              subst eo20
              go_wp2
              go_meet
              case rel => exact ⟨_, (false), (by first | rfl | (simp; done) | (simp [*]; done)), H', ⟨by first | omega | exact Nat.le_refl _⟩, ⟨by (with_reducible repeat (first | apply Kd.R_alloc | apply Kd.R_drewN | apply Kd.R_drew)); exact HO245.out⟩, ⟨hb_⟩⟩
        · rw [if_neg c12] at H
          have c12b0 : ((t243.length : Int) == (l0.length : Int)) = false := beq_eq_false_iff_ne.mpr c12
          have c12b1 : ((t243.length : Int) != (l0.length : Int)) = true := bne_iff_ne.mpr c12
          have c12b2 : (t243.length == l0.length) = false := by first | simpa using c12 | (simp at c12 ⊢; omega)
          (first | rw [c12b0] | (simp only [i64_w, i32_w]; rw [c12b0]) | skip)
          have H' := Aside0.mk H
          clear H
          obtain ⟨Ao21, co21, eo21⟩ := Kd.R_slice HO245.out
          subst eo21
          go_wp2
          go_meet
          case rel => exact ⟨_, (true), (by first | rfl | (simp; done) | (simp [*]; done)), H', ⟨by first | omega | exact Nat.le_refl _⟩, ⟨by (with_reducible repeat (first | apply Kd.R_alloc | apply Kd.R_drewN | apply Kd.R_drew)); exact HO245.out⟩, ⟨hb_⟩⟩
      case rest =>
        clear HC8
        try clear c1
        try clear p2
        try clear q2
        try clear hx2
        try clear qi2
        try clear c3
        try clear c4
        try clear c7
        try clear c7b0
        try clear c7b1
        try clear c8
        try clear c10
        try clear c12
        try clear c12b0
        try clear c12b1
        try clear c12b2
        try clear c13
        try clear c14
        try clear c14b0
        try clear c14b1
        try clear c15
        try clear c15b0
        try clear c15b1
        try clear c17
        try clear c18
        try clear c18b0
        try clear c18b1
        try clear hx250_0
        try clear hx250_1
        try clear hx250_2
        try clear hx250_3
        try clear hx250_4
        try clear p250
        try clear q250
        obtain ⟨kq, x59_7, rfl, HA, HJ7, HO_3, HB⟩ := hcut
        cases kq with
        | zero => exact absurd HA.out (by simp [timesynclaw25_ClusterSorted.j0])
        | succ kj7 =>
          have H := HA.out
          clear HA
          simp only [timesynclaw25_ClusterSorted.j0] at H
          by_cases c22 : x59_7 = true
          · subst c22
            have H1 : (some false) = some r := by rw [if_pos rfl] at H; exact H
            clear H
            have H := H1
            clear H1
            obtain rfl := Option.some.inj H
            go_wp2
            go_ret
            exact ⟨by first | rfl | (simp [errW_none, errW_some] <;> rfl) | (simp [*, errW_none, errW_some] <;> rfl), hb_⟩
          · replace c22 := Bool.eq_false_iff.mpr c22
            subst c22
            have H1 : (timesynclaw25_ClusterSorted.l0 kj7 l0 t243 0) = some r := by rw [if_neg (show ¬ (false = true) by decide)] at H; exact H
            clear H
            have H := H1
            clear H1
            have H' := Aside0.mk H
            clear H
            go_wp2
            go_loopg [6] kj7 (fun kq v6 w' => ∃ (x6_2 : Int), v6 = .int .i64 x6_2 ∧ Aside0 (timesynclaw25_ClusterSorted.l0 kq l0 t243 x6_2 = some r) ∧ Aside0 (kq ≤ kj7) ∧ Aside0 (Kd.R k34 34 w' w.heap.size (fun _ => True) v244 t243) ∧ Aside0 (Below w.heap.size w w'))
            case atStart => exact ⟨(0), (by first | rfl | (simp; done) | (simp [*]; done)), H', ⟨Nat.le_refl _⟩, ⟨by (with_reducible repeat (first | apply Kd.R_alloc | apply Kd.R_drewN | apply Kd.R_drew)); exact HO_3.out⟩, ⟨hb_⟩⟩
            case round =>
              clear H'
              try clear c1
              try clear c2
              try clear p2
              try clear q2
              try clear hx2
              try clear qi2
              try clear c3
              try clear c4
              try clear c7
              try clear c7b0
              try clear c7b1
              try clear c8
              try clear c10
              try clear c12
              try clear c12b0
              try clear c12b1
              try clear c12b2
              try clear c13
              try clear c14
              try clear c14b0
              try clear c14b1
              try clear c15
              try clear c15b0
              try clear c15b1
              try clear c17
              try clear c18
              try clear c18b0
              try clear c18b1
              try clear c22
              try clear hx250_0
              try clear hx250_1
              try clear hx250_2
              try clear hx250_3
              try clear hx250_4
              try clear p2
              try clear p250
              try clear q2
              try clear q250
              obtain ⟨x6_2, rfl, HA, HK2, HO_3, HB⟩ := hrel
              cases gk with
              | zero => exact absurd HA.out (by simp [timesynclaw25_ClusterSorted.l0])
              | succ k2 =>
                have H := HA.out
                clear HA
                simp only [timesynclaw25_ClusterSorted.l0] at H
                by_cases c23 : x6_2 < (t243.length : Int)
                · rw [if_pos c23] at H
                  have c23b0 : decide (x6_2 < (t243.length : Int)) = true := decide_eq_true c23
                  clear c23
                  have H' := Aside0.mk H
                  clear H
                  obtain ⟨Ao24, co24, eo24⟩ := Kd.R_slice HO_3.out
                  subst eo24
                  go_wp2
                  go_loopg [7, 8] k2 (fun kq v7 v8 w' => ∃ (x7_3 : Bool) (x8_3 : Int), v7 = .bool x7_3 ∧ v8 = .int .i64 x8_3 ∧ Aside0 (timesynclaw25_ClusterSorted.l1 kq l0 t243 x6_2 x7_3 x8_3 = some r) ∧ Aside0 (kq ≤ k2) ∧ Aside0 (Kd.R k34 34 w' w.heap.size (fun _ => True) (.slice Ao24 t243.length co24) t243) ∧ Aside0 (Below w.heap.size w w'))
                  case atStart => exact ⟨(false), (0), (by first | rfl | (simp; done) | (simp [*]; done)), (by first | rfl | (simp; done) | (simp [*]; done)), H', ⟨Nat.le_refl _⟩, ⟨by (with_reducible repeat (first | apply Kd.R_alloc | apply Kd.R_drewN | apply Kd.R_drew)); exact HO_3.out⟩, ⟨hb_⟩⟩
                  case round =>
                    clear H'
                    try clear c1
                    try clear c2
                    try clear p2
                    try clear q2
                    try clear hx2
                    try clear qi2
                    try clear c3
                    try clear c4
                    try clear c7
                    try clear c7b0
                    try clear c7b1
                    try clear c8
                    try clear c10
                    try clear c12
                    try clear c12b0
                    try clear c12b1
                    try clear c12b2
                    try clear c13
                    try clear c14
                    try clear c14b0
                    try clear c14b1
                    try clear c15
                    try clear c15b0
                    try clear c15b1
                    try clear c17
                    try clear c18
                    try clear c18b0
                    try clear c18b1
                    try clear c22
                    try clear c23
                    try clear c23b0
                    try clear hx250_0
                    try clear hx250_1
                    try clear hx250_2
                    try clear hx250_3
                    try clear hx250_4
                    try clear p2
                    try clear p250
                    try clear q2
                    try clear q250
                    obtain ⟨x7_3, x8_3, rfl, rfl, HA, HK3, HO_3, HB⟩ := hrel
                    cases gk with
                    | zero => exact absurd HA.out (by simp [timesynclaw25_ClusterSorted.l1])
                    | succ k3 =>
                      have H := HA.out
                      clear HA
                      simp only [timesynclaw25_ClusterSorted.l1] at H
                      by_cases c25 : x8_3 < (l0.length : Int)
                      · rw [if_pos c25] at H
                        have c25b0 : decide (x8_3 < (l0.length : Int)) = true := decide_eq_true c25
                        clear c25
                        by_cases c26 : x7_3 = true
                        · subst c26
                          have H1 : (timesynclaw25_ClusterSorted.l1 k3 l0 t243 x6_2 true (wrap64 (x8_3 + 1))) = some r := by rw [if_pos rfl] at H; exact H
                          clear H
                          have H := H1
                          clear H1
                          have H' := Aside0.mk H
                          clear H
                          try go_wp2
                          have n0_ := Aside0.mk (Kd.R_drew HO_3.out)
                          have n1_ := Aside0.mk (below_drew1 HB.out)
                          clear HO_3
                          clear HB
                          have HO_3 := n0_
                          have HB := n1_
                          clear n0_ n1_
                          refine start_ (n := 13) (S := fun w' => True) (ds := []) b4_0 (by kernel_rfl) rfl rfl trivial (fun hHeld => ?_); refine with_tabW timesynclaw25_ClusterSorted.tab16 timesynclaw25_ClusterSorted.bits16 (fun HT_ HW_ => ?_)
                          generalize wr.drew = w27 at HO_3 HB hHeld ⊢
                          refine pure_ (i := 0) (N := some 72) (v := ?_) (a' := ?_) b4_1 rfl rfl (any_of HT_.out (by kernel_rfl)) (fun _ _ _ h => h) (Or.inl ⟨by rfl, ?_⟩) ?_ ?_
                          rotate_left
                          · intro w'
                            go_simp
                            with_reducible rfl
                          rotate_left
                          · simp only [Act.put, z1, z2, z3, i64_w, i32_w]
                            rfl
                          refine pure_ (i := 1) (N := some 73) (v := ?_) (a' := ?_) b4_2 rfl rfl (any_of HT_.out (by kernel_rfl)) (fun _ _ _ h => h) (Or.inl ⟨by rfl, ?_⟩) ?_ ?_
                          rotate_left
                          · intro w'
                            go_simp
                            with_reducible rfl
                          rotate_left
                          · simp only [Act.put, z1, z2, z3, i64_w, i32_w]
                            rfl
                          refine pure_ (i := 2) (N := some 74) (v := undef) (a' := ?_) b4_3 rfl rfl (any_of HT_.out (by kernel_rfl)) (fun _ _ _ h => h) (Or.inr ⟨by rfl, rfl⟩) ?_ ?_
                          rotate_left
                          · simp only [Act.put, z1, z2, z3, i64_w, i32_w]
                            rfl
                          refine pure_ (i := 3) (N := some 75) (v := undef) (a' := ?_) b4_4 rfl rfl (any_of HT_.out (by kernel_rfl)) (fun _ _ _ h => h) (Or.inr ⟨by rfl, rfl⟩) ?_ ?_
                          rotate_left
                          · simp only [Act.put, z1, z2, z3, i64_w, i32_w]
                            rfl
                          refine pure_ (i := 4) (N := some 76) (v := undef) (a' := ?_) b4_5 rfl rfl (any_of HT_.out (by kernel_rfl)) (fun _ _ _ h => h) (Or.inr ⟨by rfl, rfl⟩) ?_ ?_
                          rotate_left
                          · simp only [Act.put, z1, z2, z3, i64_w, i32_w]
                            rfl
                          refine pure_ (i := 5) (N := some 77) (v := undef) (a' := ?_) b4_6 rfl rfl (any_of HT_.out (by kernel_rfl)) (fun _ _ _ h => h) (Or.inr ⟨by rfl, rfl⟩) ?_ ?_
                          rotate_left
                          · simp only [Act.put, z1, z2, z3, i64_w, i32_w]
                            rfl
                          refine pure_ (i := 6) (N := some 78) (v := undef) (a' := ?_) b4_7 rfl rfl (any_of HT_.out (by kernel_rfl)) (fun _ _ _ h => h) (Or.inr ⟨by rfl, rfl⟩) ?_ ?_
                          rotate_left
                          · simp only [Act.put, z1, z2, z3, i64_w, i32_w]
                            rfl
                          refine pure_ (i := 7) (N := some 79) (v := undef) (a' := ?_) b4_8 rfl rfl (any_of HT_.out (by kernel_rfl)) (fun _ _ _ h => h) (Or.inr ⟨by rfl, rfl⟩) ?_ ?_
                          rotate_left
                          · simp only [Act.put, z1, z2, z3, i64_w, i32_w]
                            rfl
                          refine pure_ (i := 8) (N := some 80) (v := undef) (a' := ?_) b4_9 rfl rfl (any_of HT_.out (by kernel_rfl)) (fun _ _ _ h => h) (Or.inr ⟨by rfl, rfl⟩) ?_ ?_
                          rotate_left
                          · simp only [Act.put, z1, z2, z3, i64_w, i32_w]
                            rfl
                          refine pure_ (i := 9) (N := some 81) (v := undef) (a' := ?_) b4_10 rfl rfl (any_of HT_.out (by kernel_rfl)) (fun _ _ _ h => h) (Or.inr ⟨by rfl, rfl⟩) ?_ ?_
                          rotate_left
                          · simp only [Act.put, z1, z2, z3, i64_w, i32_w]
                            rfl
                          refine pure_ (i := 10) (N := some 82) (v := undef) (a' := ?_) b4_11 rfl rfl (any_of HT_.out (by kernel_rfl)) (fun _ _ _ h => h) (Or.inr ⟨by rfl, rfl⟩) ?_ ?_
                          rotate_left
                          · simp only [Act.put, z1, z2, z3, i64_w, i32_w]
                            rfl
                          refine pure_ (i := 11) (N := some 83) (v := ?_) (a' := ?_) b4_12 rfl rfl (any_of HT_.out (by kernel_rfl)) (fun _ _ _ h => h) (Or.inl ⟨by rfl, ?_⟩) ?_ ?_
                          rotate_left
                          · intro w'
                            go_simp
                            with_reducible rfl
                          rotate_left
                          · simp only [Act.put, z1, z2, z3, i64_w, i32_w]
                            rfl
                          refine pure_ (i := 12) (N := some 7) (v := ?_) (a' := ?_) b4_13 rfl rfl (any_of HT_.out (by kernel_rfl)) (fun _ _ _ h => h) (Or.inl ⟨by rfl, ?_⟩) ?_ ?_
                          rotate_left
                          · intro w'
                            go_simp
                            with_reducible rfl
                          rotate_left
                          · simp only [Act.put, z1, z2, z3, i64_w, i32_w]
                            rfl
                          refine done_ (done_of HT_.out (by kernel_rfl)) ?_
                          try go_wp2
                          go_roundg k3
                          case measure => have := HJ7.out; have := HK2.out; have := HK3.out; omega
                          case rel => exact ⟨(true), (wrap64 (x8_3 + 1)), (by first | rfl | (simp; done) | (simp [*]; done)), (by first | rfl | (simp; done) | (simp [*]; done)), H', ⟨by have := HJ7.out; have := HK2.out; have := HK3.out; omega⟩, ⟨by (with_reducible repeat (first | apply Kd.R_alloc | apply Kd.R_drewN | apply Kd.R_drew)); exact HO_3.out⟩, ⟨hb_⟩⟩
                        · replace c26 := Bool.eq_false_iff.mpr c26
                          subst c26
                          have H1 : (if 0 ≤ x8_3 then (if 0 ≤ x6_2 then (if x6_2 < (t243.length : Int) then (timesynclaw25_ClusterSorted.l1 k3 l0 t243 x6_2 (((rd_T34 l0 x8_3).f0) == ((rd_T34 t243 x6_2).f0) && (((rd_T34 l0 x8_3).f1) == ((rd_T34 t243 x6_2).f1) && (((rd_T34 l0 x8_3).f2) == ((rd_T34 t243 x6_2).f2) && (((rd_T34 l0 x8_3).f3) == ((rd_T34 t243 x6_2).f3) && (((rd_T34 l0 x8_3).f4) == ((rd_T34 t243 x6_2).f4)))))) (wrap64 (x8_3 + 1))) else (none)) else (none)) else (none)) = some r := by rw [if_neg (show ¬ (false = true) by decide)] at H; exact H
                          clear H
                          have H := H1
                          clear H1
                          by_cases c28 : 0 ≤ x8_3
                          · rw [if_pos c28] at H
                            have c28b0 : decide (0 ≤ x8_3) = true := decide_eq_true c28
                            clear c28
                            by_cases c29 : 0 ≤ x6_2
                            · rw [if_pos c29] at H
                              have c29b0 : decide (0 ≤ x6_2) = true := decide_eq_true c29
                              clear c29
                              by_cases c30 : x6_2 < (t243.length : Int)
                              · rw [if_pos c30] at H
                                have c30b0 : decide (x6_2 < (t243.length : Int)) = true := decide_eq_true c30
                                clear c30
                                have H' := Aside0.mk H
                                clear H
                                try go_wp2
                                have n0_ := Aside0.mk (Kd.R_drew HO_3.out)
                                have n1_ := Aside0.mk (below_drew1 HB.out)
                                clear HO_3
                                clear HB
                                have HO_3 := n0_
                                have HB := n1_
                                clear n0_ n1_
                                have p252 : 0 ≤ (x8_3 : Int) := of_decide_eq_true (by first | (with_reducible assumption) | assumption)
                                have q252 : x8_3 < (l0.length : Int) := of_decide_eq_true (by first | (with_reducible assumption) | assumption)
                                obtain ⟨ad252, e252, hx252_0, hx252_1, hx252_2, hx252_3, hx252_4⟩ := at_T34 HR0.out x8_3 p252 q252
                                have hw252_4 := hx252_4
                                have hw252_3 := hx252_3
                                have hw252_2 := hx252_2
                                have hw252_1 := hx252_1
                                have hw252_0 := hx252_0
                                cases e252
                                replace hx252_0 := (HB.out.cell (World.block_lt_of_cell? w _ hx252_0)).trans hx252_0
                                replace hx252_1 := (HB.out.cell (World.block_lt_of_cell? w _ hx252_1)).trans hx252_1
                                replace hx252_2 := (HB.out.cell (World.block_lt_of_cell? w _ hx252_2)).trans hx252_2
                                replace hx252_3 := (HB.out.cell (World.block_lt_of_cell? w _ hx252_3)).trans hx252_3
                                replace hx252_4 := (HB.out.cell (World.block_lt_of_cell? w _ hx252_4)).trans hx252_4
                                replace p252 := eq_true p252
                                replace q252 := eq_true q252
                                have p253 : 0 ≤ (x6_2 : Int) := of_decide_eq_true (by first | (with_reducible assumption) | assumption)
                                have q253 : x6_2 < (t243.length : Int) := of_decide_eq_true (by first | (with_reducible assumption) | assumption)
                                obtain ⟨ad253, e253, hx253_0, hx253_1, hx253_2, hx253_3, hx253_4⟩ := at_T34 (Kd.R_reads' HO_3.out).2.2 x6_2 p253 q253
                                cases e253
                                replace p253 := eq_true p253
                                replace q253 := eq_true q253
                                refine start_ (n := 13) (S := fun w' => w'.cell? (ad252.add ((x8_3).toNat * 5)) = some (.int .i64 ((rd_T34 l0 x8_3).f0)) ∧ w'.cell? ⟨(ad252.add ((x8_3).toNat * 5)).block, (ad252.add ((x8_3).toNat * 5)).off + 1, none⟩ = some (.int .i64 ((rd_T34 l0 x8_3).f1)) ∧ w'.cell? ⟨(ad252.add ((x8_3).toNat * 5)).block, (ad252.add ((x8_3).toNat * 5)).off + 2, none⟩ = some (.int .i64 ((rd_T34 l0 x8_3).f2)) ∧ w'.cell? ⟨(ad252.add ((x8_3).toNat * 5)).block, (ad252.add ((x8_3).toNat * 5)).off + 3, none⟩ = some (.int .i64 ((rd_T34 l0 x8_3).f3)) ∧ w'.cell? ⟨(ad252.add ((x8_3).toNat * 5)).block, (ad252.add ((x8_3).toNat * 5)).off + 4, none⟩ = some (.int .i64 ((rd_T34 l0 x8_3).f4)) ∧ w'.cell? (ad253.add ((x6_2).toNat * 5)) = some (.int .i64 ((rd_T34 t243 x6_2).f0)) ∧ w'.cell? ⟨(ad253.add ((x6_2).toNat * 5)).block, (ad253.add ((x6_2).toNat * 5)).off + 1, none⟩ = some (.int .i64 ((rd_T34 t243 x6_2).f1)) ∧ w'.cell? ⟨(ad253.add ((x6_2).toNat * 5)).block, (ad253.add ((x6_2).toNat * 5)).off + 2, none⟩ = some (.int .i64 ((rd_T34 t243 x6_2).f2)) ∧ w'.cell? ⟨(ad253.add ((x6_2).toNat * 5)).block, (ad253.add ((x6_2).toNat * 5)).off + 3, none⟩ = some (.int .i64 ((rd_T34 t243 x6_2).f3)) ∧ w'.cell? ⟨(ad253.add ((x6_2).toNat * 5)).block, (ad253.add ((x6_2).toNat * 5)).off + 4, none⟩ = some (.int .i64 ((rd_T34 t243 x6_2).f4))) (ds := []) b4_0 (by kernel_rfl) rfl rfl ⟨((HB.out.cell (World.block_lt_of_cell? w _ hw252_0)).trans hw252_0), ((HB.out.cell (World.block_lt_of_cell? w _ hw252_1)).trans hw252_1), ((HB.out.cell (World.block_lt_of_cell? w _ hw252_2)).trans hw252_2), ((HB.out.cell (World.block_lt_of_cell? w _ hw252_3)).trans hw252_3), ((HB.out.cell (World.block_lt_of_cell? w _ hw252_4)).trans hw252_4), hx253_0, hx253_1, hx253_2, hx253_3, hx253_4⟩ (fun hHeld => ?_); refine with_tabW timesynclaw25_ClusterSorted.tab16 timesynclaw25_ClusterSorted.bits16 (fun HT_ HW_ => ?_)
                                generalize wr.drew = w31 at HO_3 HB hx252_0 hx252_1 hx252_2 hx252_3 hx252_4 hx253_0 hx253_1 hx253_2 hx253_3 hx253_4 hHeld ⊢
                                refine pure_ (i := 0) (N := some 72) (v := ?_) (a' := ?_) b4_1 rfl rfl (any_of HT_.out (by kernel_rfl)) (fun _ _ _ h => h) (Or.inl ⟨by rfl, ?_⟩) ?_ ?_
                                rotate_left
                                · intro w'
                                  go_simp
                                  with_reducible rfl
                                rotate_left
                                · simp only [Act.put, z1, z2, z3, i64_w, i32_w]
                                  rfl
                                refine pure_ (i := 1) (N := some 73) (v := ?_) (a' := ?_) b4_2 rfl rfl (any_of HT_.out (by kernel_rfl)) (fun _ _ _ h => h) (Or.inl ⟨by rfl, ?_⟩) ?_ ?_
                                rotate_left
                                · intro w'
                                  go_simp
                                  with_reducible rfl
                                rotate_left
                                · simp only [Act.put, z1, z2, z3, i64_w, i32_w]
                                  rfl
                                refine pure_ (i := 2) (N := some 74) (v := ?_) (a' := ?_) b4_3 rfl rfl (any_of HT_.out (by kernel_rfl)) (fun _ _ _ h => h) (Or.inl ⟨by rfl, ?_⟩) ?_ ?_
                                rotate_left
                                · intro w'
                                  go_simp
                                  with_reducible rfl
                                rotate_left
                                · simp only [Act.put, z1, z2, z3, i64_w, i32_w]
                                  rfl
                                refine pure_ (i := 3) (N := some 75) (v := ?_) (a' := ?_) b4_4 rfl rfl (any_of HT_.out (by kernel_rfl)) (fun _ _ _ h => h) (Or.inl ⟨by rfl, ?_⟩) ?_ ?_
                                rotate_left
                                · intro w'
                                  go_simp
                                  with_reducible rfl
                                rotate_left
                                · simp only [Act.put, z1, z2, z3, i64_w, i32_w]
                                  rfl
                                refine pure_ (i := 4) (N := some 76) (v := ?_) (a' := ?_) b4_5 rfl rfl (any_of HT_.out (by kernel_rfl)) (fun _ _ _ h => h) (Or.inl ⟨by rfl, ?_⟩) ?_ ?_
                                rotate_left
                                · intro w'
                                  go_simp
                                  with_reducible rfl
                                rotate_left
                                · simp only [Act.put, z1, z2, z3, i64_w, i32_w]
                                  rfl
                                refine pure_ (i := 6) (N := some 78) (v := ?_) (a' := ?_) b4_14 rfl rfl (any_of HT_.out (by kernel_rfl)) (fun _ _ _ h => h) (Or.inl ⟨by rfl, ?_⟩) ?_ ?_
                                rotate_left
                                · intro w'
                                  go_simp
                                  with_reducible rfl
                                rotate_left
                                · simp only [Act.put, z1, z2, z3, i64_w, i32_w]
                                  rfl
                                refine pure_ (i := 7) (N := some 79) (v := ?_) (a' := ?_) b4_15 rfl rfl (any_of HT_.out (by kernel_rfl)) (fun _ _ _ h => h) (Or.inl ⟨by rfl, ?_⟩) ?_ ?_
                                rotate_left
                                · intro w'
                                  go_simp
                                  with_reducible rfl
                                rotate_left
                                · simp only [Act.put, z1, z2, z3, i64_w, i32_w]
                                  rfl
                                refine pure_ (i := 8) (N := some 80) (v := ?_) (a' := ?_) b4_16 rfl rfl (any_of HT_.out (by kernel_rfl)) (fun _ _ _ h => h) (Or.inl ⟨by rfl, ?_⟩) ?_ ?_
                                rotate_left
                                · intro w'
                                  go_simp
                                  with_reducible rfl
                                rotate_left
                                · simp only [Act.put, z1, z2, z3, i64_w, i32_w]
                                  rfl
                                refine take_ (i := 5) (N := some 77) (v := ?_) (a' := ?_) b4_9 rfl rfl (take_ofW HT_.out HW_.out (by kernel_rfl)) (fun _ _ _ h => h) (Or.inl ⟨by rfl, ?_⟩) hHeld ?_ ?_
                                rotate_left
                                · rintro w' ⟨s0, s1, s2, s3, s4, s5, s6, s7, s8, s9⟩
                                  go_simp
                                  with_reducible rfl
                                rotate_left
                                · simp only [Act.put, z1, z2, z3, i64_w, i32_w]
                                  rfl
                                refine take_ (i := 9) (N := some 81) (v := ?_) (a' := ?_) b4_10 rfl rfl (take_ofW HT_.out HW_.out (by kernel_rfl)) (fun _ _ _ h => h) (Or.inl ⟨by rfl, ?_⟩) hHeld ?_ ?_
                                rotate_left
                                · rintro w' ⟨s0, s1, s2, s3, s4, s5, s6, s7, s8, s9⟩
                                  go_simp
                                  with_reducible rfl
                                rotate_left
                                · simp only [Act.put, z1, z2, z3, i64_w, i32_w]
                                  rfl
                                refine pure_ (i := 10) (N := some 82) (v := ?_) (a' := ?_) b4_11 rfl rfl (any_of HT_.out (by kernel_rfl)) (fun _ _ _ h => h) (Or.inl ⟨by rfl, ?_⟩) ?_ ?_
                                rotate_left
                                · intro w'
                                  go_simp
                                  with_reducible rfl
                                rotate_left
                                · simp only [Act.put, z1, z2, z3, i64_w, i32_w]
                                  rfl
                                refine pure_ (i := 11) (N := some 83) (v := ?_) (a' := ?_) b4_12 rfl rfl (any_of HT_.out (by kernel_rfl)) (fun _ _ _ h => h) (Or.inl ⟨by rfl, ?_⟩) ?_ ?_
                                rotate_left
                                · intro w'
                                  go_simp
                                  with_reducible rfl
                                rotate_left
                                · simp only [Act.put, z1, z2, z3, i64_w, i32_w]
                                  rfl
                                refine pure_ (i := 12) (N := some 7) (v := ?_) (a' := ?_) b4_13 rfl rfl (any_of HT_.out (by kernel_rfl)) (fun _ _ _ h => h) (Or.inl ⟨by rfl, ?_⟩) ?_ ?_
                                rotate_left
                                · intro w'
                                  go_simp
                                  with_reducible rfl
                                rotate_left
                                · simp only [Act.put, z1, z2, z3, i64_w, i32_w]
                                  rfl
                                refine done_ (done_of HT_.out (by kernel_rfl)) ?_
                                try go_wp2
                                go_roundg k3
                                case measure => have := HJ7.out; have := HK2.out; have := HK3.out; omega
                                case rel => exact ⟨((((rd_T34 l0 x8_3).f0) == ((rd_T34 t243 x6_2).f0) && (((rd_T34 l0 x8_3).f1) == ((rd_T34 t243 x6_2).f1) && (((rd_T34 l0 x8_3).f2) == ((rd_T34 t243 x6_2).f2) && (((rd_T34 l0 x8_3).f3) == ((rd_T34 t243 x6_2).f3) && (((rd_T34 l0 x8_3).f4) == ((rd_T34 t243 x6_2).f4))))))), (wrap64 (x8_3 + 1)), (by first | rfl | (simp; done) | (simp [*]; done)), (by first | rfl | (simp; done) | (simp [*]; done)), H', ⟨by have := HJ7.out; have := HK2.out; have := HK3.out; omega⟩, ⟨by (with_reducible repeat (first | apply Kd.R_alloc | apply Kd.R_drewN | apply Kd.R_drew)); exact HO_3.out⟩, ⟨hb_⟩⟩
                              · rw [if_neg c30] at H
                                exact absurd H (by simp)
                            · rw [if_neg c29] at H
                              exact absurd H (by simp)
                          · rw [if_neg c28] at H
                            exact absurd H (by simp)
                      · rw [if_neg c25] at H
                        have c25b0 : decide (x8_3 < (l0.length : Int)) = false := decide_eq_false c25
                        clear c25
                        by_cases c32 : x7_3 = true
                        · subst c32
                          have H1 : (if x6_2 > 0 then (if 0 ≤ (wrap64 (x6_2 - 1)) then (if (wrap64 (x6_2 - 1)) < (t243.length : Int) then (if 0 ≤ x6_2 then (if x6_2 < (t243.length : Int) then ((timesynclaw25_rank.f ((rd_T34 t243 (wrap64 (x6_2 - 1))).f0) ((rd_T34 t243 (wrap64 (x6_2 - 1))).f1) ((rd_T34 t243 (wrap64 (x6_2 - 1))).f2) ((rd_T34 t243 (wrap64 (x6_2 - 1))).f3) ((rd_T34 t243 (wrap64 (x6_2 - 1))).f4) ((rd_T34 t243 x6_2).f0) ((rd_T34 t243 x6_2).f1) ((rd_T34 t243 x6_2).f2) ((rd_T34 t243 x6_2).f3) ((rd_T34 t243 x6_2).f4)).bind fun t256 => (if t256 = 1 then (timesynclaw25_ClusterSorted.l0 k3 l0 t243 (wrap64 (x6_2 + 1))) else (some false))) else (none)) else (none)) else (none)) else (none)) else (timesynclaw25_ClusterSorted.l0 k3 l0 t243 (wrap64 (x6_2 + 1)))) = some r := by rw [if_pos rfl] at H; exact H
                          clear H
                          have H := H1
                          clear H1
                          by_cases c33 : x6_2 > 0
                          · rw [if_pos c33] at H
                            have c33b0 : decide (0 < x6_2) = true := decide_eq_true c33
                            clear c33
                            obtain ⟨ji34, hji34⟩ : ∃ j_ : Int, (wrap64 (x6_2 - 1)) = j_ := ⟨_, rfl⟩
                            replace H : (if 0 ≤ (ji34) then (if (ji34) < (t243.length : Int) then (if 0 ≤ x6_2 then (if x6_2 < (t243.length : Int) then ((timesynclaw25_rank.f ((rd_T34 t243 (ji34)).f0) ((rd_T34 t243 (ji34)).f1) ((rd_T34 t243 (ji34)).f2) ((rd_T34 t243 (ji34)).f3) ((rd_T34 t243 (ji34)).f4) ((rd_T34 t243 x6_2).f0) ((rd_T34 t243 x6_2).f1) ((rd_T34 t243 x6_2).f2) ((rd_T34 t243 x6_2).f3) ((rd_T34 t243 x6_2).f4)).bind fun t256 => (if t256 = 1 then (timesynclaw25_ClusterSorted.l0 k3 l0 t243 (wrap64 (x6_2 + 1))) else (some false))) else (none)) else (none)) else (none)) else (none)) = some r := by first | (rw [hji34] at H; exact H) | (simp only [hji34] at H ⊢; exact H)
                            have hji34w : (IntKind.i64.wrap (x6_2 - 1)) = ji34 := (i64_w _).trans hji34
                            by_cases c35 : 0 ≤ (ji34)
                            · rw [if_pos c35] at H
                              have c35b0 : decide (0 ≤ (ji34)) = true := decide_eq_true c35
                              clear c35
                              by_cases c36 : (ji34) < (t243.length : Int)
                              · rw [if_pos c36] at H
                                have c36b0 : decide ((ji34) < (t243.length : Int)) = true := decide_eq_true c36
                                clear c36
                                by_cases c37 : 0 ≤ x6_2
                                · rw [if_pos c37] at H
                                  have c37b0 : decide (0 ≤ x6_2) = true := decide_eq_true c37
                                  clear c37
                                  by_cases c38 : x6_2 < (t243.length : Int)
                                  · rw [if_pos c38] at H
                                    have c38b0 : decide (x6_2 < (t243.length : Int)) = true := decide_eq_true c38
                                    clear c38
                                    replace H := Option.bind_eq_some_iff.mp H
                                    obtain ⟨t256, A390, H⟩ := H
                                    replace H : (if t256 = 1 then (timesynclaw25_ClusterSorted.l0 k3 l0 t243 (wrap64 (x6_2 + 1))) else (some false)) = some r := H
                                    have A39 := Aside0.mk A390
                                    clear A390
                                    by_cases c40 : t256 = 1
                                    · rw [if_pos c40] at H
                                      have c40b0 : (t256 == 1) = true := beq_iff_eq.mpr c40
                                      have c40b1 : (t256 != 1) = false := bne_eq_false_iff_eq.mpr c40
                                      clear c40
                                      have H' := Aside0.mk H
                                      clear H
                                      try go_wp2
                                      have n0_ := Aside0.mk (Kd.R_drew HO_3.out)
                                      have n1_ := Aside0.mk (below_drew1 HB.out)
                                      clear HO_3
                                      clear HB
                                      have HO_3 := n0_
                                      have HB := n1_
                                      clear n0_ n1_
                                      have p254 : 0 ≤ ((ji34) : Int) := of_decide_eq_true (by first | (with_reducible assumption) | assumption)
                                      have q254 : (ji34) < (t243.length : Int) := of_decide_eq_true (by first | (with_reducible assumption) | assumption)
                                      obtain ⟨ad254, e254, hx254_0, hx254_1, hx254_2, hx254_3, hx254_4⟩ := at_T34 (Kd.R_reads' HO_3.out).2.2 (ji34) p254 q254
                                      cases e254
                                      replace p254 := eq_true p254
                                      replace q254 := eq_true q254
                                      have p255 : 0 ≤ (x6_2 : Int) := of_decide_eq_true (by first | (with_reducible assumption) | assumption)
                                      have q255 : x6_2 < (t243.length : Int) := of_decide_eq_true (by first | (with_reducible assumption) | assumption)
                                      obtain ⟨ad255, e255, hx255_0, hx255_1, hx255_2, hx255_3, hx255_4⟩ := at_T34 (Kd.R_reads' HO_3.out).2.2 x6_2 p255 q255
                                      obtain rfl : ad254 = ad255 := (by injection e255)
                                      replace p255 := eq_true p255
                                      replace q255 := eq_true q255
                                      refine start_ (n := 19) (S := fun w' => w'.cell? (ad254.add (((ji34)).toNat * 5)) = some (.int .i64 ((rd_T34 t243 (ji34)).f0)) ∧ w'.cell? ⟨(ad254.add (((ji34)).toNat * 5)).block, (ad254.add (((ji34)).toNat * 5)).off + 1, none⟩ = some (.int .i64 ((rd_T34 t243 (ji34)).f1)) ∧ w'.cell? ⟨(ad254.add (((ji34)).toNat * 5)).block, (ad254.add (((ji34)).toNat * 5)).off + 2, none⟩ = some (.int .i64 ((rd_T34 t243 (ji34)).f2)) ∧ w'.cell? ⟨(ad254.add (((ji34)).toNat * 5)).block, (ad254.add (((ji34)).toNat * 5)).off + 3, none⟩ = some (.int .i64 ((rd_T34 t243 (ji34)).f3)) ∧ w'.cell? ⟨(ad254.add (((ji34)).toNat * 5)).block, (ad254.add (((ji34)).toNat * 5)).off + 4, none⟩ = some (.int .i64 ((rd_T34 t243 (ji34)).f4)) ∧ w'.cell? (ad254.add ((x6_2).toNat * 5)) = some (.int .i64 ((rd_T34 t243 x6_2).f0)) ∧ w'.cell? ⟨(ad254.add ((x6_2).toNat * 5)).block, (ad254.add ((x6_2).toNat * 5)).off + 1, none⟩ = some (.int .i64 ((rd_T34 t243 x6_2).f1)) ∧ w'.cell? ⟨(ad254.add ((x6_2).toNat * 5)).block, (ad254.add ((x6_2).toNat * 5)).off + 2, none⟩ = some (.int .i64 ((rd_T34 t243 x6_2).f2)) ∧ w'.cell? ⟨(ad254.add ((x6_2).toNat * 5)).block, (ad254.add ((x6_2).toNat * 5)).off + 3, none⟩ = some (.int .i64 ((rd_T34 t243 x6_2).f3)) ∧ w'.cell? ⟨(ad254.add ((x6_2).toNat * 5)).block, (ad254.add ((x6_2).toNat * 5)).off + 4, none⟩ = some (.int .i64 ((rd_T34 t243 x6_2).f4))) (ds := []) b4_17 (by kernel_rfl) rfl rfl ⟨hx254_0, hx254_1, hx254_2, hx254_3, hx254_4, hx255_0, hx255_1, hx255_2, hx255_3, hx255_4⟩ (fun hHeld => ?_); refine with_tabW timesynclaw25_ClusterSorted.tab17 timesynclaw25_ClusterSorted.bits17 (fun HT_ HW_ => ?_)
                                      generalize wr.drew = w41 at HO_3 HB hx254_0 hx254_1 hx254_2 hx254_3 hx254_4 hx255_0 hx255_1 hx255_2 hx255_3 hx255_4 hHeld ⊢
                                      refine pure_ (i := 0) (N := some 84) (v := ?_) (a' := ?_) b4_18 rfl rfl (any_of HT_.out (by kernel_rfl)) (fun _ _ _ h => h) (Or.inl ⟨by rfl, ?_⟩) ?_ ?_
                                      rotate_left
                                      · intro w'
                                        go_simp
                                        with_reducible rfl
                                      rotate_left
                                      · simp only [Act.put, z1, z2, z3, i64_w, i32_w]
                                        rfl
                                      refine pure_ (i := 1) (N := some 85) (v := ?_) (a' := ?_) b4_19 rfl rfl (any_of HT_.out (by kernel_rfl)) (fun _ _ _ h => h) (Or.inl ⟨by rfl, ?_⟩) ?_ ?_
                                      rotate_left
                                      · intro w'
                                        go_simp
                                        with_reducible rfl
                                      rotate_left
                                      · simp only [Act.put, z1, z2, z3, i64_w, i32_w]
                                        rfl
                                      refine pure_ (i := 2) (N := some 86) (v := ?_) (a' := ?_) b4_20 rfl rfl (any_of HT_.out (by kernel_rfl)) (fun _ _ _ h => h) (Or.inl ⟨by rfl, ?_⟩) ?_ ?_
                                      rotate_left
                                      · intro w'
                                        go_simp
                                        with_reducible rfl
                                      rotate_left
                                      · simp only [Act.put, z1, z2, z3, i64_w, i32_w]
                                        rfl
                                      refine pure_ (i := 3) (N := some 87) (v := ?_) (a' := ?_) b4_21 rfl rfl (any_of HT_.out (by kernel_rfl)) (fun _ _ _ h => h) (Or.inl ⟨by rfl, ?_⟩) ?_ ?_
                                      rotate_left
                                      · intro w'
                                        go_simp
                                        with_reducible rfl
                                      rotate_left
                                      · simp only [Act.put, z1, z2, z3, i64_w, i32_w]
                                        rfl
                                      refine pure_ (i := 4) (N := some 88) (v := ?_) (a' := ?_) b4_22 rfl rfl (any_of HT_.out (by kernel_rfl)) (fun _ _ _ h => h) (Or.inl ⟨by rfl, ?_⟩) ?_ ?_
                                      rotate_left
                                      · intro w'
                                        go_simp
                                        with_reducible rfl
                                      rotate_left
                                      · simp only [Act.put, z1, z2, z3, i64_w, i32_w]
                                        rfl
                                      refine pure_ (i := 5) (N := some 89) (v := ?_) (a' := ?_) b4_23 rfl rfl (any_of HT_.out (by kernel_rfl)) (fun _ _ _ h => h) (Or.inl ⟨by rfl, ?_⟩) ?_ ?_
                                      rotate_left
                                      · intro w'
                                        go_simp
                                        with_reducible rfl
                                      rotate_left
                                      · simp only [Act.put, z1, z2, z3, i64_w, i32_w]
                                        rfl
                                      refine pure_ (i := 6) (N := some 90) (v := ?_) (a' := ?_) b4_24 rfl rfl (any_of HT_.out (by kernel_rfl)) (fun _ _ _ h => h) (Or.inl ⟨by rfl, ?_⟩) ?_ ?_
                                      rotate_left
                                      · intro w'
                                        go_simp
                                        with_reducible rfl
                                      rotate_left
                                      · simp only [Act.put, z1, z2, z3, i64_w, i32_w]
                                        rfl
                                      refine pure_ (i := 7) (N := some 91) (v := ?_) (a' := ?_) b4_25 rfl rfl (any_of HT_.out (by kernel_rfl)) (fun _ _ _ h => h) (Or.inl ⟨by rfl, ?_⟩) ?_ ?_
                                      rotate_left
                                      · intro w'
                                        go_simp
                                        with_reducible rfl
                                      rotate_left
                                      · simp only [Act.put, z1, z2, z3, i64_w, i32_w]
                                        rfl
                                      refine pure_ (i := 8) (N := some 92) (v := ?_) (a' := ?_) b4_26 rfl rfl (any_of HT_.out (by kernel_rfl)) (fun _ _ _ h => h) (Or.inl ⟨by rfl, ?_⟩) ?_ ?_
                                      rotate_left
                                      · intro w'
                                        go_simp
                                        with_reducible rfl
                                      rotate_left
                                      · simp only [Act.put, z1, z2, z3, i64_w, i32_w]
                                        rfl
                                      refine pure_ (i := 9) (N := some 93) (v := ?_) (a' := ?_) b4_27 rfl rfl (any_of HT_.out (by kernel_rfl)) (fun _ _ _ h => h) (Or.inl ⟨by rfl, ?_⟩) ?_ ?_
                                      rotate_left
                                      · intro w'
                                        go_simp
                                        with_reducible rfl
                                      rotate_left
                                      · simp only [Act.put, z1, z2, z3, i64_w, i32_w]
                                        rfl
                                      refine pure_ (i := 11) (N := some 95) (v := ?_) (a' := ?_) b4_28 rfl rfl (any_of HT_.out (by kernel_rfl)) (fun _ _ _ h => h) (Or.inl ⟨by rfl, ?_⟩) ?_ ?_
                                      rotate_left
                                      · intro w'
                                        go_simp
                                        with_reducible rfl
                                      rotate_left
                                      · simp only [Act.put, z1, z2, z3, i64_w, i32_w]
                                        rfl
                                      refine pure_ (i := 12) (N := some 96) (v := ?_) (a' := ?_) b4_29 rfl rfl (any_of HT_.out (by kernel_rfl)) (fun _ _ _ h => h) (Or.inl ⟨by rfl, ?_⟩) ?_ ?_
                                      rotate_left
                                      · intro w'
                                        go_simp
                                        with_reducible rfl
                                      rotate_left
                                      · simp only [Act.put, z1, z2, z3, i64_w, i32_w]
                                        rfl
                                      refine pure_ (i := 13) (N := some 97) (v := ?_) (a' := ?_) b4_30 rfl rfl (any_of HT_.out (by kernel_rfl)) (fun _ _ _ h => h) (Or.inl ⟨by rfl, ?_⟩) ?_ ?_
                                      rotate_left
                                      · intro w'
                                        go_simp
                                        with_reducible rfl
                                      rotate_left
                                      · simp only [Act.put, z1, z2, z3, i64_w, i32_w]
                                        rfl
                                      refine take_ (i := 10) (N := some 94) (v := ?_) (a' := ?_) b4_31 rfl rfl (take_ofW HT_.out HW_.out (by kernel_rfl)) (fun _ _ _ h => h) (Or.inl ⟨by rfl, ?_⟩) hHeld ?_ ?_
                                      rotate_left
                                      · rintro w' ⟨s0, s1, s2, s3, s4, s5, s6, s7, s8, s9⟩
                                        go_simp
                                        with_reducible rfl
                                      rotate_left
                                      · simp only [Act.put, z1, z2, z3, i64_w, i32_w]
                                        rfl
                                      refine take_ (i := 14) (N := some 98) (v := ?_) (a' := ?_) b4_32 rfl rfl (take_ofW HT_.out HW_.out (by kernel_rfl)) (fun _ _ _ h => h) (Or.inl ⟨by rfl, ?_⟩) hHeld ?_ ?_
                                      rotate_left
                                      · rintro w' ⟨s0, s1, s2, s3, s4, s5, s6, s7, s8, s9⟩
                                        go_simp
                                        with_reducible rfl
                                      rotate_left
                                      · simp only [Act.put, z1, z2, z3, i64_w, i32_w]
                                        rfl
                                      refine one_ (i := 15) (N := some 99) b4_33 rfl rfl (one_of HT_.out (by kernel_rfl)) (by decide) (fun K hK => ?_)
                                      refine goes_ Try.func18 (by kernel_rfl) rfl #[.agg #[.int .i64 ((rd_T34 t243 (ji34)).f0), .int .i64 ((rd_T34 t243 (ji34)).f1), .int .i64 ((rd_T34 t243 (ji34)).f2), .int .i64 ((rd_T34 t243 (ji34)).f3), .int .i64 ((rd_T34 t243 (ji34)).f4)], .agg #[.int .i64 ((rd_T34 t243 x6_2).f0), .int .i64 ((rd_T34 t243 x6_2).f1), .int .i64 ((rd_T34 t243 x6_2).f2), .int .i64 ((rd_T34 t243 x6_2).f3), .int .i64 ((rd_T34 t243 x6_2).f4)]] (by rfl) rfl rfl (by (try simp only [List.map_toArray, List.map_cons, List.map_nil]); first | done | (simp only [hji34]; rfl) | rfl | (simp only [List.length_drop, List.length_take]; rfl)) ?_
                                      with_reducible refine (timesynclaw25_rank.calls ((rd_T34 t243 (ji34)).f0) ((rd_T34 t243 (ji34)).f1) ((rd_T34 t243 (ji34)).f2) ((rd_T34 t243 (ji34)).f3) ((rd_T34 t243 (ji34)).f4) ((rd_T34 t243 x6_2).f0) ((rd_T34 t243 x6_2).f1) ((rd_T34 t243 x6_2).f2) ((rd_T34 t243 x6_2).f3) ((rd_T34 t243 x6_2).f4) t256 _ A39.out).mono ?_
                                      rintro e w42 ⟨rfl, hb⟩
                                      have HS0_ := (hb.cell (World.block_lt_of_cell? _ _ (hHeld.1))).trans (hHeld.1)
                                      have HS1_ := (hb.cell (World.block_lt_of_cell? _ _ (hHeld.2.1))).trans (hHeld.2.1)
                                      have HS2_ := (hb.cell (World.block_lt_of_cell? _ _ (hHeld.2.2.1))).trans (hHeld.2.2.1)
                                      have HS3_ := (hb.cell (World.block_lt_of_cell? _ _ (hHeld.2.2.2.1))).trans (hHeld.2.2.2.1)
                                      have HS4_ := (hb.cell (World.block_lt_of_cell? _ _ (hHeld.2.2.2.2.1))).trans (hHeld.2.2.2.2.1)
                                      have HS5_ := (hb.cell (World.block_lt_of_cell? _ _ (hHeld.2.2.2.2.2.1))).trans (hHeld.2.2.2.2.2.1)
                                      have HS6_ := (hb.cell (World.block_lt_of_cell? _ _ (hHeld.2.2.2.2.2.2.1))).trans (hHeld.2.2.2.2.2.2.1)
                                      have HS7_ := (hb.cell (World.block_lt_of_cell? _ _ (hHeld.2.2.2.2.2.2.2.1))).trans (hHeld.2.2.2.2.2.2.2.1)
                                      have HS8_ := (hb.cell (World.block_lt_of_cell? _ _ (hHeld.2.2.2.2.2.2.2.2.1))).trans (hHeld.2.2.2.2.2.2.2.2.1)
                                      have HS9_ := (hb.cell (World.block_lt_of_cell? _ _ (hHeld.2.2.2.2.2.2.2.2.2))).trans (hHeld.2.2.2.2.2.2.2.2.2)
                                      refine ⟨_, rfl, ?_⟩
                                      have n0_ := Aside0.mk (Kd.R_below (by (with_reducible repeat (first | apply Kd.R_alloc | apply Kd.R_drewN | apply Kd.R_drew)); exact HO_3.out) hb)
                                      have n1_ := Aside0.mk (below_step hb_ hb)
                                      clear HO_3
                                      clear HB
                                      have HO_3 := n0_
                                      have HB := n1_
                                      clear n0_ n1_
                                      (try clear hb)
                                      (try clear hb2)
                                      (try clear hk)
                                      (try clear hi)
                                      refine hK.out _ _ ⟨HS0_, HS1_, HS2_, HS3_, HS4_, HS5_, HS6_, HS7_, HS8_, HS9_⟩ (fun hHeld => ?_)
                                      clear hK K
                                      refine norm_ (a' := ?_) ?_ ?_
                                      rotate_left
                                      · show Act.put _ (some 99) _ = _
                                        simp only [Act.put, z1, z2, z3, i64_w, i32_w]
                                        rfl
                                      refine pure_ (i := 16) (N := some 100) (v := ?_) (a' := ?_) b4_34 rfl rfl (any_of HT_.out (by kernel_rfl)) (fun _ _ _ h => h) (Or.inl ⟨by rfl, ?_⟩) ?_ ?_
                                      rotate_left
                                      · intro w'
                                        go_simp
                                        with_reducible rfl
                                      rotate_left
                                      · simp only [Act.put, z1, z2, z3, i64_w, i32_w]
                                        rfl
                                      refine pure_ (i := 17) (N := some 101) (v := ?_) (a' := ?_) b4_35 rfl rfl (any_of HT_.out (by kernel_rfl)) (fun _ _ _ h => h) (Or.inl ⟨by rfl, ?_⟩) ?_ ?_
                                      rotate_left
                                      · intro w'
                                        go_simp
                                        with_reducible rfl
                                      rotate_left
                                      · simp only [Act.put, z1, z2, z3, i64_w, i32_w]
                                        rfl
                                      refine pure_ (i := 18) (N := some 102) (v := ?_) (a' := ?_) b4_36 rfl rfl (any_of HT_.out (by kernel_rfl)) (fun _ _ _ h => h) (Or.inl ⟨by rfl, ?_⟩) ?_ ?_
                                      rotate_left
                                      · intro w'
                                        go_simp
                                        with_reducible rfl
                                      rotate_left
                                      · simp only [Act.put, z1, z2, z3, i64_w, i32_w]
                                        rfl
                                      refine done_ (done_of HT_.out (by kernel_rfl)) ?_
                                      try go_wp2
                                      go_roundg k3
                                      case measure => have := HJ7.out; have := HK2.out; have := HK3.out; omega
                                      case rel => exact ⟨(wrap64 (x6_2 + 1)), (by first | rfl | (simp; done) | (simp [*]; done)), H', ⟨by have := HJ7.out; have := HK2.out; have := HK3.out; omega⟩, ⟨by (with_reducible repeat (first | apply Kd.R_alloc | apply Kd.R_drewN | apply Kd.R_drew)); exact HO_3.out⟩, ⟨hb_⟩⟩
                                    · rw [if_neg c40] at H
                                      have c40b0 : (t256 == 1) = false := beq_eq_false_iff_ne.mpr c40
                                      have c40b1 : (t256 != 1) = true := bne_iff_ne.mpr c40
                                      obtain rfl := Option.some.inj H
                                      try go_wp2
                                      have n0_ := Aside0.mk (Kd.R_drew HO_3.out)
                                      have n1_ := Aside0.mk (below_drew1 HB.out)
                                      clear HO_3
                                      clear HB
                                      have HO_3 := n0_
                                      have HB := n1_
                                      clear n0_ n1_
                                      have p254 : 0 ≤ ((ji34) : Int) := of_decide_eq_true (by first | (with_reducible assumption) | assumption)
                                      have q254 : (ji34) < (t243.length : Int) := of_decide_eq_true (by first | (with_reducible assumption) | assumption)
                                      obtain ⟨ad254, e254, hx254_0, hx254_1, hx254_2, hx254_3, hx254_4⟩ := at_T34 (Kd.R_reads' HO_3.out).2.2 (ji34) p254 q254
                                      cases e254
                                      replace p254 := eq_true p254
                                      replace q254 := eq_true q254
                                      have p255 : 0 ≤ (x6_2 : Int) := of_decide_eq_true (by first | (with_reducible assumption) | assumption)
                                      have q255 : x6_2 < (t243.length : Int) := of_decide_eq_true (by first | (with_reducible assumption) | assumption)
                                      obtain ⟨ad255, e255, hx255_0, hx255_1, hx255_2, hx255_3, hx255_4⟩ := at_T34 (Kd.R_reads' HO_3.out).2.2 x6_2 p255 q255
                                      obtain rfl : ad254 = ad255 := (by injection e255)
                                      replace p255 := eq_true p255
                                      replace q255 := eq_true q255
                                      refine start_ (n := 19) (S := fun w' => w'.cell? (ad254.add (((ji34)).toNat * 5)) = some (.int .i64 ((rd_T34 t243 (ji34)).f0)) ∧ w'.cell? ⟨(ad254.add (((ji34)).toNat * 5)).block, (ad254.add (((ji34)).toNat * 5)).off + 1, none⟩ = some (.int .i64 ((rd_T34 t243 (ji34)).f1)) ∧ w'.cell? ⟨(ad254.add (((ji34)).toNat * 5)).block, (ad254.add (((ji34)).toNat * 5)).off + 2, none⟩ = some (.int .i64 ((rd_T34 t243 (ji34)).f2)) ∧ w'.cell? ⟨(ad254.add (((ji34)).toNat * 5)).block, (ad254.add (((ji34)).toNat * 5)).off + 3, none⟩ = some (.int .i64 ((rd_T34 t243 (ji34)).f3)) ∧ w'.cell? ⟨(ad254.add (((ji34)).toNat * 5)).block, (ad254.add (((ji34)).toNat * 5)).off + 4, none⟩ = some (.int .i64 ((rd_T34 t243 (ji34)).f4)) ∧ w'.cell? (ad254.add ((x6_2).toNat * 5)) = some (.int .i64 ((rd_T34 t243 x6_2).f0)) ∧ w'.cell? ⟨(ad254.add ((x6_2).toNat * 5)).block, (ad254.add ((x6_2).toNat * 5)).off + 1, none⟩ = some (.int .i64 ((rd_T34 t243 x6_2).f1)) ∧ w'.cell? ⟨(ad254.add ((x6_2).toNat * 5)).block, (ad254.add ((x6_2).toNat * 5)).off + 2, none⟩ = some (.int .i64 ((rd_T34 t243 x6_2).f2)) ∧ w'.cell? ⟨(ad254.add ((x6_2).toNat * 5)).block, (ad254.add ((x6_2).toNat * 5)).off + 3, none⟩ = some (.int .i64 ((rd_T34 t243 x6_2).f3)) ∧ w'.cell? ⟨(ad254.add ((x6_2).toNat * 5)).block, (ad254.add ((x6_2).toNat * 5)).off + 4, none⟩ = some (.int .i64 ((rd_T34 t243 x6_2).f4))) (ds := []) b4_17 (by kernel_rfl) rfl rfl ⟨hx254_0, hx254_1, hx254_2, hx254_3, hx254_4, hx255_0, hx255_1, hx255_2, hx255_3, hx255_4⟩ (fun hHeld => ?_); refine with_tabW timesynclaw25_ClusterSorted.tab17 timesynclaw25_ClusterSorted.bits17 (fun HT_ HW_ => ?_)
                                      generalize wr.drew = w43 at HO_3 HB hx254_0 hx254_1 hx254_2 hx254_3 hx254_4 hx255_0 hx255_1 hx255_2 hx255_3 hx255_4 hHeld ⊢
                                      refine pure_ (i := 0) (N := some 84) (v := ?_) (a' := ?_) b4_18 rfl rfl (any_of HT_.out (by kernel_rfl)) (fun _ _ _ h => h) (Or.inl ⟨by rfl, ?_⟩) ?_ ?_
                                      rotate_left
                                      · intro w'
                                        go_simp
                                        with_reducible rfl
                                      rotate_left
                                      · simp only [Act.put, z1, z2, z3, i64_w, i32_w]
                                        rfl
                                      refine pure_ (i := 1) (N := some 85) (v := ?_) (a' := ?_) b4_19 rfl rfl (any_of HT_.out (by kernel_rfl)) (fun _ _ _ h => h) (Or.inl ⟨by rfl, ?_⟩) ?_ ?_
                                      rotate_left
                                      · intro w'
                                        go_simp
                                        with_reducible rfl
                                      rotate_left
                                      · simp only [Act.put, z1, z2, z3, i64_w, i32_w]
                                        rfl
                                      refine pure_ (i := 2) (N := some 86) (v := ?_) (a' := ?_) b4_20 rfl rfl (any_of HT_.out (by kernel_rfl)) (fun _ _ _ h => h) (Or.inl ⟨by rfl, ?_⟩) ?_ ?_
                                      rotate_left
                                      · intro w'
                                        go_simp
                                        with_reducible rfl
                                      rotate_left
                                      · simp only [Act.put, z1, z2, z3, i64_w, i32_w]
                                        rfl
                                      refine pure_ (i := 3) (N := some 87) (v := ?_) (a' := ?_) b4_21 rfl rfl (any_of HT_.out (by kernel_rfl)) (fun _ _ _ h => h) (Or.inl ⟨by rfl, ?_⟩) ?_ ?_
                                      rotate_left
                                      · intro w'
                                        go_simp
                                        with_reducible rfl
                                      rotate_left
                                      · simp only [Act.put, z1, z2, z3, i64_w, i32_w]
                                        rfl
                                      refine pure_ (i := 4) (N := some 88) (v := ?_) (a' := ?_) b4_22 rfl rfl (any_of HT_.out (by kernel_rfl)) (fun _ _ _ h => h) (Or.inl ⟨by rfl, ?_⟩) ?_ ?_
                                      rotate_left
                                      · intro w'
                                        go_simp
                                        with_reducible rfl
                                      rotate_left
                                      · simp only [Act.put, z1, z2, z3, i64_w, i32_w]
                                        rfl
                                      refine pure_ (i := 5) (N := some 89) (v := ?_) (a' := ?_) b4_23 rfl rfl (any_of HT_.out (by kernel_rfl)) (fun _ _ _ h => h) (Or.inl ⟨by rfl, ?_⟩) ?_ ?_
                                      rotate_left
                                      · intro w'
                                        go_simp
                                        with_reducible rfl
                                      rotate_left
                                      · simp only [Act.put, z1, z2, z3, i64_w, i32_w]
                                        rfl
                                      refine pure_ (i := 6) (N := some 90) (v := ?_) (a' := ?_) b4_24 rfl rfl (any_of HT_.out (by kernel_rfl)) (fun _ _ _ h => h) (Or.inl ⟨by rfl, ?_⟩) ?_ ?_
                                      rotate_left
                                      · intro w'
                                        go_simp
                                        with_reducible rfl
                                      rotate_left
                                      · simp only [Act.put, z1, z2, z3, i64_w, i32_w]
                                        rfl
                                      refine pure_ (i := 7) (N := some 91) (v := ?_) (a' := ?_) b4_25 rfl rfl (any_of HT_.out (by kernel_rfl)) (fun _ _ _ h => h) (Or.inl ⟨by rfl, ?_⟩) ?_ ?_
                                      rotate_left
                                      · intro w'
                                        go_simp
                                        with_reducible rfl
                                      rotate_left
                                      · simp only [Act.put, z1, z2, z3, i64_w, i32_w]
                                        rfl
                                      refine pure_ (i := 8) (N := some 92) (v := ?_) (a' := ?_) b4_26 rfl rfl (any_of HT_.out (by kernel_rfl)) (fun _ _ _ h => h) (Or.inl ⟨by rfl, ?_⟩) ?_ ?_
                                      rotate_left
                                      · intro w'
                                        go_simp
                                        with_reducible rfl
                                      rotate_left
                                      · simp only [Act.put, z1, z2, z3, i64_w, i32_w]
                                        rfl
                                      refine pure_ (i := 9) (N := some 93) (v := ?_) (a' := ?_) b4_27 rfl rfl (any_of HT_.out (by kernel_rfl)) (fun _ _ _ h => h) (Or.inl ⟨by rfl, ?_⟩) ?_ ?_
                                      rotate_left
                                      · intro w'
                                        go_simp
                                        with_reducible rfl
                                      rotate_left
                                      · simp only [Act.put, z1, z2, z3, i64_w, i32_w]
                                        rfl
                                      refine pure_ (i := 11) (N := some 95) (v := ?_) (a' := ?_) b4_28 rfl rfl (any_of HT_.out (by kernel_rfl)) (fun _ _ _ h => h) (Or.inl ⟨by rfl, ?_⟩) ?_ ?_
                                      rotate_left
                                      · intro w'
                                        go_simp
                                        with_reducible rfl
                                      rotate_left
                                      · simp only [Act.put, z1, z2, z3, i64_w, i32_w]
                                        rfl
                                      refine pure_ (i := 12) (N := some 96) (v := ?_) (a' := ?_) b4_29 rfl rfl (any_of HT_.out (by kernel_rfl)) (fun _ _ _ h => h) (Or.inl ⟨by rfl, ?_⟩) ?_ ?_
                                      rotate_left
                                      · intro w'
                                        go_simp
                                        with_reducible rfl
                                      rotate_left
                                      · simp only [Act.put, z1, z2, z3, i64_w, i32_w]
                                        rfl
                                      refine pure_ (i := 13) (N := some 97) (v := ?_) (a' := ?_) b4_30 rfl rfl (any_of HT_.out (by kernel_rfl)) (fun _ _ _ h => h) (Or.inl ⟨by rfl, ?_⟩) ?_ ?_
                                      rotate_left
                                      · intro w'
                                        go_simp
                                        with_reducible rfl
                                      rotate_left
                                      · simp only [Act.put, z1, z2, z3, i64_w, i32_w]
                                        rfl
                                      refine take_ (i := 10) (N := some 94) (v := ?_) (a' := ?_) b4_31 rfl rfl (take_ofW HT_.out HW_.out (by kernel_rfl)) (fun _ _ _ h => h) (Or.inl ⟨by rfl, ?_⟩) hHeld ?_ ?_
                                      rotate_left
                                      · rintro w' ⟨s0, s1, s2, s3, s4, s5, s6, s7, s8, s9⟩
                                        go_simp
                                        with_reducible rfl
                                      rotate_left
                                      · simp only [Act.put, z1, z2, z3, i64_w, i32_w]
                                        rfl
                                      refine take_ (i := 14) (N := some 98) (v := ?_) (a' := ?_) b4_32 rfl rfl (take_ofW HT_.out HW_.out (by kernel_rfl)) (fun _ _ _ h => h) (Or.inl ⟨by rfl, ?_⟩) hHeld ?_ ?_
                                      rotate_left
                                      · rintro w' ⟨s0, s1, s2, s3, s4, s5, s6, s7, s8, s9⟩
                                        go_simp
                                        with_reducible rfl
                                      rotate_left
                                      · simp only [Act.put, z1, z2, z3, i64_w, i32_w]
                                        rfl
                                      refine one_ (i := 15) (N := some 99) b4_33 rfl rfl (one_of HT_.out (by kernel_rfl)) (by decide) (fun K hK => ?_)
                                      refine goes_ Try.func18 (by kernel_rfl) rfl #[.agg #[.int .i64 ((rd_T34 t243 (ji34)).f0), .int .i64 ((rd_T34 t243 (ji34)).f1), .int .i64 ((rd_T34 t243 (ji34)).f2), .int .i64 ((rd_T34 t243 (ji34)).f3), .int .i64 ((rd_T34 t243 (ji34)).f4)], .agg #[.int .i64 ((rd_T34 t243 x6_2).f0), .int .i64 ((rd_T34 t243 x6_2).f1), .int .i64 ((rd_T34 t243 x6_2).f2), .int .i64 ((rd_T34 t243 x6_2).f3), .int .i64 ((rd_T34 t243 x6_2).f4)]] (by rfl) rfl rfl (by (try simp only [List.map_toArray, List.map_cons, List.map_nil]); first | done | (simp only [hji34]; rfl) | rfl | (simp only [List.length_drop, List.length_take]; rfl)) ?_
                                      with_reducible refine (timesynclaw25_rank.calls ((rd_T34 t243 (ji34)).f0) ((rd_T34 t243 (ji34)).f1) ((rd_T34 t243 (ji34)).f2) ((rd_T34 t243 (ji34)).f3) ((rd_T34 t243 (ji34)).f4) ((rd_T34 t243 x6_2).f0) ((rd_T34 t243 x6_2).f1) ((rd_T34 t243 x6_2).f2) ((rd_T34 t243 x6_2).f3) ((rd_T34 t243 x6_2).f4) t256 _ A39.out).mono ?_
                                      rintro e w44 ⟨rfl, hb⟩
                                      have HS0_ := (hb.cell (World.block_lt_of_cell? _ _ (hHeld.1))).trans (hHeld.1)
                                      have HS1_ := (hb.cell (World.block_lt_of_cell? _ _ (hHeld.2.1))).trans (hHeld.2.1)
                                      have HS2_ := (hb.cell (World.block_lt_of_cell? _ _ (hHeld.2.2.1))).trans (hHeld.2.2.1)
                                      have HS3_ := (hb.cell (World.block_lt_of_cell? _ _ (hHeld.2.2.2.1))).trans (hHeld.2.2.2.1)
                                      have HS4_ := (hb.cell (World.block_lt_of_cell? _ _ (hHeld.2.2.2.2.1))).trans (hHeld.2.2.2.2.1)
                                      have HS5_ := (hb.cell (World.block_lt_of_cell? _ _ (hHeld.2.2.2.2.2.1))).trans (hHeld.2.2.2.2.2.1)
                                      have HS6_ := (hb.cell (World.block_lt_of_cell? _ _ (hHeld.2.2.2.2.2.2.1))).trans (hHeld.2.2.2.2.2.2.1)
                                      have HS7_ := (hb.cell (World.block_lt_of_cell? _ _ (hHeld.2.2.2.2.2.2.2.1))).trans (hHeld.2.2.2.2.2.2.2.1)
                                      have HS8_ := (hb.cell (World.block_lt_of_cell? _ _ (hHeld.2.2.2.2.2.2.2.2.1))).trans (hHeld.2.2.2.2.2.2.2.2.1)
                                      have HS9_ := (hb.cell (World.block_lt_of_cell? _ _ (hHeld.2.2.2.2.2.2.2.2.2))).trans (hHeld.2.2.2.2.2.2.2.2.2)
                                      refine ⟨_, rfl, ?_⟩
                                      have n0_ := Aside0.mk (Kd.R_below (by (with_reducible repeat (first | apply Kd.R_alloc | apply Kd.R_drewN | apply Kd.R_drew)); exact HO_3.out) hb)
                                      have n1_ := Aside0.mk (below_step hb_ hb)
                                      clear HO_3
                                      clear HB
                                      have HO_3 := n0_
                                      have HB := n1_
                                      clear n0_ n1_
                                      (try clear hb)
                                      (try clear hb2)
                                      (try clear hk)
                                      (try clear hi)
                                      refine hK.out _ _ ⟨HS0_, HS1_, HS2_, HS3_, HS4_, HS5_, HS6_, HS7_, HS8_, HS9_⟩ (fun hHeld => ?_)
                                      clear hK K
                                      refine norm_ (a' := ?_) ?_ ?_
                                      rotate_left
                                      · show Act.put _ (some 99) _ = _
                                        simp only [Act.put, z1, z2, z3, i64_w, i32_w]
                                        rfl
                                      refine pure_ (i := 16) (N := some 100) (v := ?_) (a' := ?_) b4_34 rfl rfl (any_of HT_.out (by kernel_rfl)) (fun _ _ _ h => h) (Or.inl ⟨by rfl, ?_⟩) ?_ ?_
                                      rotate_left
                                      · intro w'
                                        go_simp
                                        with_reducible rfl
                                      rotate_left
                                      · simp only [Act.put, z1, z2, z3, i64_w, i32_w]
                                        rfl
                                      refine pure_ (i := 17) (N := some 101) (v := ?_) (a' := ?_) b4_35 rfl rfl (any_of HT_.out (by kernel_rfl)) (fun _ _ _ h => h) (Or.inl ⟨by rfl, ?_⟩) ?_ ?_
                                      rotate_left
                                      · intro w'
                                        go_simp
                                        with_reducible rfl
                                      rotate_left
                                      · simp only [Act.put, z1, z2, z3, i64_w, i32_w]
                                        rfl
                                      refine pure_ (i := 18) (N := some 102) (v := ?_) (a' := ?_) b4_36 rfl rfl (any_of HT_.out (by kernel_rfl)) (fun _ _ _ h => h) (Or.inl ⟨by rfl, ?_⟩) ?_ ?_
                                      rotate_left
                                      · intro w'
                                        go_simp
                                        with_reducible rfl
                                      rotate_left
                                      · simp only [Act.put, z1, z2, z3, i64_w, i32_w]
                                        rfl
                                      refine done_ (done_of HT_.out (by kernel_rfl)) ?_
                                      try go_wp2
                                      go_ret
                                      exact ⟨by first | rfl | (simp [errW_none, errW_some] <;> rfl) | (simp only [← hji34]; first | rfl | (simp [errW_none, errW_some] <;> rfl)) | (simp [*, errW_none, errW_some] <;> rfl), hb_⟩
                                  · rw [if_neg c38] at H
                                    exact absurd H (by simp)
                                · rw [if_neg c37] at H
                                  exact absurd H (by simp)
                              · rw [if_neg c36] at H
                                exact absurd H (by simp)
                            · rw [if_neg c35] at H
                              exact absurd H (by simp)
                          · rw [if_neg c33] at H
                            have c33b0 : decide (0 < x6_2) = false := decide_eq_false c33
                            clear c33
                            have H' := Aside0.mk H
                            clear H
                            try go_wp2
                            have n0_ := Aside0.mk (Kd.R_drew HO_3.out)
                            have n1_ := Aside0.mk (below_drew1 HB.out)
                            clear HO_3
                            clear HB
                            have HO_3 := n0_
                            have HB := n1_
                            clear n0_ n1_
                            refine start_ (n := 19) (S := fun w' => True) (ds := []) b4_17 (by kernel_rfl) rfl rfl trivial (fun hHeld => ?_); refine with_tabW timesynclaw25_ClusterSorted.tab17 timesynclaw25_ClusterSorted.bits17 (fun HT_ HW_ => ?_)
                            generalize wr.drew = w45 at HO_3 HB hHeld ⊢
                            refine pure_ (i := 0) (N := some 84) (v := ?_) (a' := ?_) b4_18 rfl rfl (any_of HT_.out (by kernel_rfl)) (fun _ _ _ h => h) (Or.inl ⟨by rfl, ?_⟩) ?_ ?_
                            rotate_left
                            · intro w'
                              go_simp
                              with_reducible rfl
                            rotate_left
                            · simp only [Act.put, z1, z2, z3, i64_w, i32_w]
                              rfl
                            refine pure_ (i := 1) (N := some 85) (v := ?_) (a' := ?_) b4_19 rfl rfl (any_of HT_.out (by kernel_rfl)) (fun _ _ _ h => h) (Or.inl ⟨by rfl, ?_⟩) ?_ ?_
                            rotate_left
                            · intro w'
                              go_simp
                              with_reducible rfl
                            rotate_left
                            · simp only [Act.put, z1, z2, z3, i64_w, i32_w]
                              rfl
                            refine pure_ (i := 2) (N := some 86) (v := ?_) (a' := ?_) b4_20 rfl rfl (any_of HT_.out (by kernel_rfl)) (fun _ _ _ h => h) (Or.inl ⟨by rfl, ?_⟩) ?_ ?_
                            rotate_left
                            · intro w'
                              go_simp
                              with_reducible rfl
                            rotate_left
                            · simp only [Act.put, z1, z2, z3, i64_w, i32_w]
                              rfl
                            refine pure_ (i := 3) (N := some 87) (v := ?_) (a' := ?_) b4_21 rfl rfl (any_of HT_.out (by kernel_rfl)) (fun _ _ _ h => h) (Or.inl ⟨by rfl, ?_⟩) ?_ ?_
                            rotate_left
                            · intro w'
                              go_simp
                              with_reducible rfl
                            rotate_left
                            · simp only [Act.put, z1, z2, z3, i64_w, i32_w]
                              rfl
                            refine pure_ (i := 4) (N := some 88) (v := ?_) (a' := ?_) b4_22 rfl rfl (any_of HT_.out (by kernel_rfl)) (fun _ _ _ h => h) (Or.inl ⟨by rfl, ?_⟩) ?_ ?_
                            rotate_left
                            · intro w'
                              go_simp
                              with_reducible rfl
                            rotate_left
                            · simp only [Act.put, z1, z2, z3, i64_w, i32_w]
                              rfl
                            refine pure_ (i := 5) (N := some 89) (v := ?_) (a' := ?_) b4_23 rfl rfl (any_of HT_.out (by kernel_rfl)) (fun _ _ _ h => h) (Or.inl ⟨by rfl, ?_⟩) ?_ ?_
                            rotate_left
                            · intro w'
                              go_simp
                              with_reducible rfl
                            rotate_left
                            · simp only [Act.put, z1, z2, z3, i64_w, i32_w]
                              rfl
                            refine pure_ (i := 6) (N := some 90) (v := undef) (a' := ?_) b4_24 rfl rfl (any_of HT_.out (by kernel_rfl)) (fun _ _ _ h => h) (Or.inr ⟨by rfl, rfl⟩) ?_ ?_
                            rotate_left
                            · simp only [Act.put, z1, z2, z3, i64_w, i32_w]
                              rfl
                            refine pure_ (i := 7) (N := some 91) (v := undef) (a' := ?_) b4_25 rfl rfl (any_of HT_.out (by kernel_rfl)) (fun _ _ _ h => h) (Or.inr ⟨by rfl, rfl⟩) ?_ ?_
                            rotate_left
                            · simp only [Act.put, z1, z2, z3, i64_w, i32_w]
                              rfl
                            refine pure_ (i := 8) (N := some 92) (v := undef) (a' := ?_) b4_26 rfl rfl (any_of HT_.out (by kernel_rfl)) (fun _ _ _ h => h) (Or.inr ⟨by rfl, rfl⟩) ?_ ?_
                            rotate_left
                            · simp only [Act.put, z1, z2, z3, i64_w, i32_w]
                              rfl
                            refine pure_ (i := 9) (N := some 93) (v := undef) (a' := ?_) b4_27 rfl rfl (any_of HT_.out (by kernel_rfl)) (fun _ _ _ h => h) (Or.inr ⟨by rfl, rfl⟩) ?_ ?_
                            rotate_left
                            · simp only [Act.put, z1, z2, z3, i64_w, i32_w]
                              rfl
                            refine pure_ (i := 10) (N := some 94) (v := undef) (a' := ?_) b4_37 rfl rfl (any_of HT_.out (by kernel_rfl)) (fun _ _ _ h => h) (Or.inr ⟨by rfl, rfl⟩) ?_ ?_
                            rotate_left
                            · simp only [Act.put, z1, z2, z3, i64_w, i32_w]
                              rfl
                            refine pure_ (i := 11) (N := some 95) (v := undef) (a' := ?_) b4_38 rfl rfl (any_of HT_.out (by kernel_rfl)) (fun _ _ _ h => h) (Or.inr ⟨by rfl, rfl⟩) ?_ ?_
                            rotate_left
                            · simp only [Act.put, z1, z2, z3, i64_w, i32_w]
                              rfl
                            refine pure_ (i := 12) (N := some 96) (v := undef) (a' := ?_) b4_39 rfl rfl (any_of HT_.out (by kernel_rfl)) (fun _ _ _ h => h) (Or.inr ⟨by rfl, rfl⟩) ?_ ?_
                            rotate_left
                            · simp only [Act.put, z1, z2, z3, i64_w, i32_w]
                              rfl
                            refine pure_ (i := 13) (N := some 97) (v := undef) (a' := ?_) b4_31 rfl rfl (any_of HT_.out (by kernel_rfl)) (fun _ _ _ h => h) (Or.inr ⟨by rfl, rfl⟩) ?_ ?_
                            rotate_left
                            · simp only [Act.put, z1, z2, z3, i64_w, i32_w]
                              rfl
                            refine pure_ (i := 14) (N := some 98) (v := undef) (a' := ?_) b4_32 rfl rfl (any_of HT_.out (by kernel_rfl)) (fun _ _ _ h => h) (Or.inr ⟨by rfl, rfl⟩) ?_ ?_
                            rotate_left
                            · simp only [Act.put, z1, z2, z3, i64_w, i32_w]
                              rfl
                            refine pure_ (i := 15) (N := some 99) (v := undef) (a' := ?_) b4_33 rfl rfl (any_of HT_.out (by kernel_rfl)) (fun _ _ _ h => h) (Or.inr ⟨by rfl, rfl⟩) ?_ ?_
                            rotate_left
                            · simp only [Act.put, z1, z2, z3, i64_w, i32_w]
                              rfl
                            refine pure_ (i := 16) (N := some 100) (v := undef) (a' := ?_) b4_34 rfl rfl (any_of HT_.out (by kernel_rfl)) (fun _ _ _ h => h) (Or.inr ⟨by rfl, rfl⟩) ?_ ?_
                            rotate_left
                            · simp only [Act.put, z1, z2, z3, i64_w, i32_w]
                              rfl
                            refine pure_ (i := 17) (N := some 101) (v := ?_) (a' := ?_) b4_35 rfl rfl (any_of HT_.out (by kernel_rfl)) (fun _ _ _ h => h) (Or.inl ⟨by rfl, ?_⟩) ?_ ?_
                            rotate_left
                            · intro w'
                              go_simp
                              with_reducible rfl
                            rotate_left
                            · simp only [Act.put, z1, z2, z3, i64_w, i32_w]
                              rfl
                            refine pure_ (i := 18) (N := some 102) (v := ?_) (a' := ?_) b4_36 rfl rfl (any_of HT_.out (by kernel_rfl)) (fun _ _ _ h => h) (Or.inl ⟨by rfl, ?_⟩) ?_ ?_
                            rotate_left
                            · intro w'
                              go_simp
                              with_reducible rfl
                            rotate_left
                            · simp only [Act.put, z1, z2, z3, i64_w, i32_w]
                              rfl
                            refine done_ (done_of HT_.out (by kernel_rfl)) ?_
                            try go_wp2
                            go_roundg k3
                            case measure => have := HJ7.out; have := HK2.out; have := HK3.out; omega
                            case rel => exact ⟨(wrap64 (x6_2 + 1)), (by first | rfl | (simp; done) | (simp [*]; done)), H', ⟨by have := HJ7.out; have := HK2.out; have := HK3.out; omega⟩, ⟨by (with_reducible repeat (first | apply Kd.R_alloc | apply Kd.R_drewN | apply Kd.R_drew)); exact HO_3.out⟩, ⟨hb_⟩⟩
                        · replace c32 := Bool.eq_false_iff.mpr c32
                          subst c32
                          have H1 : (some false) = some r := by rw [if_neg (show ¬ (false = true) by decide)] at H; exact H
                          clear H
                          have H := H1
                          clear H1
                          obtain rfl := Option.some.inj H
                          try go_wp2
                          have n0_ := Aside0.mk (Kd.R_drew HO_3.out)
                          have n1_ := Aside0.mk (below_drew1 HB.out)
                          clear HO_3
                          clear HB
                          have HO_3 := n0_
                          have HB := n1_
                          clear n0_ n1_
                          refine start_ (n := 19) (S := fun w' => True) (ds := []) b4_17 (by kernel_rfl) rfl rfl trivial (fun hHeld => ?_); refine with_tabW timesynclaw25_ClusterSorted.tab17 timesynclaw25_ClusterSorted.bits17 (fun HT_ HW_ => ?_)
                          generalize wr.drew = w46 at HO_3 HB hHeld ⊢
                          refine pure_ (i := 0) (N := some 84) (v := ?_) (a' := ?_) b4_18 rfl rfl (any_of HT_.out (by kernel_rfl)) (fun _ _ _ h => h) (Or.inl ⟨by rfl, ?_⟩) ?_ ?_
                          rotate_left
                          · intro w'
                            go_simp
                            with_reducible rfl
                          rotate_left
                          · simp only [Act.put, z1, z2, z3, i64_w, i32_w]
                            rfl
                          refine pure_ (i := 1) (N := some 85) (v := ?_) (a' := ?_) b4_19 rfl rfl (any_of HT_.out (by kernel_rfl)) (fun _ _ _ h => h) (Or.inl ⟨by rfl, ?_⟩) ?_ ?_
                          rotate_left
                          · intro w'
                            go_simp
                            with_reducible rfl
                          rotate_left
                          · simp only [Act.put, z1, z2, z3, i64_w, i32_w]
                            rfl
                          refine pure_ (i := 2) (N := some 86) (v := ?_) (a' := ?_) b4_20 rfl rfl (any_of HT_.out (by kernel_rfl)) (fun _ _ _ h => h) (Or.inl ⟨by rfl, ?_⟩) ?_ ?_
                          rotate_left
                          · intro w'
                            go_simp
                            with_reducible rfl
                          rotate_left
                          · simp only [Act.put, z1, z2, z3, i64_w, i32_w]
                            rfl
                          refine pure_ (i := 3) (N := some 87) (v := undef) (a' := ?_) b4_21 rfl rfl (any_of HT_.out (by kernel_rfl)) (fun _ _ _ h => h) (Or.inr ⟨by rfl, rfl⟩) ?_ ?_
                          rotate_left
                          · simp only [Act.put, z1, z2, z3, i64_w, i32_w]
                            rfl
                          refine pure_ (i := 4) (N := some 88) (v := undef) (a' := ?_) b4_22 rfl rfl (any_of HT_.out (by kernel_rfl)) (fun _ _ _ h => h) (Or.inr ⟨by rfl, rfl⟩) ?_ ?_
                          rotate_left
                          · simp only [Act.put, z1, z2, z3, i64_w, i32_w]
                            rfl
                          refine pure_ (i := 5) (N := some 89) (v := undef) (a' := ?_) b4_23 rfl rfl (any_of HT_.out (by kernel_rfl)) (fun _ _ _ h => h) (Or.inr ⟨by rfl, rfl⟩) ?_ ?_
                          rotate_left
                          · simp only [Act.put, z1, z2, z3, i64_w, i32_w]
                            rfl
                          refine pure_ (i := 6) (N := some 90) (v := undef) (a' := ?_) b4_24 rfl rfl (any_of HT_.out (by kernel_rfl)) (fun _ _ _ h => h) (Or.inr ⟨by rfl, rfl⟩) ?_ ?_
                          rotate_left
                          · simp only [Act.put, z1, z2, z3, i64_w, i32_w]
                            rfl
                          refine pure_ (i := 7) (N := some 91) (v := undef) (a' := ?_) b4_25 rfl rfl (any_of HT_.out (by kernel_rfl)) (fun _ _ _ h => h) (Or.inr ⟨by rfl, rfl⟩) ?_ ?_
                          rotate_left
                          · simp only [Act.put, z1, z2, z3, i64_w, i32_w]
                            rfl
                          refine pure_ (i := 8) (N := some 92) (v := undef) (a' := ?_) b4_26 rfl rfl (any_of HT_.out (by kernel_rfl)) (fun _ _ _ h => h) (Or.inr ⟨by rfl, rfl⟩) ?_ ?_
                          rotate_left
                          · simp only [Act.put, z1, z2, z3, i64_w, i32_w]
                            rfl
                          refine pure_ (i := 9) (N := some 93) (v := undef) (a' := ?_) b4_27 rfl rfl (any_of HT_.out (by kernel_rfl)) (fun _ _ _ h => h) (Or.inr ⟨by rfl, rfl⟩) ?_ ?_
                          rotate_left
                          · simp only [Act.put, z1, z2, z3, i64_w, i32_w]
                            rfl
                          refine pure_ (i := 10) (N := some 94) (v := undef) (a' := ?_) b4_37 rfl rfl (any_of HT_.out (by kernel_rfl)) (fun _ _ _ h => h) (Or.inr ⟨by rfl, rfl⟩) ?_ ?_
                          rotate_left
                          · simp only [Act.put, z1, z2, z3, i64_w, i32_w]
                            rfl
                          refine pure_ (i := 11) (N := some 95) (v := undef) (a' := ?_) b4_38 rfl rfl (any_of HT_.out (by kernel_rfl)) (fun _ _ _ h => h) (Or.inr ⟨by rfl, rfl⟩) ?_ ?_
                          rotate_left
                          · simp only [Act.put, z1, z2, z3, i64_w, i32_w]
                            rfl
                          refine pure_ (i := 12) (N := some 96) (v := undef) (a' := ?_) b4_39 rfl rfl (any_of HT_.out (by kernel_rfl)) (fun _ _ _ h => h) (Or.inr ⟨by rfl, rfl⟩) ?_ ?_
                          rotate_left
                          · simp only [Act.put, z1, z2, z3, i64_w, i32_w]
                            rfl
                          refine pure_ (i := 13) (N := some 97) (v := undef) (a' := ?_) b4_31 rfl rfl (any_of HT_.out (by kernel_rfl)) (fun _ _ _ h => h) (Or.inr ⟨by rfl, rfl⟩) ?_ ?_
                          rotate_left
                          · simp only [Act.put, z1, z2, z3, i64_w, i32_w]
                            rfl
                          refine pure_ (i := 14) (N := some 98) (v := undef) (a' := ?_) b4_32 rfl rfl (any_of HT_.out (by kernel_rfl)) (fun _ _ _ h => h) (Or.inr ⟨by rfl, rfl⟩) ?_ ?_
                          rotate_left
                          · simp only [Act.put, z1, z2, z3, i64_w, i32_w]
                            rfl
                          refine pure_ (i := 15) (N := some 99) (v := undef) (a' := ?_) b4_33 rfl rfl (any_of HT_.out (by kernel_rfl)) (fun _ _ _ h => h) (Or.inr ⟨by rfl, rfl⟩) ?_ ?_
                          rotate_left
                          · simp only [Act.put, z1, z2, z3, i64_w, i32_w]
                            rfl
                          refine pure_ (i := 16) (N := some 100) (v := undef) (a' := ?_) b4_34 rfl rfl (any_of HT_.out (by kernel_rfl)) (fun _ _ _ h => h) (Or.inr ⟨by rfl, rfl⟩) ?_ ?_
                          rotate_left
                          · simp only [Act.put, z1, z2, z3, i64_w, i32_w]
                            rfl
                          refine pure_ (i := 17) (N := some 101) (v := undef) (a' := ?_) b4_35 rfl rfl (any_of HT_.out (by kernel_rfl)) (fun _ _ _ h => h) (Or.inr ⟨by rfl, rfl⟩) ?_ ?_
                          rotate_left
                          · simp only [Act.put, z1, z2, z3, i64_w, i32_w]
                            rfl
                          refine pure_ (i := 18) (N := some 102) (v := ?_) (a' := ?_) b4_36 rfl rfl (any_of HT_.out (by kernel_rfl)) (fun _ _ _ h => h) (Or.inl ⟨by rfl, ?_⟩) ?_ ?_
                          rotate_left
                          · intro w'
                            go_simp
                            with_reducible rfl
                          rotate_left
                          · simp only [Act.put, z1, z2, z3, i64_w, i32_w]
                            rfl
                          refine done_ (done_of HT_.out (by kernel_rfl)) ?_
                          try go_wp2
                          go_ret
                          exact ⟨by first | rfl | (simp [errW_none, errW_some] <;> rfl) | (simp [*, errW_none, errW_some] <;> rfl), hb_⟩
                · rw [if_neg c23] at H
                  have c23b0 : decide (x6_2 < (t243.length : Int)) = false := decide_eq_false c23
                  clear c23
                  replace H := Option.bind_eq_some_iff.mp H
                  obtain ⟨t251, A470, H⟩ := H
                  replace H : (some t251) = some r := H
                  have A47 := Aside0.mk A470
                  clear A470
                  obtain rfl := Option.some.inj H
                  obtain ⟨Ao48, co48, eo48⟩ := Kd.R_slice HO_3.out
                  subst eo48
                  go_wp2_with (first | ((with_reducible refine gate_callee (f := 9) rfl ?_); refine goesL_ (some 103) rfl rfl Try.func9 (by kernel_rfl) rfl #[] rfl sl_ ?_; (with_reducible refine (timesynclaw25_awake.calls k2  t251 _ A47.out).mono ?_); rintro e w49 ⟨rfl, hb⟩; refine ⟨_, rfl, ?_⟩; have n0_ := Aside0.mk (Kd.R_below (by (with_reducible repeat (first | apply Kd.R_alloc | apply Kd.R_drewN | apply Kd.R_drew)); exact HO_3.out) hb); have n1_ := Aside0.mk (below_step hb_ hb); clear HO_3; clear HB; have HO_3 := n0_; have HB := n1_; clear n0_ n1_; (try clear hb); (try clear hb2); (try clear hk); (try clear hi)))
                  go_ret
                  exact ⟨by first | rfl | (simp [errW_none, errW_some] <;> rfl) | (simp [*, errW_none, errW_some] <;> rfl), hb_⟩
    · rw [if_neg c7] at H
      have c7b0 : (t248 == 0) = false := beq_eq_false_iff_ne.mpr c7
      have c7b1 : (t248 != 0) = true := bne_iff_ne.mpr c7
      by_cases c50 : (t243.length : Int) = 0
      · rw [if_pos c50] at H
        have c50b0 : ((t243.length : Int) == 0) = true := beq_iff_eq.mpr c50
        have c50b1 : ((t243.length : Int) != 0) = false := bne_eq_false_iff_eq.mpr c50
        clear c50
        by_cases c51 : t246 = 0
        · rw [if_pos c51] at H
          have c51b0 : (t246 == 0) = true := beq_iff_eq.mpr c51
          have c51b1 : (t246 != 0) = false := bne_eq_false_iff_eq.mpr c51
          clear c51
          by_cases c52 : t247 = true
          · subst c52
            have H1 : (some false) = some r := by rw [if_pos rfl] at H; exact H
            clear H
            have H := H1
            clear H1
            obtain rfl := Option.some.inj H
            go_enter Try.func4, Try.ntmps4
            go_wp2_with (first | ((with_reducible refine gate_callee (f := 8) rfl ?_); refine goesL_ (some 10) rfl rfl Try.func8 (by kernel_rfl) rfl #[.slice A0 l0.length c0] rfl sl_ ?_; (with_reducible refine (timesynclaw25_few.calls _ _ l0 true _ ?side1 ?side2 A2.out).mono ?_); (case side1 => repeat (first | exact HR0.out | (with_reducible refine Kd.C_alloc ?_ _) | (with_reducible refine Kd.C_drewN ?_ _) | (with_reducible refine Kd.C_drew ?_))); (case side2 => exact HC0.out); rintro e w' ⟨rfl, ⟨nd, rfl⟩⟩; refine ⟨_, rfl, ?_⟩) | ((with_reducible refine gate_callee (f := 13) rfl ?_); refine goesL_ (some 14) rfl rfl Try.func13 (by kernel_rfl) rfl #[.slice A0 l0.length c0] rfl sl_ ?_; (with_reducible refine (cluster_Order.calls k _ _ l0 t243 _ ?side1 ?side2 A4.out).mono ?_); (case side1 => repeat (first | exact HR0.out | (with_reducible refine Kd.C_alloc ?_ _) | (with_reducible refine Kd.C_drewN ?_ _) | (with_reducible refine Kd.C_drew ?_))); (case side2 => exact HC0.out); rintro e w53 ⟨v244, rfl, ho0, hb⟩; refine ⟨_, rfl, ?_⟩; have n0_ := Aside0.mk (Kd.R_lower ho0 (below_size hb_)); have n1_ := Aside0.mk (below_step hb_ hb); clear HB; have HO245 := n0_; have HB := n1_; clear n0_ n1_; (try clear hb); (try clear hb2); (try clear hk); (try clear hi); (try clear ho0)) | ((with_reducible refine gate_callee (f := 10) rfl ?_); refine goesL_ (some 17) rfl rfl Try.func10 (by kernel_rfl) rfl #[.slice A0 l0.length c0] rfl sl_ ?_; (with_reducible refine (cluster_System.calls k _ _ l0 t246 true _ ?side1 ?side2 A5.out).mono ?_); (case side1 => repeat (first | exact (Kd.C_below HR0.out HB.out) | (with_reducible refine Kd.C_alloc ?_ _) | (with_reducible refine Kd.C_drewN ?_ _) | (with_reducible refine Kd.C_drew ?_))); (case side2 => exact HC0.out); rintro e w54 ⟨rfl, hb⟩; refine ⟨_, rfl, ?_⟩; have n0_ := Aside0.mk (Kd.R_below (by (with_reducible repeat (first | apply Kd.R_alloc | apply Kd.R_drewN | apply Kd.R_drew)); exact HO245.out) hb); have n1_ := Aside0.mk (below_step hb_ hb); clear HO245; clear HB; have HO245 := n0_; have HB := n1_; clear n0_ n1_; (try clear hb); (try clear hb2); (try clear hk); (try clear hi)) | ((with_reducible refine gate_callee (f := 17) rfl ?_); refine goesL_ (some 21) rfl rfl Try.func17 (by kernel_rfl) rfl #[.slice A0 l0.length c0] rfl sl_ ?_; (with_reducible refine (choose_Check.calls k _ _ l0 t248 _ ?side1 ?side2 A6.out).mono ?_); (case side1 => repeat (first | exact (Kd.C_below HR0.out HB.out) | (with_reducible refine Kd.C_alloc ?_ _) | (with_reducible refine Kd.C_drewN ?_ _) | (with_reducible refine Kd.C_drew ?_))); (case side2 => exact HC0.out); rintro e w55 ⟨rfl, hb⟩; refine ⟨_, rfl, ?_⟩; have n0_ := Aside0.mk (Kd.R_below (by (with_reducible repeat (first | apply Kd.R_alloc | apply Kd.R_drewN | apply Kd.R_drew)); exact HO245.out) hb); have n1_ := Aside0.mk (below_step hb_ hb); clear HO245; clear HB; have HO245 := n0_; have HB := n1_; clear n0_ n1_; (try clear hb); (try clear hb2); (try clear hk); (try clear hi); obtain ⟨Ao56, co56, eo56⟩ := Kd.R_slice HO245.out; subst eo56))
            go_ret
            exact ⟨by first | rfl | (simp [errW_none, errW_some] <;> rfl) | (simp [*, errW_none, errW_some] <;> rfl), hb_⟩
          · replace c52 := Bool.eq_false_iff.mpr c52
            subst c52
            have H1 : ((timesynclaw25_awake.f k).bind fun t249 => (some t249)) = some r := by rw [if_neg (show ¬ (false = true) by decide)] at H; exact H
            clear H
            have H := H1
            clear H1
            replace H := Option.bind_eq_some_iff.mp H
            obtain ⟨t249, A570, H⟩ := H
            replace H : (some t249) = some r := H
            have A57 := Aside0.mk A570
            clear A570
            obtain rfl := Option.some.inj H
            go_enter Try.func4, Try.ntmps4
            go_wp2_with (first | ((with_reducible refine gate_callee (f := 8) rfl ?_); refine goesL_ (some 10) rfl rfl Try.func8 (by kernel_rfl) rfl #[.slice A0 l0.length c0] rfl sl_ ?_; (with_reducible refine (timesynclaw25_few.calls _ _ l0 true _ ?side1 ?side2 A2.out).mono ?_); (case side1 => repeat (first | exact HR0.out | (with_reducible refine Kd.C_alloc ?_ _) | (with_reducible refine Kd.C_drewN ?_ _) | (with_reducible refine Kd.C_drew ?_))); (case side2 => exact HC0.out); rintro e w' ⟨rfl, ⟨nd, rfl⟩⟩; refine ⟨_, rfl, ?_⟩) | ((with_reducible refine gate_callee (f := 13) rfl ?_); refine goesL_ (some 14) rfl rfl Try.func13 (by kernel_rfl) rfl #[.slice A0 l0.length c0] rfl sl_ ?_; (with_reducible refine (cluster_Order.calls k _ _ l0 t243 _ ?side1 ?side2 A4.out).mono ?_); (case side1 => repeat (first | exact HR0.out | (with_reducible refine Kd.C_alloc ?_ _) | (with_reducible refine Kd.C_drewN ?_ _) | (with_reducible refine Kd.C_drew ?_))); (case side2 => exact HC0.out); rintro e w58 ⟨v244, rfl, ho0, hb⟩; refine ⟨_, rfl, ?_⟩; have n0_ := Aside0.mk (Kd.R_lower ho0 (below_size hb_)); have n1_ := Aside0.mk (below_step hb_ hb); clear HB; have HO245 := n0_; have HB := n1_; clear n0_ n1_; (try clear hb); (try clear hb2); (try clear hk); (try clear hi); (try clear ho0)) | ((with_reducible refine gate_callee (f := 10) rfl ?_); refine goesL_ (some 17) rfl rfl Try.func10 (by kernel_rfl) rfl #[.slice A0 l0.length c0] rfl sl_ ?_; (with_reducible refine (cluster_System.calls k _ _ l0 t246 false _ ?side1 ?side2 A5.out).mono ?_); (case side1 => repeat (first | exact (Kd.C_below HR0.out HB.out) | (with_reducible refine Kd.C_alloc ?_ _) | (with_reducible refine Kd.C_drewN ?_ _) | (with_reducible refine Kd.C_drew ?_))); (case side2 => exact HC0.out); rintro e w59 ⟨rfl, hb⟩; refine ⟨_, rfl, ?_⟩; have n0_ := Aside0.mk (Kd.R_below (by (with_reducible repeat (first | apply Kd.R_alloc | apply Kd.R_drewN | apply Kd.R_drew)); exact HO245.out) hb); have n1_ := Aside0.mk (below_step hb_ hb); clear HO245; clear HB; have HO245 := n0_; have HB := n1_; clear n0_ n1_; (try clear hb); (try clear hb2); (try clear hk); (try clear hi)) | ((with_reducible refine gate_callee (f := 17) rfl ?_); refine goesL_ (some 21) rfl rfl Try.func17 (by kernel_rfl) rfl #[.slice A0 l0.length c0] rfl sl_ ?_; (with_reducible refine (choose_Check.calls k _ _ l0 t248 _ ?side1 ?side2 A6.out).mono ?_); (case side1 => repeat (first | exact (Kd.C_below HR0.out HB.out) | (with_reducible refine Kd.C_alloc ?_ _) | (with_reducible refine Kd.C_drewN ?_ _) | (with_reducible refine Kd.C_drew ?_))); (case side2 => exact HC0.out); rintro e w60 ⟨rfl, hb⟩; refine ⟨_, rfl, ?_⟩; have n0_ := Aside0.mk (Kd.R_below (by (with_reducible repeat (first | apply Kd.R_alloc | apply Kd.R_drewN | apply Kd.R_drew)); exact HO245.out) hb); have n1_ := Aside0.mk (below_step hb_ hb); clear HO245; clear HB; have HO245 := n0_; have HB := n1_; clear n0_ n1_; (try clear hb); (try clear hb2); (try clear hk); (try clear hi); obtain ⟨Ao61, co61, eo61⟩ := Kd.R_slice HO245.out; subst eo61) | (go_at_call 9; (with_reducible refine (timesynclaw25_awake.calls k  t249 _ A57.out).mono ?_); rintro e w62 ⟨rfl, hb⟩; have n0_ := Aside0.mk (Kd.R_below (by (with_reducible repeat (first | apply Kd.R_alloc | apply Kd.R_drewN | apply Kd.R_drew)); exact HO245.out) hb); have n1_ := Aside0.mk (below_step hb_ hb); clear HO245; clear HB; have HO245 := n0_; have HB := n1_; clear n0_ n1_; (try clear hb); (try clear hb2); (try clear hk); (try clear hi)))
            go_ret
            exact ⟨by first | rfl | (simp [errW_none, errW_some] <;> rfl) | (simp [*, errW_none, errW_some] <;> rfl), hb_⟩
        · rw [if_neg c51] at H
          have c51b0 : (t246 == 0) = false := beq_eq_false_iff_ne.mpr c51
          have c51b1 : (t246 != 0) = true := bne_iff_ne.mpr c51
          obtain rfl := Option.some.inj H
          go_enter Try.func4, Try.ntmps4
          go_wp2_with (first | ((with_reducible refine gate_callee (f := 8) rfl ?_); refine goesL_ (some 10) rfl rfl Try.func8 (by kernel_rfl) rfl #[.slice A0 l0.length c0] rfl sl_ ?_; (with_reducible refine (timesynclaw25_few.calls _ _ l0 true _ ?side1 ?side2 A2.out).mono ?_); (case side1 => repeat (first | exact HR0.out | (with_reducible refine Kd.C_alloc ?_ _) | (with_reducible refine Kd.C_drewN ?_ _) | (with_reducible refine Kd.C_drew ?_))); (case side2 => exact HC0.out); rintro e w' ⟨rfl, ⟨nd, rfl⟩⟩; refine ⟨_, rfl, ?_⟩) | ((with_reducible refine gate_callee (f := 13) rfl ?_); refine goesL_ (some 14) rfl rfl Try.func13 (by kernel_rfl) rfl #[.slice A0 l0.length c0] rfl sl_ ?_; (with_reducible refine (cluster_Order.calls k _ _ l0 t243 _ ?side1 ?side2 A4.out).mono ?_); (case side1 => repeat (first | exact HR0.out | (with_reducible refine Kd.C_alloc ?_ _) | (with_reducible refine Kd.C_drewN ?_ _) | (with_reducible refine Kd.C_drew ?_))); (case side2 => exact HC0.out); rintro e w63 ⟨v244, rfl, ho0, hb⟩; refine ⟨_, rfl, ?_⟩; have n0_ := Aside0.mk (Kd.R_lower ho0 (below_size hb_)); have n1_ := Aside0.mk (below_step hb_ hb); clear HB; have HO245 := n0_; have HB := n1_; clear n0_ n1_; (try clear hb); (try clear hb2); (try clear hk); (try clear hi); (try clear ho0)) | ((with_reducible refine gate_callee (f := 10) rfl ?_); refine goesL_ (some 17) rfl rfl Try.func10 (by kernel_rfl) rfl #[.slice A0 l0.length c0] rfl sl_ ?_; (with_reducible refine (cluster_System.calls k _ _ l0 t246 t247 _ ?side1 ?side2 A5.out).mono ?_); (case side1 => repeat (first | exact (Kd.C_below HR0.out HB.out) | (with_reducible refine Kd.C_alloc ?_ _) | (with_reducible refine Kd.C_drewN ?_ _) | (with_reducible refine Kd.C_drew ?_))); (case side2 => exact HC0.out); rintro e w64 ⟨rfl, hb⟩; refine ⟨_, rfl, ?_⟩; have n0_ := Aside0.mk (Kd.R_below (by (with_reducible repeat (first | apply Kd.R_alloc | apply Kd.R_drewN | apply Kd.R_drew)); exact HO245.out) hb); have n1_ := Aside0.mk (below_step hb_ hb); clear HO245; clear HB; have HO245 := n0_; have HB := n1_; clear n0_ n1_; (try clear hb); (try clear hb2); (try clear hk); (try clear hi)) | ((with_reducible refine gate_callee (f := 17) rfl ?_); refine goesL_ (some 21) rfl rfl Try.func17 (by kernel_rfl) rfl #[.slice A0 l0.length c0] rfl sl_ ?_; (with_reducible refine (choose_Check.calls k _ _ l0 t248 _ ?side1 ?side2 A6.out).mono ?_); (case side1 => repeat (first | exact (Kd.C_below HR0.out HB.out) | (with_reducible refine Kd.C_alloc ?_ _) | (with_reducible refine Kd.C_drewN ?_ _) | (with_reducible refine Kd.C_drew ?_))); (case side2 => exact HC0.out); rintro e w65 ⟨rfl, hb⟩; refine ⟨_, rfl, ?_⟩; have n0_ := Aside0.mk (Kd.R_below (by (with_reducible repeat (first | apply Kd.R_alloc | apply Kd.R_drewN | apply Kd.R_drew)); exact HO245.out) hb); have n1_ := Aside0.mk (below_step hb_ hb); clear HO245; clear HB; have HO245 := n0_; have HB := n1_; clear n0_ n1_; (try clear hb); (try clear hb2); (try clear hk); (try clear hi); obtain ⟨Ao66, co66, eo66⟩ := Kd.R_slice HO245.out; subst eo66))
          go_ret
          exact ⟨by first | rfl | (simp [errW_none, errW_some] <;> rfl) | (simp [*, errW_none, errW_some] <;> rfl), hb_⟩
      · rw [if_neg c50] at H
        have c50b0 : ((t243.length : Int) == 0) = false := beq_eq_false_iff_ne.mpr c50
        have c50b1 : ((t243.length : Int) != 0) = true := bne_iff_ne.mpr c50
        have c50b2 : ¬ (t243 = []) := fun h_ => c50 (by rw [h_]; rfl)
        obtain rfl := Option.some.inj H
        go_enter Try.func4, Try.ntmps4
        go_wp2_with (first | ((with_reducible refine gate_callee (f := 8) rfl ?_); refine goesL_ (some 10) rfl rfl Try.func8 (by kernel_rfl) rfl #[.slice A0 l0.length c0] rfl sl_ ?_; (with_reducible refine (timesynclaw25_few.calls _ _ l0 true _ ?side1 ?side2 A2.out).mono ?_); (case side1 => repeat (first | exact HR0.out | (with_reducible refine Kd.C_alloc ?_ _) | (with_reducible refine Kd.C_drewN ?_ _) | (with_reducible refine Kd.C_drew ?_))); (case side2 => exact HC0.out); rintro e w' ⟨rfl, ⟨nd, rfl⟩⟩; refine ⟨_, rfl, ?_⟩) | ((with_reducible refine gate_callee (f := 13) rfl ?_); refine goesL_ (some 14) rfl rfl Try.func13 (by kernel_rfl) rfl #[.slice A0 l0.length c0] rfl sl_ ?_; (with_reducible refine (cluster_Order.calls k _ _ l0 t243 _ ?side1 ?side2 A4.out).mono ?_); (case side1 => repeat (first | exact HR0.out | (with_reducible refine Kd.C_alloc ?_ _) | (with_reducible refine Kd.C_drewN ?_ _) | (with_reducible refine Kd.C_drew ?_))); (case side2 => exact HC0.out); rintro e w67 ⟨v244, rfl, ho0, hb⟩; refine ⟨_, rfl, ?_⟩; have n0_ := Aside0.mk (Kd.R_lower ho0 (below_size hb_)); have n1_ := Aside0.mk (below_step hb_ hb); clear HB; have HO245 := n0_; have HB := n1_; clear n0_ n1_; (try clear hb); (try clear hb2); (try clear hk); (try clear hi); (try clear ho0)) | ((with_reducible refine gate_callee (f := 10) rfl ?_); refine goesL_ (some 17) rfl rfl Try.func10 (by kernel_rfl) rfl #[.slice A0 l0.length c0] rfl sl_ ?_; (with_reducible refine (cluster_System.calls k _ _ l0 t246 t247 _ ?side1 ?side2 A5.out).mono ?_); (case side1 => repeat (first | exact (Kd.C_below HR0.out HB.out) | (with_reducible refine Kd.C_alloc ?_ _) | (with_reducible refine Kd.C_drewN ?_ _) | (with_reducible refine Kd.C_drew ?_))); (case side2 => exact HC0.out); rintro e w68 ⟨rfl, hb⟩; refine ⟨_, rfl, ?_⟩; have n0_ := Aside0.mk (Kd.R_below (by (with_reducible repeat (first | apply Kd.R_alloc | apply Kd.R_drewN | apply Kd.R_drew)); exact HO245.out) hb); have n1_ := Aside0.mk (below_step hb_ hb); clear HO245; clear HB; have HO245 := n0_; have HB := n1_; clear n0_ n1_; (try clear hb); (try clear hb2); (try clear hk); (try clear hi)) | ((with_reducible refine gate_callee (f := 17) rfl ?_); refine goesL_ (some 21) rfl rfl Try.func17 (by kernel_rfl) rfl #[.slice A0 l0.length c0] rfl sl_ ?_; (with_reducible refine (choose_Check.calls k _ _ l0 t248 _ ?side1 ?side2 A6.out).mono ?_); (case side1 => repeat (first | exact (Kd.C_below HR0.out HB.out) | (with_reducible refine Kd.C_alloc ?_ _) | (with_reducible refine Kd.C_drewN ?_ _) | (with_reducible refine Kd.C_drew ?_))); (case side2 => exact HC0.out); rintro e w69 ⟨rfl, hb⟩; refine ⟨_, rfl, ?_⟩; have n0_ := Aside0.mk (Kd.R_below (by (with_reducible repeat (first | apply Kd.R_alloc | apply Kd.R_drewN | apply Kd.R_drew)); exact HO245.out) hb); have n1_ := Aside0.mk (below_step hb_ hb); clear HO245; clear HB; have HO245 := n0_; have HB := n1_; clear n0_ n1_; (try clear hb); (try clear hb2); (try clear hk); (try clear hi); obtain ⟨Ao70, co70, eo70⟩ := Kd.R_slice HO245.out; subst eo70))
        go_ret
        exact ⟨by first | rfl | (simp [errW_none, errW_some] <;> rfl) | (simp [*, errW_none, errW_some] <;> rfl), hb_⟩
  · replace c3 := Bool.eq_false_iff.mpr c3
    subst c3
    have H1 : ((timesynclaw25_awake.f k).bind fun t242 => (some t242)) = some r := by rw [if_neg (show ¬ (false = true) by decide)] at H; exact H
    clear H
    have H := H1
    clear H1
    replace H := Option.bind_eq_some_iff.mp H
    obtain ⟨t242, A710, H⟩ := H
    replace H : (some t242) = some r := H
    have A71 := Aside0.mk A710
    clear A710
    obtain rfl := Option.some.inj H
    go_enter Try.func4, Try.ntmps4
    go_wp2_with (first | ((with_reducible refine gate_callee (f := 8) rfl ?_); refine goesL_ (some 10) rfl rfl Try.func8 (by kernel_rfl) rfl #[.slice A0 l0.length c0] rfl sl_ ?_; (with_reducible refine (timesynclaw25_few.calls _ _ l0 false _ ?side1 ?side2 A2.out).mono ?_); (case side1 => repeat (first | exact HR0.out | (with_reducible refine Kd.C_alloc ?_ _) | (with_reducible refine Kd.C_drewN ?_ _) | (with_reducible refine Kd.C_drew ?_))); (case side2 => exact HC0.out); rintro e w' ⟨rfl, ⟨nd, rfl⟩⟩; refine ⟨_, rfl, ?_⟩) | ((with_reducible refine gate_callee (f := 9) rfl ?_); refine goesL_ (some 12) rfl rfl Try.func9 (by kernel_rfl) rfl #[] rfl sl_ ?_; (with_reducible refine (timesynclaw25_awake.calls k  t242 _ A71.out).mono ?_); rintro e w72 ⟨rfl, hb⟩; refine ⟨_, rfl, ?_⟩; have n0_ := Aside0.mk (below_step hb_ hb); clear HB; have HB := n0_; clear n0_; (try clear hb); (try clear hb2); (try clear hk); (try clear hi)))
    go_ret
    exact ⟨by first | rfl | (simp [errW_none, errW_some] <;> rfl) | (simp [*, errW_none, errW_some] <;> rfl), hb_⟩

end Go.Proofs.Ytbcmfmlbagjdoaa.PAll
