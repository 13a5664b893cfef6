-- A text of this session, written by a program of its own (wip/tools).
import Derived.Test.YtbcmfmlbagjdoaaPAllx0
import Derived.Test.YtbcmfmlbagjdoaaPAllx1
import Derived.Test.YtbcmfmlbagjdoaaPAllx2
import Derived.Test.YtbcmfmlbagjdoaaPAllx3
import Derived.Test.YtbcmfmlbagjdoaaPAllx32
import Derived.Test.YtbcmfmlbagjdoaaPAllx34
import Derived.Test.YtbcmfmlbagjdoaaPAllx35
import Derived.Test.YtbcmfmlbagjdoaaPAllx48
namespace Go.Proofs.Ytbcmfmlbagjdoaa.PAll
open Go.RowKit Go.Proofs.YtbcmfmlbagjdoaaW.PrintWords Go.Proofs.YtbcmfmlbagjdoaaW.PrintLast Go.Proofs.YtbcmfmlbagjdoaaW.PrintMore
attribute [local go_sem] max2_int min2_int max_two min_two max_three min_three max_four min_four   -- for this text's walks alone
set_option linter.unusedVariables false
set_option linter.unusedSimpArgs false

attribute [local go_sem high] eqA34
/-! ### timesynclaw25_ClusterSurvivors: function 5 -/
mutual
def timesynclaw25_ClusterSurvivors.j0 : Nat → List (S34) → Int → Bool → Option (Bool)
  | 0, _, _, _ => none
  | k + 1, x0, x1, x22 => if x22 = true then ((timesynclaw25_awake.f k).bind fun t259 => (some t259)) else ((cluster_Prune.f k x0 x1).bind fun bt260 => (if bt260.2 = 0 then (if (bt260.1.length : Int) > (x0.length : Int) then (timesynclaw25_ClusterSurvivors.j1 k x0 x1 bt260.1 true) else (timesynclaw25_ClusterSurvivors.j1 k x0 x1 bt260.1 (decide ((bt260.1.length : Int) < (mn x1 (x0.length : Int)))))) else (timesynclaw25_ClusterSurvivors.j1 k x0 x1 bt260.1 true)))
def timesynclaw25_ClusterSurvivors.j1 : Nat → List (S34) → Int → List (S34) → Bool → Option (Bool)
  | 0, _, _, _, _ => none
  | k + 1, x0, x1, x5, x47 => if x47 = true then (some false) else (timesynclaw25_ClusterSurvivors.l0 k x0 x1 x5 0)
def timesynclaw25_ClusterSurvivors.l0 : Nat → List (S34) → Int → List (S34) → Int → Option (Bool)
  | 0, _, _, _, _ => none
  | k + 1, x0, x1, x5, x7 => if x7 < (x5.length : Int) then (timesynclaw25_ClusterSurvivors.l1 k x0 x1 x5 x7 false 0) else ((timesynclaw25_awake.f k).bind fun t264 => (some t264))
def timesynclaw25_ClusterSurvivors.l1 : Nat → List (S34) → Int → List (S34) → Int → Bool → Int → Option (Bool)
  | 0, _, _, _, _, _, _ => none
  | k + 1, x0, x1, x5, x7, x8, x9 => if x9 < (x0.length : Int) then (if x8 = true then (timesynclaw25_ClusterSurvivors.l1 k x0 x1 x5 x7 true (wrap64 (x9 + 1))) else (if 0 ≤ x9 then (if 0 ≤ x7 then (if x7 < (x5.length : Int) then (timesynclaw25_ClusterSurvivors.l1 k x0 x1 x5 x7 (((rd_T34 x0 x9).f0) == ((rd_T34 x5 x7).f0) && (((rd_T34 x0 x9).f1) == ((rd_T34 x5 x7).f1) && (((rd_T34 x0 x9).f2) == ((rd_T34 x5 x7).f2) && (((rd_T34 x0 x9).f3) == ((rd_T34 x5 x7).f3) && (((rd_T34 x0 x9).f4) == ((rd_T34 x5 x7).f4)))))) (wrap64 (x9 + 1))) else (none)) else (none)) else (none))) else (if x8 = true then (if x7 > 0 then (if 0 ≤ (wrap64 (x7 - 1)) then (if (wrap64 (x7 - 1)) < (x5.length : Int) then (if 0 ≤ x7 then (if x7 < (x5.length : Int) then ((timesynclaw25_rank.f ((rd_T34 x5 (wrap64 (x7 - 1))).f0) ((rd_T34 x5 (wrap64 (x7 - 1))).f1) ((rd_T34 x5 (wrap64 (x7 - 1))).f2) ((rd_T34 x5 (wrap64 (x7 - 1))).f3) ((rd_T34 x5 (wrap64 (x7 - 1))).f4) ((rd_T34 x5 x7).f0) ((rd_T34 x5 x7).f1) ((rd_T34 x5 x7).f2) ((rd_T34 x5 x7).f3) ((rd_T34 x5 x7).f4)).bind fun t269 => (timesynclaw25_ClusterSurvivors.j4 k x0 x1 x5 x7 (t269 != 1))) else (none)) else (none)) else (none)) else (none)) else (timesynclaw25_ClusterSurvivors.j4 k x0 x1 x5 x7 false)) else (timesynclaw25_ClusterSurvivors.j4 k x0 x1 x5 x7 true))
def timesynclaw25_ClusterSurvivors.j4 : Nat → List (S34) → Int → List (S34) → Int → Bool → Option (Bool)
  | 0, _, _, _, _, _ => none
  | k + 1, x0, x1, x5, x7, x90 => if x90 = true then (some false) else (timesynclaw25_ClusterSurvivors.l2 k x0 x1 x5 x7 0)
def timesynclaw25_ClusterSurvivors.l2 : Nat → List (S34) → Int → List (S34) → Int → Int → Option (Bool)
  | 0, _, _, _, _, _ => none
  | k + 1, x0, x1, x5, x7, x10 => if x10 < (x5.length : Int) then (timesynclaw25_ClusterSurvivors.j6 k x0 x1 x5 x7 x10 (decide ((x5.length : Int) > x1))) else (timesynclaw25_ClusterSurvivors.j6 k x0 x1 x5 x7 x10 false)
def timesynclaw25_ClusterSurvivors.j6 : Nat → List (S34) → Int → List (S34) → Int → Int → Bool → Option (Bool)
  | 0, _, _, _, _, _, _ => none
  | k + 1, x0, x1, x5, x7, x10, x100 => if x100 = true then ((cluster_Spread.f k x5 x7).bind fun t270 => (if 0 ≤ x10 then (if x10 < (x5.length : Int) then (if t270 > ((rd_T34 x5 x10).f3) then (some false) else (timesynclaw25_ClusterSurvivors.l2 k x0 x1 x5 x7 (wrap64 (x10 + 1)))) else (none)) else (none))) else (timesynclaw25_ClusterSurvivors.l0 k x0 x1 x5 (wrap64 (x7 + 1)))
end
def timesynclaw25_ClusterSurvivors.f (k : Nat) (l0 : List (S34)) (a1 : Int) : Option (Bool) := (timesynclaw25_few.f l0).bind fun t257 => (if t257 = true then ((choose_Check.f k l0).bind fun t258 => (if t258 = 0 then (timesynclaw25_ClusterSurvivors.j0 k l0 a1 (decide (a1 < 1))) else (timesynclaw25_ClusterSurvivors.j0 k l0 a1 true))) else (timesynclaw25_ClusterSurvivors.j0 k l0 a1 true))
theorem timesynclaw25_ClusterSurvivors.mono_l : ∀ k, (∀ y0 y1 y2, LeO (timesynclaw25_ClusterSurvivors.j0 k y0 y1 y2) (timesynclaw25_ClusterSurvivors.j0 (k + 1) y0 y1 y2)) ∧ (∀ y0 y1 y2 y3, LeO (timesynclaw25_ClusterSurvivors.j1 k y0 y1 y2 y3) (timesynclaw25_ClusterSurvivors.j1 (k + 1) y0 y1 y2 y3)) ∧ (∀ y0 y1 y2 y3, LeO (timesynclaw25_ClusterSurvivors.l0 k y0 y1 y2 y3) (timesynclaw25_ClusterSurvivors.l0 (k + 1) y0 y1 y2 y3)) ∧ (∀ y0 y1 y2 y3 y4 y5, LeO (timesynclaw25_ClusterSurvivors.l1 k y0 y1 y2 y3 y4 y5) (timesynclaw25_ClusterSurvivors.l1 (k + 1) y0 y1 y2 y3 y4 y5)) ∧ (∀ y0 y1 y2 y3 y4, LeO (timesynclaw25_ClusterSurvivors.j4 k y0 y1 y2 y3 y4) (timesynclaw25_ClusterSurvivors.j4 (k + 1) y0 y1 y2 y3 y4)) ∧ (∀ y0 y1 y2 y3 y4, LeO (timesynclaw25_ClusterSurvivors.l2 k y0 y1 y2 y3 y4) (timesynclaw25_ClusterSurvivors.l2 (k + 1) y0 y1 y2 y3 y4)) ∧ (∀ y0 y1 y2 y3 y4 y5, LeO (timesynclaw25_ClusterSurvivors.j6 k y0 y1 y2 y3 y4 y5) (timesynclaw25_ClusterSurvivors.j6 (k + 1) y0 y1 y2 y3 y4 y5))
  | 0 => ⟨fun _ _ _ r h => by simp [timesynclaw25_ClusterSurvivors.j0] at h, fun _ _ _ _ r h => by simp [timesynclaw25_ClusterSurvivors.j1] at h, fun _ _ _ _ r h => by simp [timesynclaw25_ClusterSurvivors.l0] at h, fun _ _ _ _ _ _ r h => by simp [timesynclaw25_ClusterSurvivors.l1] at h, fun _ _ _ _ _ r h => by simp [timesynclaw25_ClusterSurvivors.j4] at h, fun _ _ _ _ _ r h => by simp [timesynclaw25_ClusterSurvivors.l2] at h, fun _ _ _ _ _ _ r h => by simp [timesynclaw25_ClusterSurvivors.j6] at h⟩
  | k + 1 => by
    obtain ⟨ih0, ih1, ih2, ih3, ih4, ih5, ih6⟩ := timesynclaw25_ClusterSurvivors.mono_l k
    refine ⟨?_, ?_, ?_, ?_, ?_, ?_, ?_⟩
    · intro y0 y1 y2
      unfold timesynclaw25_ClusterSurvivors.j0
      repeat' first
      | (with_reducible exact ih0 _ _ _)
      | (with_reducible exact ih1 _ _ _ _)
      | (with_reducible exact ih2 _ _ _ _)
      | (with_reducible exact ih3 _ _ _ _ _ _)
      | (with_reducible exact ih4 _ _ _ _ _)
      | (with_reducible exact ih5 _ _ _ _ _)
      | (with_reducible exact ih6 _ _ _ _ _ _)
      | (with_reducible exact choose_Check.mono _ _)
      | (with_reducible exact cluster_Prune.mono _ _ _)
      | (with_reducible exact cluster_Spread.mono _ _ _)
      | (with_reducible exact timesynclaw25_awake.mono _)
      | (with_reducible exact LeO.refl _)
      | (with_reducible exact LeO.none _)
      | (with_reducible refine LeO.ite ?_ ?_)
      | (with_reducible refine LeO.bind ?_ (fun _ => ?_))
      | exact ih0 _ _ _
      | exact ih1 _ _ _ _
      | exact ih2 _ _ _ _
      | exact ih3 _ _ _ _ _ _
      | exact ih4 _ _ _ _ _
      | exact ih5 _ _ _ _ _
      | exact ih6 _ _ _ _ _ _
      | exact choose_Check.mono _ _
      | exact cluster_Prune.mono _ _ _
      | exact cluster_Spread.mono _ _ _
      | exact timesynclaw25_awake.mono _
      | exact LeO.none _
      | refine LeO.ite ?_ ?_
      | refine LeO.bind ?_ (fun _ => ?_)
    · intro y0 y1 y2 y3
      unfold timesynclaw25_ClusterSurvivors.j1
      repeat' first
      | (with_reducible exact ih0 _ _ _)
      | (with_reducible exact ih1 _ _ _ _)
      | (with_reducible exact ih2 _ _ _ _)
      | (with_reducible exact ih3 _ _ _ _ _ _)
      | (with_reducible exact ih4 _ _ _ _ _)
      | (with_reducible exact ih5 _ _ _ _ _)
      | (with_reducible exact ih6 _ _ _ _ _ _)
      | (with_reducible exact choose_Check.mono _ _)
      | (with_reducible exact cluster_Prune.mono _ _ _)
      | (with_reducible exact cluster_Spread.mono _ _ _)
      | (with_reducible exact timesynclaw25_awake.mono _)
      | (with_reducible exact LeO.refl _)
      | (with_reducible exact LeO.none _)
      | (with_reducible refine LeO.ite ?_ ?_)
      | (with_reducible refine LeO.bind ?_ (fun _ => ?_))
      | exact ih0 _ _ _
      | exact ih1 _ _ _ _
      | exact ih2 _ _ _ _
      | exact ih3 _ _ _ _ _ _
      | exact ih4 _ _ _ _ _
      | exact ih5 _ _ _ _ _
      | exact ih6 _ _ _ _ _ _
      | exact choose_Check.mono _ _
      | exact cluster_Prune.mono _ _ _
      | exact cluster_Spread.mono _ _ _
      | exact timesynclaw25_awake.mono _
      | exact LeO.none _
      | refine LeO.ite ?_ ?_
      | refine LeO.bind ?_ (fun _ => ?_)
    · intro y0 y1 y2 y3
      unfold timesynclaw25_ClusterSurvivors.l0
      repeat' first
      | (with_reducible exact ih0 _ _ _)
      | (with_reducible exact ih1 _ _ _ _)
      | (with_reducible exact ih2 _ _ _ _)
      | (with_reducible exact ih3 _ _ _ _ _ _)
      | (with_reducible exact ih4 _ _ _ _ _)
      | (with_reducible exact ih5 _ _ _ _ _)
      | (with_reducible exact ih6 _ _ _ _ _ _)
      | (with_reducible exact choose_Check.mono _ _)
      | (with_reducible exact cluster_Prune.mono _ _ _)
      | (with_reducible exact cluster_Spread.mono _ _ _)
      | (with_reducible exact timesynclaw25_awake.mono _)
      | (with_reducible exact LeO.refl _)
      | (with_reducible exact LeO.none _)
      | (with_reducible refine LeO.ite ?_ ?_)
      | (with_reducible refine LeO.bind ?_ (fun _ => ?_))
      | exact ih0 _ _ _
      | exact ih1 _ _ _ _
      | exact ih2 _ _ _ _
      | exact ih3 _ _ _ _ _ _
      | exact ih4 _ _ _ _ _
      | exact ih5 _ _ _ _ _
      | exact ih6 _ _ _ _ _ _
      | exact choose_Check.mono _ _
      | exact cluster_Prune.mono _ _ _
      | exact cluster_Spread.mono _ _ _
      | exact timesynclaw25_awake.mono _
      | exact LeO.none _
      | refine LeO.ite ?_ ?_
      | refine LeO.bind ?_ (fun _ => ?_)
    · intro y0 y1 y2 y3 y4 y5
      unfold timesynclaw25_ClusterSurvivors.l1
      repeat' first
      | (with_reducible exact ih0 _ _ _)
      | (with_reducible exact ih1 _ _ _ _)
      | (with_reducible exact ih2 _ _ _ _)
      | (with_reducible exact ih3 _ _ _ _ _ _)
      | (with_reducible exact ih4 _ _ _ _ _)
      | (with_reducible exact ih5 _ _ _ _ _)
      | (with_reducible exact ih6 _ _ _ _ _ _)
      | (with_reducible exact choose_Check.mono _ _)
      | (with_reducible exact cluster_Prune.mono _ _ _)
      | (with_reducible exact cluster_Spread.mono _ _ _)
      | (with_reducible exact timesynclaw25_awake.mono _)
      | (with_reducible exact LeO.refl _)
      | (with_reducible exact LeO.none _)
      | (with_reducible refine LeO.ite ?_ ?_)
      | (with_reducible refine LeO.bind ?_ (fun _ => ?_))
      | exact ih0 _ _ _
      | exact ih1 _ _ _ _
      | exact ih2 _ _ _ _
      | exact ih3 _ _ _ _ _ _
      | exact ih4 _ _ _ _ _
      | exact ih5 _ _ _ _ _
      | exact ih6 _ _ _ _ _ _
      | exact choose_Check.mono _ _
      | exact cluster_Prune.mono _ _ _
      | exact cluster_Spread.mono _ _ _
      | exact timesynclaw25_awake.mono _
      | exact LeO.none _
      | refine LeO.ite ?_ ?_
      | refine LeO.bind ?_ (fun _ => ?_)
    · intro y0 y1 y2 y3 y4
      unfold timesynclaw25_ClusterSurvivors.j4
      repeat' first
      | (with_reducible exact ih0 _ _ _)
      | (with_reducible exact ih1 _ _ _ _)
      | (with_reducible exact ih2 _ _ _ _)
      | (with_reducible exact ih3 _ _ _ _ _ _)
      | (with_reducible exact ih4 _ _ _ _ _)
      | (with_reducible exact ih5 _ _ _ _ _)
      | (with_reducible exact ih6 _ _ _ _ _ _)
      | (with_reducible exact choose_Check.mono _ _)
      | (with_reducible exact cluster_Prune.mono _ _ _)
      | (with_reducible exact cluster_Spread.mono _ _ _)
      | (with_reducible exact timesynclaw25_awake.mono _)
      | (with_reducible exact LeO.refl _)
      | (with_reducible exact LeO.none _)
      | (with_reducible refine LeO.ite ?_ ?_)
      | (with_reducible refine LeO.bind ?_ (fun _ => ?_))
      | exact ih0 _ _ _
      | exact ih1 _ _ _ _
      | exact ih2 _ _ _ _
      | exact ih3 _ _ _ _ _ _
      | exact ih4 _ _ _ _ _
      | exact ih5 _ _ _ _ _
      | exact ih6 _ _ _ _ _ _
      | exact choose_Check.mono _ _
      | exact cluster_Prune.mono _ _ _
      | exact cluster_Spread.mono _ _ _
      | exact timesynclaw25_awake.mono _
      | exact LeO.none _
      | refine LeO.ite ?_ ?_
      | refine LeO.bind ?_ (fun _ => ?_)
    · intro y0 y1 y2 y3 y4
      unfold timesynclaw25_ClusterSurvivors.l2
      repeat' first
      | (with_reducible exact ih0 _ _ _)
      | (with_reducible exact ih1 _ _ _ _)
      | (with_reducible exact ih2 _ _ _ _)
      | (with_reducible exact ih3 _ _ _ _ _ _)
      | (with_reducible exact ih4 _ _ _ _ _)
      | (with_reducible exact ih5 _ _ _ _ _)
      | (with_reducible exact ih6 _ _ _ _ _ _)
      | (with_reducible exact choose_Check.mono _ _)
      | (with_reducible exact cluster_Prune.mono _ _ _)
      | (with_reducible exact cluster_Spread.mono _ _ _)
      | (with_reducible exact timesynclaw25_awake.mono _)
      | (with_reducible exact LeO.refl _)
      | (with_reducible exact LeO.none _)
      | (with_reducible refine LeO.ite ?_ ?_)
      | (with_reducible refine LeO.bind ?_ (fun _ => ?_))
      | exact ih0 _ _ _
      | exact ih1 _ _ _ _
      | exact ih2 _ _ _ _
      | exact ih3 _ _ _ _ _ _
      | exact ih4 _ _ _ _ _
      | exact ih5 _ _ _ _ _
      | exact ih6 _ _ _ _ _ _
      | exact choose_Check.mono _ _
      | exact cluster_Prune.mono _ _ _
      | exact cluster_Spread.mono _ _ _
      | exact timesynclaw25_awake.mono _
      | exact LeO.none _
      | refine LeO.ite ?_ ?_
      | refine LeO.bind ?_ (fun _ => ?_)
    · intro y0 y1 y2 y3 y4 y5
      unfold timesynclaw25_ClusterSurvivors.j6
      repeat' first
      | (with_reducible exact ih0 _ _ _)
      | (with_reducible exact ih1 _ _ _ _)
      | (with_reducible exact ih2 _ _ _ _)
      | (with_reducible exact ih3 _ _ _ _ _ _)
      | (with_reducible exact ih4 _ _ _ _ _)
      | (with_reducible exact ih5 _ _ _ _ _)
      | (with_reducible exact ih6 _ _ _ _ _ _)
      | (with_reducible exact choose_Check.mono _ _)
      | (with_reducible exact cluster_Prune.mono _ _ _)
      | (with_reducible exact cluster_Spread.mono _ _ _)
      | (with_reducible exact timesynclaw25_awake.mono _)
      | (with_reducible exact LeO.refl _)
      | (with_reducible exact LeO.none _)
      | (with_reducible refine LeO.ite ?_ ?_)
      | (with_reducible refine LeO.bind ?_ (fun _ => ?_))
      | exact ih0 _ _ _
      | exact ih1 _ _ _ _
      | exact ih2 _ _ _ _
      | exact ih3 _ _ _ _ _ _
      | exact ih4 _ _ _ _ _
      | exact ih5 _ _ _ _ _
      | exact ih6 _ _ _ _ _ _
      | exact choose_Check.mono _ _
      | exact cluster_Prune.mono _ _ _
      | exact cluster_Spread.mono _ _ _
      | exact timesynclaw25_awake.mono _
      | exact LeO.none _
      | refine LeO.ite ?_ ?_
      | refine LeO.bind ?_ (fun _ => ?_)
theorem timesynclaw25_ClusterSurvivors.mono : ∀ a0 a1 k, LeO (timesynclaw25_ClusterSurvivors.f k a0 a1) (timesynclaw25_ClusterSurvivors.f (k + 1) a0 a1) := by
  intro a0 a1 k
  obtain ⟨ih0, ih1, ih2, ih3, ih4, ih5, ih6⟩ := timesynclaw25_ClusterSurvivors.mono_l k
  unfold timesynclaw25_ClusterSurvivors.f
  repeat' first
      | (with_reducible exact ih0 _ _ _)
      | (with_reducible exact ih1 _ _ _ _)
      | (with_reducible exact ih2 _ _ _ _)
      | (with_reducible exact ih3 _ _ _ _ _ _)
      | (with_reducible exact ih4 _ _ _ _ _)
      | (with_reducible exact ih5 _ _ _ _ _)
      | (with_reducible exact ih6 _ _ _ _ _ _)
      | (with_reducible exact choose_Check.mono _ _)
      | (with_reducible exact cluster_Prune.mono _ _ _)
      | (with_reducible exact cluster_Spread.mono _ _ _)
      | (with_reducible exact timesynclaw25_awake.mono _)
      | (with_reducible exact LeO.refl _)
      | (with_reducible exact LeO.none _)
      | (with_reducible refine LeO.ite ?_ ?_)
      | (with_reducible refine LeO.bind ?_ (fun _ => ?_))
      | exact ih0 _ _ _
      | exact ih1 _ _ _ _
      | exact ih2 _ _ _ _
      | exact ih3 _ _ _ _ _ _
      | exact ih4 _ _ _ _ _
      | exact ih5 _ _ _ _ _
      | exact ih6 _ _ _ _ _ _
      | exact choose_Check.mono _ _
      | exact cluster_Prune.mono _ _ _
      | exact cluster_Spread.mono _ _ _
      | exact timesynclaw25_awake.mono _
      | exact LeO.none _
      | refine LeO.ite ?_ ?_
      | refine LeO.bind ?_ (fun _ => ?_)
def timesynclaw25_ClusterSurvivors.T13 : Bool × List (List Nat × List Nat) := (true, [([], []), ([0], [0]), ([1], [1]), ([1], [1]), ([2, 3, 1], [1, 2, 3]), ([4, 1], [1, 4]), ([1], [1]), ([1], [1]), ([6, 7, 1], [1, 6, 7]), ([8, 1], [1, 8]), ([5, 9, 1], [1, 5, 9]), ([1, 10], [1, 10]), ([11, 1, 0, 1, 2, 3, 4, 5, 6, 7, 8, 9, 10, 11], [0, 11])])
def timesynclaw25_ClusterSurvivors.B13 : List Nat := [0, 1, 3, 3, 15, 31, 3, 3, 195, 451, 1023, 2047, 4095]
theorem timesynclaw25_ClusterSurvivors.tab13 : rtab .any (opsOf Try.f5 13) = timesynclaw25_ClusterSurvivors.T13 := by kernel_rfl
theorem timesynclaw25_ClusterSurvivors.bits13 : waitsOk timesynclaw25_ClusterSurvivors.T13.2 timesynclaw25_ClusterSurvivors.B13 = true := by kernel_rfl
def timesynclaw25_ClusterSurvivors.T14 : Bool × List (List Nat × List Nat) := (true, [([], []), ([0], [0]), ([1], [1]), ([2], [2]), ([3, 2], [2, 3]), ([4, 2, 2], [2, 4]), ([5], [5]), ([5], [5]), ([7, 5], [5, 7]), ([6, 8, 5], [5, 6, 8]), ([9, 5], [5, 9]), ([5], [5]), ([5], [5]), ([11, 12, 5], [5, 11, 12]), ([13, 5], [5, 13]), ([10, 14, 5, 5], [5, 10, 14]), ([15, 5], [5, 15]), ([5, 16, 2], [2, 5, 16]), ([2, 17], [2, 17])])
def timesynclaw25_ClusterSurvivors.B14 : List Nat := [0, 1, 3, 7, 15, 31, 63, 63, 191, 511, 1023, 63, 63, 6207, 14399, 32767, 65535, 131071, 262143]
theorem timesynclaw25_ClusterSurvivors.tab14 : rtab .any (opsOf Try.f5 14) = timesynclaw25_ClusterSurvivors.T14 := by kernel_rfl
theorem timesynclaw25_ClusterSurvivors.bits14 : waitsOk timesynclaw25_ClusterSurvivors.T14.2 timesynclaw25_ClusterSurvivors.B14 = true := by kernel_rfl
def timesynclaw25_ClusterSurvivors.T19 : Bool × List (List Nat × List Nat) := (true, [([], []), ([], []), ([0, 1], [0, 1]), ([], []), ([], []), ([3, 4], [3, 4]), ([5], [5]), ([6], [6]), ([2, 7], [2, 7])])
def timesynclaw25_ClusterSurvivors.B19 : List Nat := [0, 0, 3, 0, 0, 24, 56, 120, 255]
theorem timesynclaw25_ClusterSurvivors.tab19 : rtab .any (opsOf Try.f5 19) = timesynclaw25_ClusterSurvivors.T19 := by kernel_rfl
theorem timesynclaw25_ClusterSurvivors.bits19 : waitsOk timesynclaw25_ClusterSurvivors.T19.2 timesynclaw25_ClusterSurvivors.B19 = true := by kernel_rfl
abbrev b5_0 : Array Bool := #[false, false, false, false, false, false, false, false, false, false, false, false, false]
abbrev b5_1 : Array Bool := #[true, false, false, false, false, false, false, false, false, false, false, false, false]
abbrev b5_2 : Array Bool := #[true, true, false, false, false, false, false, false, false, false, false, false, false]
abbrev b5_3 : Array Bool := #[true, true, true, false, false, false, false, false, false, false, false, false, false]
abbrev b5_4 : Array Bool := #[true, true, true, true, false, false, false, false, false, false, false, false, false]
abbrev b5_5 : Array Bool := #[true, true, true, true, true, false, false, false, false, false, false, false, false]
abbrev b5_6 : Array Bool := #[true, true, true, true, true, true, false, false, false, false, false, false, false]
abbrev b5_7 : Array Bool := #[true, true, true, true, true, true, true, false, false, false, false, false, false]
abbrev b5_8 : Array Bool := #[true, true, true, true, true, true, true, true, false, false, false, false, false]
abbrev b5_9 : Array Bool := #[true, true, true, true, true, true, true, true, true, false, false, false, false]
abbrev b5_10 : Array Bool := #[true, true, true, true, true, true, true, true, true, true, false, false, false]
abbrev b5_11 : Array Bool := #[true, true, true, true, true, true, true, true, true, true, true, false, false]
abbrev b5_12 : Array Bool := #[true, true, true, true, true, true, true, true, true, true, true, true, false]
abbrev b5_13 : Array Bool := #[true, true, true, true, true, true, true, true, true, true, true, true, true]
abbrev b5_14 : Array Bool := #[true, true, true, true, true, false, true, false, false, false, false, false, false]
abbrev b5_15 : Array Bool := #[true, true, true, true, true, false, true, true, false, false, false, false, false]
abbrev b5_16 : Array Bool := #[true, true, true, true, true, false, true, true, true, false, false, false, false]
abbrev b5_17 : Array Bool := #[false, false, false, false, false, false, false, false, false, false, false, false, false, false, false, false, false, false, false]
abbrev b5_18 : Array Bool := #[true, false, false, false, false, false, false, false, false, false, false, false, false, false, false, false, false, false, false]
abbrev b5_19 : Array Bool := #[true, true, false, false, false, false, false, false, false, false, false, false, false, false, false, false, false, false, false]
abbrev b5_20 : Array Bool := #[true, true, true, false, false, false, false, false, false, false, false, false, false, false, false, false, false, false, false]
abbrev b5_21 : Array Bool := #[true, true, true, true, false, false, false, false, false, false, false, false, false, false, false, false, false, false, false]
abbrev b5_22 : Array Bool := #[true, true, true, true, true, false, false, false, false, false, false, false, false, false, false, false, false, false, false]
abbrev b5_23 : Array Bool := #[true, true, true, true, true, true, false, false, false, false, false, false, false, false, false, false, false, false, false]
abbrev b5_24 : Array Bool := #[true, true, true, true, true, true, true, false, false, false, false, false, false, false, false, false, false, false, false]
abbrev b5_25 : Array Bool := #[true, true, true, true, true, true, true, true, false, false, false, false, false, false, false, false, false, false, false]
abbrev b5_26 : Array Bool := #[true, true, true, true, true, true, true, true, true, false, false, false, false, false, false, false, false, false, false]
abbrev b5_27 : Array Bool := #[true, true, true, true, true, true, true, true, true, true, false, false, false, false, false, false, false, false, false]
abbrev b5_28 : Array Bool := #[true, true, true, true, true, true, true, true, true, true, false, true, false, false, false, false, false, false, false]
abbrev b5_29 : Array Bool := #[true, true, true, true, true, true, true, true, true, true, false, true, true, false, false, false, false, false, false]
abbrev b5_30 : Array Bool := #[true, true, true, true, true, true, true, true, true, true, false, true, true, true, false, false, false, false, false]
abbrev b5_31 : Array Bool := #[true, true, true, true, true, true, true, true, true, true, true, true, true, true, false, false, false, false, false]
abbrev b5_32 : Array Bool := #[true, true, true, true, true, true, true, true, true, true, true, true, true, true, true, false, false, false, false]
abbrev b5_33 : Array Bool := #[true, true, true, true, true, true, true, true, true, true, true, true, true, true, true, true, false, false, false]
abbrev b5_34 : Array Bool := #[true, true, true, true, true, true, true, true, true, true, true, true, true, true, true, true, true, false, false]
abbrev b5_35 : Array Bool := #[true, true, true, true, true, true, true, true, true, true, true, true, true, true, true, true, true, true, false]
abbrev b5_36 : Array Bool := #[true, true, true, true, true, true, true, true, true, true, true, true, true, true, true, true, true, true, true]
abbrev b5_37 : Array Bool := #[true, true, true, true, true, true, true, true, true, true, true, false, false, false, false, false, false, false, false]
abbrev b5_38 : Array Bool := #[true, true, true, true, true, true, true, true, true, true, true, true, false, false, false, false, false, false, false]
abbrev b5_39 : Array Bool := #[true, true, true, true, true, true, true, true, true, true, true, true, true, false, false, false, false, false, false]
abbrev b5_40 : Array Bool := #[false, false, false, false, false, false, false, false, false]
abbrev b5_41 : Array Bool := #[true, false, false, false, false, false, false, false, false]
abbrev b5_42 : Array Bool := #[true, true, false, false, false, false, false, false, false]
abbrev b5_43 : Array Bool := #[true, true, false, true, false, false, false, false, false]
abbrev b5_44 : Array Bool := #[true, true, false, true, true, false, false, false, false]
abbrev b5_45 : Array Bool := #[true, true, false, true, true, true, false, false, false]
abbrev b5_46 : Array Bool := #[true, true, false, true, true, true, true, false, false]
abbrev b5_47 : Array Bool := #[true, true, false, true, true, true, true, true, false]
abbrev b5_48 : Array Bool := #[true, true, true, true, true, true, true, true, false]
abbrev b5_49 : Array Bool := #[true, true, true, true, true, true, true, true, true]
set_option maxHeartbeats 8000000 in
set_option maxRecDepth 100000 in
theorem timesynclaw25_ClusterSurvivors.calls (k : Nat) (A0 : Option Addr) (c0 : Nat) (l0 : List (S34)) (a1 : Int) (r : Bool) (w : World) (hr0 : Kd.C k34 w A0 l0.length l0) (hc0 : l0.length ≤ c0) (h : timesynclaw25_ClusterSurvivors.f k l0 a1 = some r) :
    Calls Try.prog 5 #[.slice A0 l0.length c0, .int .i64 a1] w fun e w' => e = .returned (.bool r) ∧ Below w.heap.size w w' := by
  have hu34 := Try.underlying34
  have HR0 := Aside0.mk hr0
  have HC0 := Aside0.mk hc0
  clear hr0 hc0
  have HB := Aside0.mk (Below.refl w.heap.size w)
  have H : ((timesynclaw25_few.f l0).bind fun t257 => (if t257 = true then ((choose_Check.f k l0).bind fun t258 => (if t258 = 0 then (timesynclaw25_ClusterSurvivors.j0 k l0 a1 (decide (a1 < 1))) else (timesynclaw25_ClusterSurvivors.j0 k l0 a1 true))) else (timesynclaw25_ClusterSurvivors.j0 k l0 a1 true))) = some r := h
  clear h
  have HC3 := Aside0.mk H
  clear H
  go_enter Try.func5, Try.ntmps5
  go_upto_region 1 with (fail)
  go_cut [22] (fun v22 wc => ∃ (kq : Nat) (x22_2 : Bool), v22 = .bool x22_2 ∧ Aside0 (timesynclaw25_ClusterSurvivors.j0 kq l0 a1 x22_2 = some r) ∧ Aside0 (kq ≤ k) ∧ Aside0 (Below w.heap.size w wc))
  case first =>
    have H := HC3.out
    clear HC3
    replace H := Option.bind_eq_some_iff.mp H
    obtain ⟨t257, A40, H⟩ := H
    replace H : (if t257 = true then ((choose_Check.f k l0).bind fun t258 => (if t258 = 0 then (timesynclaw25_ClusterSurvivors.j0 k l0 a1 (decide (a1 < 1))) else (timesynclaw25_ClusterSurvivors.j0 k l0 a1 true))) else (timesynclaw25_ClusterSurvivors.j0 k l0 a1 true)) = some r := H
    have A4 := Aside0.mk A40
    clear A40
    by_cases c5 : t257 = true
    · subst c5
      have H1 : ((choose_Check.f k l0).bind fun t258 => (if t258 = 0 then (timesynclaw25_ClusterSurvivors.j0 k l0 a1 (decide (a1 < 1))) else (timesynclaw25_ClusterSurvivors.j0 k l0 a1 true))) = some r := by rw [if_pos rfl] at H; exact H
      clear H
      have H := H1
      clear H1
      replace H := Option.bind_eq_some_iff.mp H
      obtain ⟨t258, A60, H⟩ := H
      replace H : (if t258 = 0 then (timesynclaw25_ClusterSurvivors.j0 k l0 a1 (decide (a1 < 1))) else (timesynclaw25_ClusterSurvivors.j0 k l0 a1 true)) = some r := H
      have A6 := Aside0.mk A60
      clear A60
      by_cases c7 : t258 = 0
      · rw [if_pos c7] at H
        have c7b0 : (t258 == 0) = true := beq_iff_eq.mpr c7
        have c7b1 : (t258 != 0) = false := bne_eq_false_iff_eq.mpr c7
        clear c7
        (first | rw [c7b0] | (simp only [i64_w, i32_w]; rw [c7b0]) | skip)
        have H' := Aside0.mk H
        clear H
        go_wp2_with (first | ((with_reducible refine gate_callee (f := 8) rfl ?_); refine goesL_ (some 12) rfl rfl Try.func8 (by kernel_rfl) rfl #[.slice A0 l0.length c0] rfl sl_ ?_; (with_reducible refine (timesynclaw25_few.calls _ _ l0 true _ ?side1 ?side2 A4.out).mono ?_); (case side1 => repeat (first | exact (Kd.C_below HR0.out HB.out) | (with_reducible refine Kd.C_alloc ?_ _) | (with_reducible refine Kd.C_drewN ?_ _) | (with_reducible refine Kd.C_drew ?_))); (case side2 => exact HC0.out); rintro e w' ⟨rfl, ⟨nd, rfl⟩⟩; refine ⟨_, rfl, ?_⟩) | (go_at_call 17; (with_reducible refine (choose_Check.calls k _ _ l0 t258 _ ?side1 ?side2 A6.out).mono ?_); (case side1 => repeat (first | exact (Kd.C_below HR0.out hb_) | (with_reducible refine Kd.C_alloc ?_ _) | (with_reducible refine Kd.C_drewN ?_ _) | (with_reducible refine Kd.C_drew ?_))); (case side2 => exact HC0.out); rintro e w8 ⟨rfl, hb⟩; have n0_ := Aside0.mk (below_step hb_ hb); clear HB; have HB := n0_; clear n0_; (try clear hb); (try clear hb2); (try clear hk); (try clear hi)))
        go_meet
        case rel => exact ⟨_, (decide (a1 < 1)), (by first | rfl | (simp; done) | (simp [*]; done)), H', ⟨by first | omega | exact Nat.le_refl _⟩, ⟨hb_⟩⟩
      · rw [if_neg c7] at H
        have c7b0 : (t258 == 0) = false := beq_eq_false_iff_ne.mpr c7
        have c7b1 : (t258 != 0) = true := bne_iff_ne.mpr c7
        (first | rw [c7b0] | (simp only [i64_w, i32_w]; rw [c7b0]) | skip)
        have H' := Aside0.mk H
        clear H
        go_wp2_with (first | ((with_reducible refine gate_callee (f := 8) rfl ?_); refine goesL_ (some 12) rfl rfl Try.func8 (by kernel_rfl) rfl #[.slice A0 l0.length c0] rfl sl_ ?_; (with_reducible refine (timesynclaw25_few.calls _ _ l0 true _ ?side1 ?side2 A4.out).mono ?_); (case side1 => repeat (first | exact (Kd.C_below HR0.out HB.out) | (with_reducible refine Kd.C_alloc ?_ _) | (with_reducible refine Kd.C_drewN ?_ _) | (with_reducible refine Kd.C_drew ?_))); (case side2 => exact HC0.out); rintro e w' ⟨rfl, ⟨nd, rfl⟩⟩; refine ⟨_, rfl, ?_⟩) | (go_at_call 17; (with_reducible refine (choose_Check.calls k _ _ l0 t258 _ ?side1 ?side2 A6.out).mono ?_); (case side1 => repeat (first | exact (Kd.C_below HR0.out hb_) | (with_reducible refine Kd.C_alloc ?_ _) | (with_reducible refine Kd.C_drewN ?_ _) | (with_reducible refine Kd.C_drew ?_))); (case side2 => exact HC0.out); rintro e w9 ⟨rfl, hb⟩; have n0_ := Aside0.mk (below_step hb_ hb); clear HB; have HB := n0_; clear n0_; (try clear hb); (try clear hb2); (try clear hk); (try clear hi)))
        go_meet
        case rel => exact ⟨_, (true), (by first | rfl | (simp; done) | (simp [*]; done)), H', ⟨by first | omega | exact Nat.le_refl _⟩, ⟨hb_⟩⟩
    · replace c5 := Bool.eq_false_iff.mpr c5
      subst c5
      have H1 : (timesynclaw25_ClusterSurvivors.j0 k l0 a1 true) = some r := by rw [if_neg (show ¬ (false = true) by decide)] at H; exact H
      clear H
      have H := H1
      clear H1
      have H' := Aside0.mk H
      clear H
      go_wp2_with (first | ((with_reducible refine gate_callee (f := 8) rfl ?_); refine goesL_ (some 12) rfl rfl Try.func8 (by kernel_rfl) rfl #[.slice A0 l0.length c0] rfl sl_ ?_; (with_reducible refine (timesynclaw25_few.calls _ _ l0 false _ ?side1 ?side2 A4.out).mono ?_); (case side1 => repeat (first | exact (Kd.C_below HR0.out HB.out) | (with_reducible refine Kd.C_alloc ?_ _) | (with_reducible refine Kd.C_drewN ?_ _) | (with_reducible refine Kd.C_drew ?_))); (case side2 => exact HC0.out); rintro e w' ⟨rfl, ⟨nd, rfl⟩⟩; refine ⟨_, rfl, ?_⟩))
      go_meet
      case rel => exact ⟨_, (true), (by first | rfl | (simp; done) | (simp [*]; done)), H', ⟨by first | omega | exact Nat.le_refl _⟩, ⟨hb_⟩⟩
  case rest =>
    clear HC3
    try clear p2
    try clear c5
    try clear c7
    try clear c7b0
    try clear c7b1
    try clear c8
    obtain ⟨kq, x22_2, rfl, HA, HJ2, HB⟩ := hcut
    cases kq with
    | zero => exact absurd HA.out (by simp [timesynclaw25_ClusterSurvivors.j0])
    | succ kj2 =>
      have H := HA.out
      clear HA
      simp only [timesynclaw25_ClusterSurvivors.j0] at H
      by_cases c10 : x22_2 = true
      · subst c10
        have H1 : ((timesynclaw25_awake.f kj2).bind fun t259 => (some t259)) = some r := by rw [if_pos rfl] at H; exact H
        clear H
        have H := H1
        clear H1
        replace H := Option.bind_eq_some_iff.mp H
        obtain ⟨t259, A110, H⟩ := H
        replace H : (some t259) = some r := H
        have A11 := Aside0.mk A110
        clear A110
        obtain rfl := Option.some.inj H
        go_wp2_with (first | ((with_reducible refine gate_callee (f := 9) rfl ?_); refine goesL_ (some 23) rfl rfl Try.func9 (by kernel_rfl) rfl #[] rfl sl_ ?_; (with_reducible refine (timesynclaw25_awake.calls kj2  t259 _ A11.out).mono ?_); rintro e w12 ⟨rfl, hb⟩; refine ⟨_, rfl, ?_⟩; have n0_ := Aside0.mk (below_step hb_ hb); clear HB; have HB := n0_; clear n0_; (try clear hb); (try clear hb2); (try clear hk); (try clear hi)))
        go_ret
        exact ⟨by first | rfl | (simp [errW_none, errW_some] <;> rfl) | (simp [*, errW_none, errW_some] <;> rfl), hb_⟩
      · replace c10 := Bool.eq_false_iff.mpr c10
        subst c10
        have H1 : ((cluster_Prune.f kj2 l0 a1).bind fun bt260 => (if bt260.2 = 0 then (if (bt260.1.length : Int) > (l0.length : Int) then (timesynclaw25_ClusterSurvivors.j1 kj2 l0 a1 bt260.1 true) else (timesynclaw25_ClusterSurvivors.j1 kj2 l0 a1 bt260.1 (decide ((bt260.1.length : Int) < (mn a1 (l0.length : Int)))))) else (timesynclaw25_ClusterSurvivors.j1 kj2 l0 a1 bt260.1 true))) = some r := by rw [if_neg (show ¬ (false = true) by decide)] at H; exact H
        clear H
        have H := H1
        clear H1
        replace H := Option.bind_eq_some_iff.mp H
        obtain ⟨⟨t260, t261⟩, A130, H⟩ := H
        replace H : (if t261 = 0 then (if (t260.length : Int) > (l0.length : Int) then (timesynclaw25_ClusterSurvivors.j1 kj2 l0 a1 t260 true) else (timesynclaw25_ClusterSurvivors.j1 kj2 l0 a1 t260 (decide ((t260.length : Int) < (mn a1 (l0.length : Int)))))) else (timesynclaw25_ClusterSurvivors.j1 kj2 l0 a1 t260 true)) = some r := H
        have A13 := Aside0.mk A130
        clear A130
        have HC14 := Aside0.mk H
        clear H
        go_upto_region 4 with (first | ((with_reducible refine gate_callee (f := 19) rfl ?_); refine goesL_ (some 27) rfl rfl Try.func19 (by kernel_rfl) rfl #[.slice A0 l0.length c0, .int .i64 a1] rfl sl_ ?_; (with_reducible refine (cluster_Prune.calls kj2 _ _ l0 a1 t260 t261 _ ?side1 ?side2 A13.out).mono ?_); (case side1 => repeat (first | exact (Kd.C_below HR0.out HB.out) | (with_reducible refine Kd.C_alloc ?_ _) | (with_reducible refine Kd.C_drewN ?_ _) | (with_reducible refine Kd.C_drew ?_))); (case side2 => exact HC0.out); rintro e w15 ⟨v262, rfl, ho0, hb⟩; refine ⟨_, rfl, ?_⟩; have n0_ := Aside0.mk (Kd.R_lower ho0 (below_size hb_)); have n1_ := Aside0.mk (below_step hb_ hb); clear HB; have HO263 := n0_; have HB := n1_; clear n0_ n1_; (try clear hb); (try clear hb2); (try clear hk); (try clear hi); (try clear ho0)))
        (try simp only [Act.put, z1, z2, z3])
        go_cut [47] (fun v47 wc => ∃ (kq : Nat) (x47_13 : Bool), v47 = .bool x47_13 ∧ Aside0 (timesynclaw25_ClusterSurvivors.j1 kq l0 a1 t260 x47_13 = some r) ∧ Aside0 (kq ≤ kj2) ∧ Aside0 (Kd.R k34 34 wc w.heap.size (fun _ => True) v262 t260) ∧ Aside0 (Below w.heap.size w wc))
        case first =>
          have H := HC14.out
          clear HC14
          by_cases c16 : t261 = 0
          · rw [if_pos c16] at H
            have c16b0 : (t261 == 0) = true := beq_iff_eq.mpr c16
            have c16b1 : (t261 != 0) = false := bne_eq_false_iff_eq.mpr c16
            clear c16
            (first | rw [c16b0] | (simp only [i64_w, i32_w]; rw [c16b0]) | skip)
            by_cases c17 : (t260.length : Int) > (l0.length : Int)
            · rw [if_pos c17] at H
              have c17b0 : decide ((l0.length : Int) < (t260.length : Int)) = true := decide_eq_true c17
              have c17b1 : decide (l0.length < t260.length) = true := decide_eq_true (Int.ofNat_lt.mp c17)
              clear c17
              have H' := Aside0.mk H
              clear H
              obtain ⟨Ao18, co18, eo18⟩ := Kd.R_slice HO263.out
              subst eo18
              go_wp2
              go_meet
              case rel => exact ⟨_, (true), (by first | rfl | (simp; done) | (simp [*]; done)), H', ⟨by have := HJ2.out; first | omega | exact Nat.le_refl _⟩, ⟨by (with_reducible repeat (first | apply Kd.R_alloc | apply Kd.R_drewN | apply Kd.R_drew)); exact HO263.out⟩, ⟨hb_⟩⟩
            · rw [if_neg c17] at H
              have c17b0 : decide ((l0.length : Int) < (t260.length : Int)) = false := decide_eq_false c17
              have c17b1 : decide (l0.length < t260.length) = false := decide_eq_false (fun h => c17 (Int.ofNat_lt.mpr h))
              clear c17
              obtain ⟨ji19, hji19⟩ : ∃ j_ : Int, (mn a1 (l0.length : Int)) = j_ := ⟨_, rfl⟩
              replace H : (timesynclaw25_ClusterSurvivors.j1 kj2 l0 a1 t260 (decide ((t260.length : Int) < (ji19)))) = some r := by first | (rw [hji19] at H; exact H) | (simp only [hji19] at H ⊢; exact H)
              have hji19_ : (if (l0.length : Int) < a1 then (l0.length : Int) else a1) = ji19 := hji19
              have H' := Aside0.mk H
              clear H
              obtain ⟨Ao20, co20, eo20⟩ := Kd.R_slice HO263.out
              subst eo20
              go_wp2
              go_meet
              case rel => exact ⟨_, (decide ((t260.length : Int) < (ji19))), (by first | rfl | (simp; done) | (simp only [← hji19] <;> (first | rfl | simp)) | (simp [*]; done)), H', ⟨by have := HJ2.out; first | omega | exact Nat.le_refl _⟩, ⟨by (with_reducible repeat (first | apply Kd.R_alloc | apply Kd.R_drewN | apply Kd.R_drew)); exact HO263.out⟩, ⟨hb_⟩⟩
          · rw [if_neg c16] at H
            have c16b0 : (t261 == 0) = false := beq_eq_false_iff_ne.mpr c16
            have c16b1 : (t261 != 0) = true := bne_iff_ne.mpr c16
            (first | rw [c16b0] | (simp only [i64_w, i32_w]; rw [c16b0]) | skip)
            have H' := Aside0.mk H
            clear H
            go_wp2
            go_meet
            case rel => exact ⟨_, (true), (by first | rfl | (simp; done) | (simp [*]; done)), H', ⟨by have := HJ2.out; first | omega | exact Nat.le_refl _⟩, ⟨by (with_reducible repeat (first | apply Kd.R_alloc | apply Kd.R_drewN | apply Kd.R_drew)); exact HO263.out⟩, ⟨hb_⟩⟩
        case rest =>
          clear HC14
          try clear c1
          try clear p2
          try clear c5
          try clear c7
          try clear c7b0
          try clear c7b1
          try clear c8
          try clear c9
          try clear c10
          try clear c16
          try clear c16b0
          try clear c16b1
          try clear c17
          try clear c17b0
          try clear c17b1
          try clear c19
          try clear p2
          obtain ⟨kq, x47_13, rfl, HA, HJ13, HO_5, HB⟩ := hcut
          cases kq with
          | zero => exact absurd HA.out (by simp [timesynclaw25_ClusterSurvivors.j1])
          | succ kj13 =>
            have H := HA.out
            clear HA
            simp only [timesynclaw25_ClusterSurvivors.j1] at H
            by_cases c21 : x47_13 = true
            · subst c21
              have H1 : (some false) = some r := by rw [if_pos rfl] at H; exact H
              clear H
              have H := H1
              clear H1
              obtain rfl := Option.some.inj H
              go_wp2
              go_ret
              exact ⟨by first | rfl | (simp [errW_none, errW_some] <;> rfl) | (simp [*, errW_none, errW_some] <;> rfl), hb_⟩
            · replace c21 := Bool.eq_false_iff.mpr c21
              subst c21
              have H1 : (timesynclaw25_ClusterSurvivors.l0 kj13 l0 a1 t260 0) = some r := by rw [if_neg (show ¬ (false = true) by decide)] at H; exact H
              clear H
              have H := H1
              clear H1
              have H' := Aside0.mk H
              clear H
              go_wp2
              go_loopg [7] kj13 (fun kq v7 w' => ∃ (x7_3 : Int), v7 = .int .i64 x7_3 ∧ Aside0 (timesynclaw25_ClusterSurvivors.l0 kq l0 a1 t260 x7_3 = some r) ∧ Aside0 (kq ≤ kj13) ∧ Aside0 (Kd.R k34 34 w' w.heap.size (fun _ => True) v262 t260) ∧ Aside0 (Below w.heap.size w w'))
              case atStart => exact ⟨(0), (by first | rfl | (simp; done) | (simp [*]; done)), H', ⟨Nat.le_refl _⟩, ⟨by (with_reducible repeat (first | apply Kd.R_alloc | apply Kd.R_drewN | apply Kd.R_drew)); exact HO_5.out⟩, ⟨hb_⟩⟩
              case round =>
                clear H'
                try clear c1
                try clear c2
                try clear p2
                try clear c5
                try clear c7
                try clear c7b0
                try clear c7b1
                try clear c8
                try clear c9
                try clear c10
                try clear c16
                try clear c16b0
                try clear c16b1
                try clear c17
                try clear c17b0
                try clear c17b1
                try clear c19
                try clear c21
                try clear p2
                obtain ⟨x7_3, rfl, HA, HK3, HO_5, HB⟩ := hrel
                cases gk with
                | zero => exact absurd HA.out (by simp [timesynclaw25_ClusterSurvivors.l0])
                | succ k3 =>
                  have H := HA.out
                  clear HA
                  simp only [timesynclaw25_ClusterSurvivors.l0] at H
                  by_cases c22 : x7_3 < (t260.length : Int)
                  · rw [if_pos c22] at H
                    have c22b0 : decide (x7_3 < (t260.length : Int)) = true := decide_eq_true c22
                    clear c22
                    have H' := Aside0.mk H
                    clear H
                    obtain ⟨Ao23, co23, eo23⟩ := Kd.R_slice HO_5.out
                    subst eo23
                    go_wp2
                    go_loopg [8, 9] k3 (fun kq v8 v9 w' => ∃ (x8_4 : Bool) (x9_4 : Int), v8 = .bool x8_4 ∧ v9 = .int .i64 x9_4 ∧ Aside0 (timesynclaw25_ClusterSurvivors.l1 kq l0 a1 t260 x7_3 x8_4 x9_4 = some r) ∧ Aside0 (kq ≤ k3) ∧ Aside0 (Kd.R k34 34 w' w.heap.size (fun _ => True) (.slice Ao23 t260.length co23) t260) ∧ Aside0 (Below w.heap.size w w'))
                    case atStart => exact ⟨(false), (0), (by first | rfl | (simp; done) | (simp [*]; done)), (by first | rfl | (simp; done) | (simp [*]; done)), H', ⟨Nat.le_refl _⟩, ⟨by (with_reducible repeat (first | apply Kd.R_alloc | apply Kd.R_drewN | apply Kd.R_drew)); exact HO_5.out⟩, ⟨hb_⟩⟩
                    case round =>
                      clear H'
                      try clear c1
                      try clear c2
                      try clear p2
                      try clear c5
                      try clear c7
                      try clear c7b0
                      try clear c7b1
                      try clear c8
                      try clear c9
                      try clear c10
                      try clear c16
                      try clear c16b0
                      try clear c16b1
                      try clear c17
                      try clear c17b0
                      try clear c17b1
                      try clear c19
                      try clear c21
                      try clear c22
                      try clear c22b0
                      try clear p2
                      obtain ⟨x8_4, x9_4, rfl, rfl, HA, HK4, HO_5, HB⟩ := hrel
                      cases gk with
                      | zero => exact absurd HA.out (by simp [timesynclaw25_ClusterSurvivors.l1])
                      | succ k4 =>
                        have H := HA.out
                        clear HA
                        simp only [timesynclaw25_ClusterSurvivors.l1] at H
                        by_cases c24 : x9_4 < (l0.length : Int)
                        · rw [if_pos c24] at H
                          have c24b0 : decide (x9_4 < (l0.length : Int)) = true := decide_eq_true c24
                          clear c24
                          by_cases c25 : x8_4 = true
                          · subst c25
                            have H1 : (timesynclaw25_ClusterSurvivors.l1 k4 l0 a1 t260 x7_3 true (wrap64 (x9_4 + 1))) = some r := by rw [if_pos rfl] at H; exact H
                            clear H
                            have H := H1
                            clear H1
                            have H' := Aside0.mk H
                            clear H
                            try go_wp2
                            have n0_ := Aside0.mk (Kd.R_drew HO_5.out)
                            have n1_ := Aside0.mk (below_drew1 HB.out)
                            clear HO_5
                            clear HB
                            have HO_5 := n0_
                            have HB := n1_
                            clear n0_ n1_
                            refine start_ (n := 13) (S := fun w' => True) (ds := []) b5_0 (by kernel_rfl) rfl rfl trivial (fun hHeld => ?_); refine with_tabW timesynclaw25_ClusterSurvivors.tab13 timesynclaw25_ClusterSurvivors.bits13 (fun HT_ HW_ => ?_)
                            generalize wr.drew = w26 at HO_5 HB hHeld ⊢
                            refine pure_ (i := 0) (N := some 60) (v := ?_) (a' := ?_) b5_1 rfl rfl (any_of HT_.out (by kernel_rfl)) (fun _ _ _ h => h) (Or.inl ⟨by rfl, ?_⟩) ?_ ?_
                            rotate_left
                            · intro w'
                              go_simp
                              with_reducible rfl
                            rotate_left
                            · simp only [Act.put, z1, z2, z3, i64_w, i32_w]
                              rfl
                            refine pure_ (i := 1) (N := some 61) (v := ?_) (a' := ?_) b5_2 rfl rfl (any_of HT_.out (by kernel_rfl)) (fun _ _ _ h => h) (Or.inl ⟨by rfl, ?_⟩) ?_ ?_
                            rotate_left
                            · intro w'
                              go_simp
                              with_reducible rfl
                            rotate_left
                            · simp only [Act.put, z1, z2, z3, i64_w, i32_w]
                              rfl
                            refine pure_ (i := 2) (N := some 62) (v := undef) (a' := ?_) b5_3 rfl rfl (any_of HT_.out (by kernel_rfl)) (fun _ _ _ h => h) (Or.inr ⟨by rfl, rfl⟩) ?_ ?_
                            rotate_left
                            · simp only [Act.put, z1, z2, z3, i64_w, i32_w]
                              rfl
                            refine pure_ (i := 3) (N := some 63) (v := undef) (a' := ?_) b5_4 rfl rfl (any_of HT_.out (by kernel_rfl)) (fun _ _ _ h => h) (Or.inr ⟨by rfl, rfl⟩) ?_ ?_
                            rotate_left
                            · simp only [Act.put, z1, z2, z3, i64_w, i32_w]
                              rfl
                            refine pure_ (i := 4) (N := some 64) (v := undef) (a' := ?_) b5_5 rfl rfl (any_of HT_.out (by kernel_rfl)) (fun _ _ _ h => h) (Or.inr ⟨by rfl, rfl⟩) ?_ ?_
                            rotate_left
                            · simp only [Act.put, z1, z2, z3, i64_w, i32_w]
                              rfl
                            refine pure_ (i := 5) (N := some 65) (v := undef) (a' := ?_) b5_6 rfl rfl (any_of HT_.out (by kernel_rfl)) (fun _ _ _ h => h) (Or.inr ⟨by rfl, rfl⟩) ?_ ?_
                            rotate_left
                            · simp only [Act.put, z1, z2, z3, i64_w, i32_w]
                              rfl
                            refine pure_ (i := 6) (N := some 66) (v := undef) (a' := ?_) b5_7 rfl rfl (any_of HT_.out (by kernel_rfl)) (fun _ _ _ h => h) (Or.inr ⟨by rfl, rfl⟩) ?_ ?_
                            rotate_left
                            · simp only [Act.put, z1, z2, z3, i64_w, i32_w]
                              rfl
                            refine pure_ (i := 7) (N := some 67) (v := undef) (a' := ?_) b5_8 rfl rfl (any_of HT_.out (by kernel_rfl)) (fun _ _ _ h => h) (Or.inr ⟨by rfl, rfl⟩) ?_ ?_
                            rotate_left
                            · simp only [Act.put, z1, z2, z3, i64_w, i32_w]
                              rfl
                            refine pure_ (i := 8) (N := some 68) (v := undef) (a' := ?_) b5_9 rfl rfl (any_of HT_.out (by kernel_rfl)) (fun _ _ _ h => h) (Or.inr ⟨by rfl, rfl⟩) ?_ ?_
                            rotate_left
                            · simp only [Act.put, z1, z2, z3, i64_w, i32_w]
                              rfl
                            refine pure_ (i := 9) (N := some 69) (v := undef) (a' := ?_) b5_10 rfl rfl (any_of HT_.out (by kernel_rfl)) (fun _ _ _ h => h) (Or.inr ⟨by rfl, rfl⟩) ?_ ?_
                            rotate_left
                            · simp only [Act.put, z1, z2, z3, i64_w, i32_w]
                              rfl
                            refine pure_ (i := 10) (N := some 70) (v := undef) (a' := ?_) b5_11 rfl rfl (any_of HT_.out (by kernel_rfl)) (fun _ _ _ h => h) (Or.inr ⟨by rfl, rfl⟩) ?_ ?_
                            rotate_left
                            · simp only [Act.put, z1, z2, z3, i64_w, i32_w]
                              rfl
                            refine pure_ (i := 11) (N := some 71) (v := ?_) (a' := ?_) b5_12 rfl rfl (any_of HT_.out (by kernel_rfl)) (fun _ _ _ h => h) (Or.inl ⟨by rfl, ?_⟩) ?_ ?_
                            rotate_left
                            · intro w'
                              go_simp
                              with_reducible rfl
                            rotate_left
                            · simp only [Act.put, z1, z2, z3, i64_w, i32_w]
                              rfl
                            refine pure_ (i := 12) (N := some 8) (v := ?_) (a' := ?_) b5_13 rfl rfl (any_of HT_.out (by kernel_rfl)) (fun _ _ _ h => h) (Or.inl ⟨by rfl, ?_⟩) ?_ ?_
                            rotate_left
                            · intro w'
                              go_simp
                              with_reducible rfl
                            rotate_left
                            · simp only [Act.put, z1, z2, z3, i64_w, i32_w]
                              rfl
                            refine done_ (done_of HT_.out (by kernel_rfl)) ?_
                            try go_wp2
                            go_roundg k4
                            case measure => have := HJ2.out; have := HJ13.out; have := HK3.out; have := HK4.out; omega
                            case rel => exact ⟨(true), (wrap64 (x9_4 + 1)), (by first | rfl | (simp; done) | (simp [*]; done)), (by first | rfl | (simp; done) | (simp [*]; done)), H', ⟨by have := HJ2.out; have := HJ13.out; have := HK3.out; have := HK4.out; omega⟩, ⟨by (with_reducible repeat (first | apply Kd.R_alloc | apply Kd.R_drewN | apply Kd.R_drew)); exact HO_5.out⟩, ⟨hb_⟩⟩
                          · replace c25 := Bool.eq_false_iff.mpr c25
                            subst c25
                            have H1 : (if 0 ≤ x9_4 then (if 0 ≤ x7_3 then (if x7_3 < (t260.length : Int) then (timesynclaw25_ClusterSurvivors.l1 k4 l0 a1 t260 x7_3 (((rd_T34 l0 x9_4).f0) == ((rd_T34 t260 x7_3).f0) && (((rd_T34 l0 x9_4).f1) == ((rd_T34 t260 x7_3).f1) && (((rd_T34 l0 x9_4).f2) == ((rd_T34 t260 x7_3).f2) && (((rd_T34 l0 x9_4).f3) == ((rd_T34 t260 x7_3).f3) && (((rd_T34 l0 x9_4).f4) == ((rd_T34 t260 x7_3).f4)))))) (wrap64 (x9_4 + 1))) else (none)) else (none)) else (none)) = some r := by rw [if_neg (show ¬ (false = true) by decide)] at H; exact H
                            clear H
                            have H := H1
                            clear H1
                            by_cases c27 : 0 ≤ x9_4
                            · rw [if_pos c27] at H
                              have c27b0 : decide (0 ≤ x9_4) = true := decide_eq_true c27
                              clear c27
                              by_cases c28 : 0 ≤ x7_3
                              · rw [if_pos c28] at H
                                have c28b0 : decide (0 ≤ x7_3) = true := decide_eq_true c28
                                clear c28
                                by_cases c29 : x7_3 < (t260.length : Int)
                                · rw [if_pos c29] at H
                                  have c29b0 : decide (x7_3 < (t260.length : Int)) = true := decide_eq_true c29
                                  clear c29
                                  have H' := Aside0.mk H
                                  clear H
                                  try go_wp2
                                  have n0_ := Aside0.mk (Kd.R_drew HO_5.out)
                                  have n1_ := Aside0.mk (below_drew1 HB.out)
                                  clear HO_5
                                  clear HB
                                  have HO_5 := n0_
                                  have HB := n1_
                                  clear n0_ n1_
                                  have p265 : 0 ≤ (x9_4 : Int) := of_decide_eq_true (by first | (with_reducible assumption) | assumption)
                                  have q265 : x9_4 < (l0.length : Int) := of_decide_eq_true (by first | (with_reducible assumption) | assumption)
                                  obtain ⟨ad265, e265, hx265_0, hx265_1, hx265_2, hx265_3, hx265_4⟩ := at_T34 HR0.out x9_4 p265 q265
                                  have hw265_4 := hx265_4
                                  have hw265_3 := hx265_3
                                  have hw265_2 := hx265_2
                                  have hw265_1 := hx265_1
                                  have hw265_0 := hx265_0
                                  cases e265
                                  replace hx265_0 := (HB.out.cell (World.block_lt_of_cell? w _ hx265_0)).trans hx265_0
                                  replace hx265_1 := (HB.out.cell (World.block_lt_of_cell? w _ hx265_1)).trans hx265_1
                                  replace hx265_2 := (HB.out.cell (World.block_lt_of_cell? w _ hx265_2)).trans hx265_2
                                  replace hx265_3 := (HB.out.cell (World.block_lt_of_cell? w _ hx265_3)).trans hx265_3
                                  replace hx265_4 := (HB.out.cell (World.block_lt_of_cell? w _ hx265_4)).trans hx265_4
                                  replace p265 := eq_true p265
                                  replace q265 := eq_true q265
                                  have p266 : 0 ≤ (x7_3 : Int) := of_decide_eq_true (by first | (with_reducible assumption) | assumption)
                                  have q266 : x7_3 < (t260.length : Int) := of_decide_eq_true (by first | (with_reducible assumption) | assumption)
                                  obtain ⟨ad266, e266, hx266_0, hx266_1, hx266_2, hx266_3, hx266_4⟩ := at_T34 (Kd.R_reads' HO_5.out).2.2 x7_3 p266 q266
                                  cases e266
                                  replace p266 := eq_true p266
                                  replace q266 := eq_true q266
                                  refine start_ (n := 13) (S := fun w' => w'.cell? (ad265.add ((x9_4).toNat * 5)) = some (.int .i64 ((rd_T34 l0 x9_4).f0)) ∧ w'.cell? ⟨(ad265.add ((x9_4).toNat * 5)).block, (ad265.add ((x9_4).toNat * 5)).off + 1, none⟩ = some (.int .i64 ((rd_T34 l0 x9_4).f1)) ∧ w'.cell? ⟨(ad265.add ((x9_4).toNat * 5)).block, (ad265.add ((x9_4).toNat * 5)).off + 2, none⟩ = some (.int .i64 ((rd_T34 l0 x9_4).f2)) ∧ w'.cell? ⟨(ad265.add ((x9_4).toNat * 5)).block, (ad265.add ((x9_4).toNat * 5)).off + 3, none⟩ = some (.int .i64 ((rd_T34 l0 x9_4).f3)) ∧ w'.cell? ⟨(ad265.add ((x9_4).toNat * 5)).block, (ad265.add ((x9_4).toNat * 5)).off + 4, none⟩ = some (.int .i64 ((rd_T34 l0 x9_4).f4)) ∧ w'.cell? (ad266.add ((x7_3).toNat * 5)) = some (.int .i64 ((rd_T34 t260 x7_3).f0)) ∧ w'.cell? ⟨(ad266.add ((x7_3).toNat * 5)).block, (ad266.add ((x7_3).toNat * 5)).off + 1, none⟩ = some (.int .i64 ((rd_T34 t260 x7_3).f1)) ∧ w'.cell? ⟨(ad266.add ((x7_3).toNat * 5)).block, (ad266.add ((x7_3).toNat * 5)).off + 2, none⟩ = some (.int .i64 ((rd_T34 t260 x7_3).f2)) ∧ w'.cell? ⟨(ad266.add ((x7_3).toNat * 5)).block, (ad266.add ((x7_3).toNat * 5)).off + 3, none⟩ = some (.int .i64 ((rd_T34 t260 x7_3).f3)) ∧ w'.cell? ⟨(ad266.add ((x7_3).toNat * 5)).block, (ad266.add ((x7_3).toNat * 5)).off + 4, none⟩ = some (.int .i64 ((rd_T34 t260 x7_3).f4))) (ds := []) b5_0 (by kernel_rfl) rfl rfl ⟨((HB.out.cell (World.block_lt_of_cell? w _ hw265_0)).trans hw265_0), ((HB.out.cell (World.block_lt_of_cell? w _ hw265_1)).trans hw265_1), ((HB.out.cell (World.block_lt_of_cell? w _ hw265_2)).trans hw265_2), ((HB.out.cell (World.block_lt_of_cell? w _ hw265_3)).trans hw265_3), ((HB.out.cell (World.block_lt_of_cell? w _ hw265_4)).trans hw265_4), hx266_0, hx266_1, hx266_2, hx266_3, hx266_4⟩ (fun hHeld => ?_); refine with_tabW timesynclaw25_ClusterSurvivors.tab13 timesynclaw25_ClusterSurvivors.bits13 (fun HT_ HW_ => ?_)
                                  generalize wr.drew = w30 at HO_5 HB hx265_0 hx265_1 hx265_2 hx265_3 hx265_4 hx266_0 hx266_1 hx266_2 hx266_3 hx266_4 hHeld ⊢
                                  refine pure_ (i := 0) (N := some 60) (v := ?_) (a' := ?_) b5_1 rfl rfl (any_of HT_.out (by kernel_rfl)) (fun _ _ _ h => h) (Or.inl ⟨by rfl, ?_⟩) ?_ ?_
                                  rotate_left
                                  · intro w'
                                    go_simp
                                    with_reducible rfl
                                  rotate_left
                                  · simp only [Act.put, z1, z2, z3, i64_w, i32_w]
                                    rfl
                                  refine pure_ (i := 1) (N := some 61) (v := ?_) (a' := ?_) b5_2 rfl rfl (any_of HT_.out (by kernel_rfl)) (fun _ _ _ h => h) (Or.inl ⟨by rfl, ?_⟩) ?_ ?_
                                  rotate_left
                                  · intro w'
                                    go_simp
                                    with_reducible rfl
                                  rotate_left
                                  · simp only [Act.put, z1, z2, z3, i64_w, i32_w]
                                    rfl
                                  refine pure_ (i := 2) (N := some 62) (v := ?_) (a' := ?_) b5_3 rfl rfl (any_of HT_.out (by kernel_rfl)) (fun _ _ _ h => h) (Or.inl ⟨by rfl, ?_⟩) ?_ ?_
                                  rotate_left
                                  · intro w'
                                    go_simp
                                    with_reducible rfl
                                  rotate_left
                                  · simp only [Act.put, z1, z2, z3, i64_w, i32_w]
                                    rfl
                                  refine pure_ (i := 3) (N := some 63) (v := ?_) (a' := ?_) b5_4 rfl rfl (any_of HT_.out (by kernel_rfl)) (fun _ _ _ h => h) (Or.inl ⟨by rfl, ?_⟩) ?_ ?_
                                  rotate_left
                                  · intro w'
                                    go_simp
                                    with_reducible rfl
                                  rotate_left
                                  · simp only [Act.put, z1, z2, z3, i64_w, i32_w]
                                    rfl
                                  refine pure_ (i := 4) (N := some 64) (v := ?_) (a' := ?_) b5_5 rfl rfl (any_of HT_.out (by kernel_rfl)) (fun _ _ _ h => h) (Or.inl ⟨by rfl, ?_⟩) ?_ ?_
                                  rotate_left
                                  · intro w'
                                    go_simp
                                    with_reducible rfl
                                  rotate_left
                                  · simp only [Act.put, z1, z2, z3, i64_w, i32_w]
                                    rfl
                                  refine pure_ (i := 6) (N := some 66) (v := ?_) (a' := ?_) b5_14 rfl rfl (any_of HT_.out (by kernel_rfl)) (fun _ _ _ h => h) (Or.inl ⟨by rfl, ?_⟩) ?_ ?_
                                  rotate_left
                                  · intro w'
                                    go_simp
                                    with_reducible rfl
                                  rotate_left
                                  · simp only [Act.put, z1, z2, z3, i64_w, i32_w]
                                    rfl
                                  refine pure_ (i := 7) (N := some 67) (v := ?_) (a' := ?_) b5_15 rfl rfl (any_of HT_.out (by kernel_rfl)) (fun _ _ _ h => h) (Or.inl ⟨by rfl, ?_⟩) ?_ ?_
                                  rotate_left
                                  · intro w'
                                    go_simp
                                    with_reducible rfl
                                  rotate_left
                                  · simp only [Act.put, z1, z2, z3, i64_w, i32_w]
                                    rfl
                                  refine pure_ (i := 8) (N := some 68) (v := ?_) (a' := ?_) b5_16 rfl rfl (any_of HT_.out (by kernel_rfl)) (fun _ _ _ h => h) (Or.inl ⟨by rfl, ?_⟩) ?_ ?_
                                  rotate_left
                                  · intro w'
                                    go_simp
                                    with_reducible rfl
                                  rotate_left
                                  · simp only [Act.put, z1, z2, z3, i64_w, i32_w]
                                    rfl
                                  refine take_ (i := 5) (N := some 65) (v := ?_) (a' := ?_) b5_9 rfl rfl (take_ofW HT_.out HW_.out (by kernel_rfl)) (fun _ _ _ h => h) (Or.inl ⟨by rfl, ?_⟩) hHeld ?_ ?_
                                  rotate_left
                                  · rintro w' ⟨s0, s1, s2, s3, s4, s5, s6, s7, s8, s9⟩
                                    go_simp
                                    with_reducible rfl
                                  rotate_left
                                  · simp only [Act.put, z1, z2, z3, i64_w, i32_w]
                                    rfl
                                  refine take_ (i := 9) (N := some 69) (v := ?_) (a' := ?_) b5_10 rfl rfl (take_ofW HT_.out HW_.out (by kernel_rfl)) (fun _ _ _ h => h) (Or.inl ⟨by rfl, ?_⟩) hHeld ?_ ?_
                                  rotate_left
                                  · rintro w' ⟨s0, s1, s2, s3, s4, s5, s6, s7, s8, s9⟩
                                    go_simp
                                    with_reducible rfl
                                  rotate_left
                                  · simp only [Act.put, z1, z2, z3, i64_w, i32_w]
                                    rfl
                                  refine pure_ (i := 10) (N := some 70) (v := ?_) (a' := ?_) b5_11 rfl rfl (any_of HT_.out (by kernel_rfl)) (fun _ _ _ h => h) (Or.inl ⟨by rfl, ?_⟩) ?_ ?_
                                  rotate_left
                                  · intro w'
                                    go_simp
                                    with_reducible rfl
                                  rotate_left
                                  · simp only [Act.put, z1, z2, z3, i64_w, i32_w]
                                    rfl
                                  refine pure_ (i := 11) (N := some 71) (v := ?_) (a' := ?_) b5_12 rfl rfl (any_of HT_.out (by kernel_rfl)) (fun _ _ _ h => h) (Or.inl ⟨by rfl, ?_⟩) ?_ ?_
                                  rotate_left
                                  · intro w'
                                    go_simp
                                    with_reducible rfl
                                  rotate_left
                                  · simp only [Act.put, z1, z2, z3, i64_w, i32_w]
                                    rfl
                                  refine pure_ (i := 12) (N := some 8) (v := ?_) (a' := ?_) b5_13 rfl rfl (any_of HT_.out (by kernel_rfl)) (fun _ _ _ h => h) (Or.inl ⟨by rfl, ?_⟩) ?_ ?_
                                  rotate_left
                                  · intro w'
                                    go_simp
                                    with_reducible rfl
                                  rotate_left
                                  · simp only [Act.put, z1, z2, z3, i64_w, i32_w]
                                    rfl
                                  refine done_ (done_of HT_.out (by kernel_rfl)) ?_
                                  try go_wp2
                                  go_roundg k4
                                  case measure => have := HJ2.out; have := HJ13.out; have := HK3.out; have := HK4.out; omega
                                  case rel => exact ⟨((((rd_T34 l0 x9_4).f0) == ((rd_T34 t260 x7_3).f0) && (((rd_T34 l0 x9_4).f1) == ((rd_T34 t260 x7_3).f1) && (((rd_T34 l0 x9_4).f2) == ((rd_T34 t260 x7_3).f2) && (((rd_T34 l0 x9_4).f3) == ((rd_T34 t260 x7_3).f3) && (((rd_T34 l0 x9_4).f4) == ((rd_T34 t260 x7_3).f4))))))), (wrap64 (x9_4 + 1)), (by first | rfl | (simp; done) | (simp [*]; done)), (by first | rfl | (simp; done) | (simp [*]; done)), H', ⟨by have := HJ2.out; have := HJ13.out; have := HK3.out; have := HK4.out; omega⟩, ⟨by (with_reducible repeat (first | apply Kd.R_alloc | apply Kd.R_drewN | apply Kd.R_drew)); exact HO_5.out⟩, ⟨hb_⟩⟩
                                · rw [if_neg c29] at H
                                  exact absurd H (by simp)
                              · rw [if_neg c28] at H
                                exact absurd H (by simp)
                            · rw [if_neg c27] at H
                              exact absurd H (by simp)
                        · rw [if_neg c24] at H
                          have c24b0 : decide (x9_4 < (l0.length : Int)) = false := decide_eq_false c24
                          clear c24
                          have HC31 := Aside0.mk H
                          clear H
                          go_upto_region 14 with (fail)
                          go_cut [90] (fun v90 wc => ∃ (kq : Nat) (x90_30 : Bool), v90 = .bool x90_30 ∧ Aside0 (timesynclaw25_ClusterSurvivors.j4 kq l0 a1 t260 x7_3 x90_30 = some r) ∧ Aside0 (kq ≤ k4) ∧ Aside0 (Kd.R k34 34 wc w.heap.size (fun _ => True) (.slice Ao23 t260.length co23) t260) ∧ Aside0 (Below w.heap.size w wc))
                          case first =>
                            have H := HC31.out
                            clear HC31
                            by_cases c32 : x8_4 = true
                            · subst c32
                              have H1 : (if x7_3 > 0 then (if 0 ≤ (wrap64 (x7_3 - 1)) then (if (wrap64 (x7_3 - 1)) < (t260.length : Int) then (if 0 ≤ x7_3 then (if x7_3 < (t260.length : Int) then ((timesynclaw25_rank.f ((rd_T34 t260 (wrap64 (x7_3 - 1))).f0) ((rd_T34 t260 (wrap64 (x7_3 - 1))).f1) ((rd_T34 t260 (wrap64 (x7_3 - 1))).f2) ((rd_T34 t260 (wrap64 (x7_3 - 1))).f3) ((rd_T34 t260 (wrap64 (x7_3 - 1))).f4) ((rd_T34 t260 x7_3).f0) ((rd_T34 t260 x7_3).f1) ((rd_T34 t260 x7_3).f2) ((rd_T34 t260 x7_3).f3) ((rd_T34 t260 x7_3).f4)).bind fun t269 => (timesynclaw25_ClusterSurvivors.j4 k4 l0 a1 t260 x7_3 (t269 != 1))) else (none)) else (none)) else (none)) else (none)) else (timesynclaw25_ClusterSurvivors.j4 k4 l0 a1 t260 x7_3 false)) = some r := by rw [if_pos rfl] at H; exact H
                              clear H
                              have H := H1
                              clear H1
                              by_cases c33 : x7_3 > 0
                              · rw [if_pos c33] at H
                                have c33b0 : decide (0 < x7_3) = true := decide_eq_true c33
                                clear c33
                                (first | rw [c33b0] | (simp only [i64_w, i32_w]; rw [c33b0]) | skip)
                                obtain ⟨ji34, hji34⟩ : ∃ j_ : Int, (wrap64 (x7_3 - 1)) = j_ := ⟨_, rfl⟩
                                replace H : (if 0 ≤ (ji34) then (if (ji34) < (t260.length : Int) then (if 0 ≤ x7_3 then (if x7_3 < (t260.length : Int) then ((timesynclaw25_rank.f ((rd_T34 t260 (ji34)).f0) ((rd_T34 t260 (ji34)).f1) ((rd_T34 t260 (ji34)).f2) ((rd_T34 t260 (ji34)).f3) ((rd_T34 t260 (ji34)).f4) ((rd_T34 t260 x7_3).f0) ((rd_T34 t260 x7_3).f1) ((rd_T34 t260 x7_3).f2) ((rd_T34 t260 x7_3).f3) ((rd_T34 t260 x7_3).f4)).bind fun t269 => (timesynclaw25_ClusterSurvivors.j4 k4 l0 a1 t260 x7_3 (t269 != 1))) else (none)) else (none)) else (none)) else (none)) = some r := by first | (rw [hji34] at H; exact H) | (simp only [hji34] at H ⊢; exact H)
                                have hji34w : (IntKind.i64.wrap (x7_3 - 1)) = ji34 := (i64_w _).trans hji34
                                by_cases c35 : 0 ≤ (ji34)
                                · rw [if_pos c35] at H
                                  have c35b0 : decide (0 ≤ (ji34)) = true := decide_eq_true c35
                                  clear c35
                                  by_cases c36 : (ji34) < (t260.length : Int)
                                  · rw [if_pos c36] at H
                                    have c36b0 : decide ((ji34) < (t260.length : Int)) = true := decide_eq_true c36
                                    clear c36
                                    by_cases c37 : 0 ≤ x7_3
                                    · rw [if_pos c37] at H
                                      have c37b0 : decide (0 ≤ x7_3) = true := decide_eq_true c37
                                      clear c37
                                      by_cases c38 : x7_3 < (t260.length : Int)
                                      · rw [if_pos c38] at H
                                        have c38b0 : decide (x7_3 < (t260.length : Int)) = true := decide_eq_true c38
                                        clear c38
                                        replace H := Option.bind_eq_some_iff.mp H
                                        obtain ⟨t269, A390, H⟩ := H
                                        replace H : (timesynclaw25_ClusterSurvivors.j4 k4 l0 a1 t260 x7_3 (t269 != 1)) = some r := H
                                        have A39 := Aside0.mk A390
                                        clear A390
                                        have H' := Aside0.mk H
                                        clear H
                                        try go_wp2
                                        have n0_ := Aside0.mk (Kd.R_drew HO_5.out)
                                        have n1_ := Aside0.mk (below_drew1 HB.out)
                                        clear HO_5
                                        clear HB
                                        have HO_5 := n0_
                                        have HB := n1_
                                        clear n0_ n1_
                                        have p267 : 0 ≤ ((ji34) : Int) := of_decide_eq_true (by first | (with_reducible assumption) | assumption)
                                        have q267 : (ji34) < (t260.length : Int) := of_decide_eq_true (by first | (with_reducible assumption) | assumption)
                                        obtain ⟨ad267, e267, hx267_0, hx267_1, hx267_2, hx267_3, hx267_4⟩ := at_T34 (Kd.R_reads' HO_5.out).2.2 (ji34) p267 q267
                                        cases e267
                                        replace p267 := eq_true p267
                                        replace q267 := eq_true q267
                                        have p268 : 0 ≤ (x7_3 : Int) := of_decide_eq_true (by first | (with_reducible assumption) | assumption)
                                        have q268 : x7_3 < (t260.length : Int) := of_decide_eq_true (by first | (with_reducible assumption) | assumption)
                                        obtain ⟨ad268, e268, hx268_0, hx268_1, hx268_2, hx268_3, hx268_4⟩ := at_T34 (Kd.R_reads' HO_5.out).2.2 x7_3 p268 q268
                                        obtain rfl : ad267 = ad268 := (by injection e268)
                                        replace p268 := eq_true p268
                                        replace q268 := eq_true q268
                                        refine start_ (n := 19) (S := fun w' => w'.cell? (ad267.add (((ji34)).toNat * 5)) = some (.int .i64 ((rd_T34 t260 (ji34)).f0)) ∧ w'.cell? ⟨(ad267.add (((ji34)).toNat * 5)).block, (ad267.add (((ji34)).toNat * 5)).off + 1, none⟩ = some (.int .i64 ((rd_T34 t260 (ji34)).f1)) ∧ w'.cell? ⟨(ad267.add (((ji34)).toNat * 5)).block, (ad267.add (((ji34)).toNat * 5)).off + 2, none⟩ = some (.int .i64 ((rd_T34 t260 (ji34)).f2)) ∧ w'.cell? ⟨(ad267.add (((ji34)).toNat * 5)).block, (ad267.add (((ji34)).toNat * 5)).off + 3, none⟩ = some (.int .i64 ((rd_T34 t260 (ji34)).f3)) ∧ w'.cell? ⟨(ad267.add (((ji34)).toNat * 5)).block, (ad267.add (((ji34)).toNat * 5)).off + 4, none⟩ = some (.int .i64 ((rd_T34 t260 (ji34)).f4)) ∧ w'.cell? (ad267.add ((x7_3).toNat * 5)) = some (.int .i64 ((rd_T34 t260 x7_3).f0)) ∧ w'.cell? ⟨(ad267.add ((x7_3).toNat * 5)).block, (ad267.add ((x7_3).toNat * 5)).off + 1, none⟩ = some (.int .i64 ((rd_T34 t260 x7_3).f1)) ∧ w'.cell? ⟨(ad267.add ((x7_3).toNat * 5)).block, (ad267.add ((x7_3).toNat * 5)).off + 2, none⟩ = some (.int .i64 ((rd_T34 t260 x7_3).f2)) ∧ w'.cell? ⟨(ad267.add ((x7_3).toNat * 5)).block, (ad267.add ((x7_3).toNat * 5)).off + 3, none⟩ = some (.int .i64 ((rd_T34 t260 x7_3).f3)) ∧ w'.cell? ⟨(ad267.add ((x7_3).toNat * 5)).block, (ad267.add ((x7_3).toNat * 5)).off + 4, none⟩ = some (.int .i64 ((rd_T34 t260 x7_3).f4))) (ds := []) b5_17 (by kernel_rfl) rfl rfl ⟨hx267_0, hx267_1, hx267_2, hx267_3, hx267_4, hx268_0, hx268_1, hx268_2, hx268_3, hx268_4⟩ (fun hHeld => ?_); refine with_tabW timesynclaw25_ClusterSurvivors.tab14 timesynclaw25_ClusterSurvivors.bits14 (fun HT_ HW_ => ?_)
                                        generalize wr.drew = w40 at HO_5 HB hx267_0 hx267_1 hx267_2 hx267_3 hx267_4 hx268_0 hx268_1 hx268_2 hx268_3 hx268_4 hHeld ⊢
                                        refine pure_ (i := 0) (N := some 72) (v := ?_) (a' := ?_) b5_18 rfl rfl (any_of HT_.out (by kernel_rfl)) (fun _ _ _ h => h) (Or.inl ⟨by rfl, ?_⟩) ?_ ?_
                                        rotate_left
                                        · intro w'
                                          go_simp
                                          with_reducible rfl
                                        rotate_left
                                        · simp only [Act.put, z1, z2, z3, i64_w, i32_w]
                                          rfl
                                        refine pure_ (i := 1) (N := some 73) (v := ?_) (a' := ?_) b5_19 rfl rfl (any_of HT_.out (by kernel_rfl)) (fun _ _ _ h => h) (Or.inl ⟨by rfl, ?_⟩) ?_ ?_
                                        rotate_left
                                        · intro w'
                                          go_simp
                                          with_reducible rfl
                                        rotate_left
                                        · simp only [Act.put, z1, z2, z3, i64_w, i32_w]
                                          rfl
                                        refine pure_ (i := 2) (N := some 74) (v := ?_) (a' := ?_) b5_20 rfl rfl (any_of HT_.out (by kernel_rfl)) (fun _ _ _ h => h) (Or.inl ⟨by rfl, ?_⟩) ?_ ?_
                                        rotate_left
                                        · intro w'
                                          go_simp
                                          with_reducible rfl
                                        rotate_left
                                        · simp only [Act.put, z1, z2, z3, i64_w, i32_w]
                                          rfl
                                        refine pure_ (i := 3) (N := some 75) (v := ?_) (a' := ?_) b5_21 rfl rfl (any_of HT_.out (by kernel_rfl)) (fun _ _ _ h => h) (Or.inl ⟨by rfl, ?_⟩) ?_ ?_
                                        rotate_left
                                        · intro w'
                                          go_simp
                                          with_reducible rfl
                                        rotate_left
                                        · simp only [Act.put, z1, z2, z3, i64_w, i32_w]
                                          rfl
                                        refine pure_ (i := 4) (N := some 76) (v := ?_) (a' := ?_) b5_22 rfl rfl (any_of HT_.out (by kernel_rfl)) (fun _ _ _ h => h) (Or.inl ⟨by rfl, ?_⟩) ?_ ?_
                                        rotate_left
                                        · intro w'
                                          go_simp
                                          with_reducible rfl
                                        rotate_left
                                        · simp only [Act.put, z1, z2, z3, i64_w, i32_w]
                                          rfl
                                        refine pure_ (i := 5) (N := some 77) (v := ?_) (a' := ?_) b5_23 rfl rfl (any_of HT_.out (by kernel_rfl)) (fun _ _ _ h => h) (Or.inl ⟨by rfl, ?_⟩) ?_ ?_
                                        rotate_left
                                        · intro w'
                                          go_simp
                                          with_reducible rfl
                                        rotate_left
                                        · simp only [Act.put, z1, z2, z3, i64_w, i32_w]
                                          rfl
                                        refine pure_ (i := 6) (N := some 78) (v := ?_) (a' := ?_) b5_24 rfl rfl (any_of HT_.out (by kernel_rfl)) (fun _ _ _ h => h) (Or.inl ⟨by rfl, ?_⟩) ?_ ?_
                                        rotate_left
                                        · intro w'
                                          go_simp
                                          with_reducible rfl
                                        rotate_left
                                        · simp only [Act.put, z1, z2, z3, i64_w, i32_w]
                                          rfl
                                        refine pure_ (i := 7) (N := some 79) (v := ?_) (a' := ?_) b5_25 rfl rfl (any_of HT_.out (by kernel_rfl)) (fun _ _ _ h => h) (Or.inl ⟨by rfl, ?_⟩) ?_ ?_
                                        rotate_left
                                        · intro w'
                                          go_simp
                                          with_reducible rfl
                                        rotate_left
                                        · simp only [Act.put, z1, z2, z3, i64_w, i32_w]
                                          rfl
                                        refine pure_ (i := 8) (N := some 80) (v := ?_) (a' := ?_) b5_26 rfl rfl (any_of HT_.out (by kernel_rfl)) (fun _ _ _ h => h) (Or.inl ⟨by rfl, ?_⟩) ?_ ?_
                                        rotate_left
                                        · intro w'
                                          go_simp
                                          with_reducible rfl
                                        rotate_left
                                        · simp only [Act.put, z1, z2, z3, i64_w, i32_w]
                                          rfl
                                        refine pure_ (i := 9) (N := some 81) (v := ?_) (a' := ?_) b5_27 rfl rfl (any_of HT_.out (by kernel_rfl)) (fun _ _ _ h => h) (Or.inl ⟨by rfl, ?_⟩) ?_ ?_
                                        rotate_left
                                        · intro w'
                                          go_simp
                                          with_reducible rfl
                                        rotate_left
                                        · simp only [Act.put, z1, z2, z3, i64_w, i32_w]
                                          rfl
                                        refine pure_ (i := 11) (N := some 83) (v := ?_) (a' := ?_) b5_28 rfl rfl (any_of HT_.out (by kernel_rfl)) (fun _ _ _ h => h) (Or.inl ⟨by rfl, ?_⟩) ?_ ?_
                                        rotate_left
                                        · intro w'
                                          go_simp
                                          with_reducible rfl
                                        rotate_left
                                        · simp only [Act.put, z1, z2, z3, i64_w, i32_w]
                                          rfl
                                        refine pure_ (i := 12) (N := some 84) (v := ?_) (a' := ?_) b5_29 rfl rfl (any_of HT_.out (by kernel_rfl)) (fun _ _ _ h => h) (Or.inl ⟨by rfl, ?_⟩) ?_ ?_
                                        rotate_left
                                        · intro w'
                                          go_simp
                                          with_reducible rfl
                                        rotate_left
                                        · simp only [Act.put, z1, z2, z3, i64_w, i32_w]
                                          rfl
                                        refine pure_ (i := 13) (N := some 85) (v := ?_) (a' := ?_) b5_30 rfl rfl (any_of HT_.out (by kernel_rfl)) (fun _ _ _ h => h) (Or.inl ⟨by rfl, ?_⟩) ?_ ?_
                                        rotate_left
                                        · intro w'
                                          go_simp
                                          with_reducible rfl
                                        rotate_left
                                        · simp only [Act.put, z1, z2, z3, i64_w, i32_w]
                                          rfl
                                        refine take_ (i := 10) (N := some 82) (v := ?_) (a' := ?_) b5_31 rfl rfl (take_ofW HT_.out HW_.out (by kernel_rfl)) (fun _ _ _ h => h) (Or.inl ⟨by rfl, ?_⟩) hHeld ?_ ?_
                                        rotate_left
                                        · rintro w' ⟨s0, s1, s2, s3, s4, s5, s6, s7, s8, s9⟩
                                          go_simp
                                          with_reducible rfl
                                        rotate_left
                                        · simp only [Act.put, z1, z2, z3, i64_w, i32_w]
                                          rfl
                                        refine take_ (i := 14) (N := some 86) (v := ?_) (a' := ?_) b5_32 rfl rfl (take_ofW HT_.out HW_.out (by kernel_rfl)) (fun _ _ _ h => h) (Or.inl ⟨by rfl, ?_⟩) hHeld ?_ ?_
                                        rotate_left
                                        · rintro w' ⟨s0, s1, s2, s3, s4, s5, s6, s7, s8, s9⟩
                                          go_simp
                                          with_reducible rfl
                                        rotate_left
                                        · simp only [Act.put, z1, z2, z3, i64_w, i32_w]
                                          rfl
                                        refine one_ (i := 15) (N := some 87) b5_33 rfl rfl (one_of HT_.out (by kernel_rfl)) (by decide) (fun K hK => ?_)
                                        refine goes_ Try.func18 (by kernel_rfl) rfl #[.agg #[.int .i64 ((rd_T34 t260 (ji34)).f0), .int .i64 ((rd_T34 t260 (ji34)).f1), .int .i64 ((rd_T34 t260 (ji34)).f2), .int .i64 ((rd_T34 t260 (ji34)).f3), .int .i64 ((rd_T34 t260 (ji34)).f4)], .agg #[.int .i64 ((rd_T34 t260 x7_3).f0), .int .i64 ((rd_T34 t260 x7_3).f1), .int .i64 ((rd_T34 t260 x7_3).f2), .int .i64 ((rd_T34 t260 x7_3).f3), .int .i64 ((rd_T34 t260 x7_3).f4)]] (by rfl) rfl rfl (by (try simp only [List.map_toArray, List.map_cons, List.map_nil]); first | done | (simp only [hji34]; rfl) | rfl | (simp only [List.length_drop, List.length_take]; rfl)) ?_
                                        with_reducible refine (timesynclaw25_rank.calls ((rd_T34 t260 (ji34)).f0) ((rd_T34 t260 (ji34)).f1) ((rd_T34 t260 (ji34)).f2) ((rd_T34 t260 (ji34)).f3) ((rd_T34 t260 (ji34)).f4) ((rd_T34 t260 x7_3).f0) ((rd_T34 t260 x7_3).f1) ((rd_T34 t260 x7_3).f2) ((rd_T34 t260 x7_3).f3) ((rd_T34 t260 x7_3).f4) t269 _ A39.out).mono ?_
                                        rintro e w41 ⟨rfl, hb⟩
                                        have HS0_ := (hb.cell (World.block_lt_of_cell? _ _ (hHeld.1))).trans (hHeld.1)
                                        have HS1_ := (hb.cell (World.block_lt_of_cell? _ _ (hHeld.2.1))).trans (hHeld.2.1)
                                        have HS2_ := (hb.cell (World.block_lt_of_cell? _ _ (hHeld.2.2.1))).trans (hHeld.2.2.1)
                                        have HS3_ := (hb.cell (World.block_lt_of_cell? _ _ (hHeld.2.2.2.1))).trans (hHeld.2.2.2.1)
                                        have HS4_ := (hb.cell (World.block_lt_of_cell? _ _ (hHeld.2.2.2.2.1))).trans (hHeld.2.2.2.2.1)
                                        have HS5_ := (hb.cell (World.block_lt_of_cell? _ _ (hHeld.2.2.2.2.2.1))).trans (hHeld.2.2.2.2.2.1)
                                        have HS6_ := (hb.cell (World.block_lt_of_cell? _ _ (hHeld.2.2.2.2.2.2.1))).trans (hHeld.2.2.2.2.2.2.1)
                                        have HS7_ := (hb.cell (World.block_lt_of_cell? _ _ (hHeld.2.2.2.2.2.2.2.1))).trans (hHeld.2.2.2.2.2.2.2.1)
                                        have HS8_ := (hb.cell (World.block_lt_of_cell? _ _ (hHeld.2.2.2.2.2.2.2.2.1))).trans (hHeld.2.2.2.2.2.2.2.2.1)
                                        have HS9_ := (hb.cell (World.block_lt_of_cell? _ _ (hHeld.2.2.2.2.2.2.2.2.2))).trans (hHeld.2.2.2.2.2.2.2.2.2)
                                        refine ⟨_, rfl, ?_⟩
                                        have n0_ := Aside0.mk (Kd.R_below (by (with_reducible repeat (first | apply Kd.R_alloc | apply Kd.R_drewN | apply Kd.R_drew)); exact HO_5.out) hb)
                                        have n1_ := Aside0.mk (below_step hb_ hb)
                                        clear HO_5
                                        clear HB
                                        have HO_5 := n0_
                                        have HB := n1_
                                        clear n0_ n1_
                                        (try clear hb)
                                        (try clear hb2)
                                        (try clear hk)
                                        (try clear hi)
                                        refine hK.out _ _ ⟨HS0_, HS1_, HS2_, HS3_, HS4_, HS5_, HS6_, HS7_, HS8_, HS9_⟩ (fun hHeld => ?_)
                                        clear hK K
                                        refine norm_ (a' := ?_) ?_ ?_
                                        rotate_left
                                        · show Act.put _ (some 87) _ = _
                                          simp only [Act.put, z1, z2, z3, i64_w, i32_w]
                                          rfl
                                        refine pure_ (i := 16) (N := some 88) (v := ?_) (a' := ?_) b5_34 rfl rfl (any_of HT_.out (by kernel_rfl)) (fun _ _ _ h => h) (Or.inl ⟨by rfl, ?_⟩) ?_ ?_
                                        rotate_left
                                        · intro w'
                                          go_simp
                                          with_reducible rfl
                                        rotate_left
                                        · simp only [Act.put, z1, z2, z3, i64_w, i32_w]
                                          rfl
                                        refine pure_ (i := 17) (N := some 89) (v := ?_) (a' := ?_) b5_35 rfl rfl (any_of HT_.out (by kernel_rfl)) (fun _ _ _ h => h) (Or.inl ⟨by rfl, ?_⟩) ?_ ?_
                                        rotate_left
                                        · intro w'
                                          go_simp
                                          with_reducible rfl
                                        rotate_left
                                        · simp only [Act.put, z1, z2, z3, i64_w, i32_w]
                                          rfl
                                        refine pure_ (i := 18) (N := some 90) (v := ?_) (a' := ?_) b5_36 rfl rfl (any_of HT_.out (by kernel_rfl)) (fun _ _ _ h => h) (Or.inl ⟨by rfl, ?_⟩) ?_ ?_
                                        rotate_left
                                        · intro w'
                                          go_simp
                                          with_reducible rfl
                                        rotate_left
                                        · simp only [Act.put, z1, z2, z3, i64_w, i32_w]
                                          rfl
                                        refine done_ (done_of HT_.out (by kernel_rfl)) ?_
                                        try go_wp2
                                        go_meet
                                        case rel => exact ⟨_, ((t269 != 1)), (by first | rfl | (simp; done) | (simp [*]; done)), H', ⟨by have := HJ2.out; have := HJ13.out; have := HK3.out; have := HK4.out; first | omega | exact Nat.le_refl _⟩, ⟨by (with_reducible repeat (first | apply Kd.R_alloc | apply Kd.R_drewN | apply Kd.R_drew)); exact HO_5.out⟩, ⟨hb_⟩⟩
                                      · rw [if_neg c38] at H
                                        exact absurd H (by simp)
                                    · rw [if_neg c37] at H
                                      exact absurd H (by simp)
                                  · rw [if_neg c36] at H
                                    exact absurd H (by simp)
                                · rw [if_neg c35] at H
                                  exact absurd H (by simp)
                              · rw [if_neg c33] at H
                                have c33b0 : decide (0 < x7_3) = false := decide_eq_false c33
                                clear c33
                                (first | rw [c33b0] | (simp only [i64_w, i32_w]; rw [c33b0]) | skip)
                                have H' := Aside0.mk H
                                clear H
                                try go_wp2
                                have n0_ := Aside0.mk (Kd.R_drew HO_5.out)
                                have n1_ := Aside0.mk (below_drew1 HB.out)
                                clear HO_5
                                clear HB
                                have HO_5 := n0_
                                have HB := n1_
                                clear n0_ n1_
                                refine start_ (n := 19) (S := fun w' => True) (ds := []) b5_17 (by kernel_rfl) rfl rfl trivial (fun hHeld => ?_); refine with_tabW timesynclaw25_ClusterSurvivors.tab14 timesynclaw25_ClusterSurvivors.bits14 (fun HT_ HW_ => ?_)
                                generalize wr.drew = w42 at HO_5 HB hHeld ⊢
                                refine pure_ (i := 0) (N := some 72) (v := ?_) (a' := ?_) b5_18 rfl rfl (any_of HT_.out (by kernel_rfl)) (fun _ _ _ h => h) (Or.inl ⟨by rfl, ?_⟩) ?_ ?_
                                rotate_left
                                · intro w'
                                  go_simp
                                  with_reducible rfl
                                rotate_left
                                · simp only [Act.put, z1, z2, z3, i64_w, i32_w]
                                  rfl
                                refine pure_ (i := 1) (N := some 73) (v := ?_) (a' := ?_) b5_19 rfl rfl (any_of HT_.out (by kernel_rfl)) (fun _ _ _ h => h) (Or.inl ⟨by rfl, ?_⟩) ?_ ?_
                                rotate_left
                                · intro w'
                                  go_simp
                                  with_reducible rfl
                                rotate_left
                                · simp only [Act.put, z1, z2, z3, i64_w, i32_w]
                                  rfl
                                refine pure_ (i := 2) (N := some 74) (v := ?_) (a' := ?_) b5_20 rfl rfl (any_of HT_.out (by kernel_rfl)) (fun _ _ _ h => h) (Or.inl ⟨by rfl, ?_⟩) ?_ ?_
                                rotate_left
                                · intro w'
                                  go_simp
                                  with_reducible rfl
                                rotate_left
                                · simp only [Act.put, z1, z2, z3, i64_w, i32_w]
                                  rfl
                                refine pure_ (i := 3) (N := some 75) (v := ?_) (a' := ?_) b5_21 rfl rfl (any_of HT_.out (by kernel_rfl)) (fun _ _ _ h => h) (Or.inl ⟨by rfl, ?_⟩) ?_ ?_
                                rotate_left
                                · intro w'
                                  go_simp
                                  with_reducible rfl
                                rotate_left
                                · simp only [Act.put, z1, z2, z3, i64_w, i32_w]
                                  rfl
                                refine pure_ (i := 4) (N := some 76) (v := ?_) (a' := ?_) b5_22 rfl rfl (any_of HT_.out (by kernel_rfl)) (fun _ _ _ h => h) (Or.inl ⟨by rfl, ?_⟩) ?_ ?_
                                rotate_left
                                · intro w'
                                  go_simp
                                  with_reducible rfl
                                rotate_left
                                · simp only [Act.put, z1, z2, z3, i64_w, i32_w]
                                  rfl
                                refine pure_ (i := 5) (N := some 77) (v := ?_) (a' := ?_) b5_23 rfl rfl (any_of HT_.out (by kernel_rfl)) (fun _ _ _ h => h) (Or.inl ⟨by rfl, ?_⟩) ?_ ?_
                                rotate_left
                                · intro w'
                                  go_simp
                                  with_reducible rfl
                                rotate_left
                                · simp only [Act.put, z1, z2, z3, i64_w, i32_w]
                                  rfl
                                refine pure_ (i := 6) (N := some 78) (v := undef) (a' := ?_) b5_24 rfl rfl (any_of HT_.out (by kernel_rfl)) (fun _ _ _ h => h) (Or.inr ⟨by rfl, rfl⟩) ?_ ?_
                                rotate_left
                                · simp only [Act.put, z1, z2, z3, i64_w, i32_w]
                                  rfl
                                refine pure_ (i := 7) (N := some 79) (v := undef) (a' := ?_) b5_25 rfl rfl (any_of HT_.out (by kernel_rfl)) (fun _ _ _ h => h) (Or.inr ⟨by rfl, rfl⟩) ?_ ?_
                                rotate_left
                                · simp only [Act.put, z1, z2, z3, i64_w, i32_w]
                                  rfl
                                refine pure_ (i := 8) (N := some 80) (v := undef) (a' := ?_) b5_26 rfl rfl (any_of HT_.out (by kernel_rfl)) (fun _ _ _ h => h) (Or.inr ⟨by rfl, rfl⟩) ?_ ?_
                                rotate_left
                                · simp only [Act.put, z1, z2, z3, i64_w, i32_w]
                                  rfl
                                refine pure_ (i := 9) (N := some 81) (v := undef) (a' := ?_) b5_27 rfl rfl (any_of HT_.out (by kernel_rfl)) (fun _ _ _ h => h) (Or.inr ⟨by rfl, rfl⟩) ?_ ?_
                                rotate_left
                                · simp only [Act.put, z1, z2, z3, i64_w, i32_w]
                                  rfl
                                refine pure_ (i := 10) (N := some 82) (v := undef) (a' := ?_) b5_37 rfl rfl (any_of HT_.out (by kernel_rfl)) (fun _ _ _ h => h) (Or.inr ⟨by rfl, rfl⟩) ?_ ?_
                                rotate_left
                                · simp only [Act.put, z1, z2, z3, i64_w, i32_w]
                                  rfl
                                refine pure_ (i := 11) (N := some 83) (v := undef) (a' := ?_) b5_38 rfl rfl (any_of HT_.out (by kernel_rfl)) (fun _ _ _ h => h) (Or.inr ⟨by rfl, rfl⟩) ?_ ?_
                                rotate_left
                                · simp only [Act.put, z1, z2, z3, i64_w, i32_w]
                                  rfl
                                refine pure_ (i := 12) (N := some 84) (v := undef) (a' := ?_) b5_39 rfl rfl (any_of HT_.out (by kernel_rfl)) (fun _ _ _ h => h) (Or.inr ⟨by rfl, rfl⟩) ?_ ?_
                                rotate_left
                                · simp only [Act.put, z1, z2, z3, i64_w, i32_w]
                                  rfl
                                refine pure_ (i := 13) (N := some 85) (v := undef) (a' := ?_) b5_31 rfl rfl (any_of HT_.out (by kernel_rfl)) (fun _ _ _ h => h) (Or.inr ⟨by rfl, rfl⟩) ?_ ?_
                                rotate_left
                                · simp only [Act.put, z1, z2, z3, i64_w, i32_w]
                                  rfl
                                refine pure_ (i := 14) (N := some 86) (v := undef) (a' := ?_) b5_32 rfl rfl (any_of HT_.out (by kernel_rfl)) (fun _ _ _ h => h) (Or.inr ⟨by rfl, rfl⟩) ?_ ?_
                                rotate_left
                                · simp only [Act.put, z1, z2, z3, i64_w, i32_w]
                                  rfl
                                refine pure_ (i := 15) (N := some 87) (v := undef) (a' := ?_) b5_33 rfl rfl (any_of HT_.out (by kernel_rfl)) (fun _ _ _ h => h) (Or.inr ⟨by rfl, rfl⟩) ?_ ?_
                                rotate_left
                                · simp only [Act.put, z1, z2, z3, i64_w, i32_w]
                                  rfl
                                refine pure_ (i := 16) (N := some 88) (v := undef) (a' := ?_) b5_34 rfl rfl (any_of HT_.out (by kernel_rfl)) (fun _ _ _ h => h) (Or.inr ⟨by rfl, rfl⟩) ?_ ?_
                                rotate_left
                                · simp only [Act.put, z1, z2, z3, i64_w, i32_w]
                                  rfl
                                refine pure_ (i := 17) (N := some 89) (v := ?_) (a' := ?_) b5_35 rfl rfl (any_of HT_.out (by kernel_rfl)) (fun _ _ _ h => h) (Or.inl ⟨by rfl, ?_⟩) ?_ ?_
                                rotate_left
                                · intro w'
                                  go_simp
                                  with_reducible rfl
                                rotate_left
                                · simp only [Act.put, z1, z2, z3, i64_w, i32_w]
                                  rfl
                                refine pure_ (i := 18) (N := some 90) (v := ?_) (a' := ?_) b5_36 rfl rfl (any_of HT_.out (by kernel_rfl)) (fun _ _ _ h => h) (Or.inl ⟨by rfl, ?_⟩) ?_ ?_
                                rotate_left
                                · intro w'
                                  go_simp
                                  with_reducible rfl
                                rotate_left
                                · simp only [Act.put, z1, z2, z3, i64_w, i32_w]
                                  rfl
                                refine done_ (done_of HT_.out (by kernel_rfl)) ?_
                                try go_wp2
                                go_meet
                                case rel => exact ⟨_, (false), (by first | rfl | (simp; done) | (simp [*]; done)), H', ⟨by have := HJ2.out; have := HJ13.out; have := HK3.out; have := HK4.out; first | omega | exact Nat.le_refl _⟩, ⟨by (with_reducible repeat (first | apply Kd.R_alloc | apply Kd.R_drewN | apply Kd.R_drew)); exact HO_5.out⟩, ⟨hb_⟩⟩
                            · replace c32 := Bool.eq_false_iff.mpr c32
                              subst c32
                              have H1 : (timesynclaw25_ClusterSurvivors.j4 k4 l0 a1 t260 x7_3 true) = some r := by rw [if_neg (show ¬ (false = true) by decide)] at H; exact H
                              clear H
                              have H := H1
                              clear H1
                              have H' := Aside0.mk H
                              clear H
                              try go_wp2
                              have n0_ := Aside0.mk (Kd.R_drew HO_5.out)
                              have n1_ := Aside0.mk (below_drew1 HB.out)
                              clear HO_5
                              clear HB
                              have HO_5 := n0_
                              have HB := n1_
                              clear n0_ n1_
                              refine start_ (n := 19) (S := fun w' => True) (ds := []) b5_17 (by kernel_rfl) rfl rfl trivial (fun hHeld => ?_); refine with_tabW timesynclaw25_ClusterSurvivors.tab14 timesynclaw25_ClusterSurvivors.bits14 (fun HT_ HW_ => ?_)
                              generalize wr.drew = w43 at HO_5 HB hHeld ⊢
                              refine pure_ (i := 0) (N := some 72) (v := ?_) (a' := ?_) b5_18 rfl rfl (any_of HT_.out (by kernel_rfl)) (fun _ _ _ h => h) (Or.inl ⟨by rfl, ?_⟩) ?_ ?_
                              rotate_left
                              · intro w'
                                go_simp
                                with_reducible rfl
                              rotate_left
                              · simp only [Act.put, z1, z2, z3, i64_w, i32_w]
                                rfl
                              refine pure_ (i := 1) (N := some 73) (v := ?_) (a' := ?_) b5_19 rfl rfl (any_of HT_.out (by kernel_rfl)) (fun _ _ _ h => h) (Or.inl ⟨by rfl, ?_⟩) ?_ ?_
                              rotate_left
                              · intro w'
                                go_simp
                                with_reducible rfl
                              rotate_left
                              · simp only [Act.put, z1, z2, z3, i64_w, i32_w]
                                rfl
                              refine pure_ (i := 2) (N := some 74) (v := ?_) (a' := ?_) b5_20 rfl rfl (any_of HT_.out (by kernel_rfl)) (fun _ _ _ h => h) (Or.inl ⟨by rfl, ?_⟩) ?_ ?_
                              rotate_left
                              · intro w'
                                go_simp
                                with_reducible rfl
                              rotate_left
                              · simp only [Act.put, z1, z2, z3, i64_w, i32_w]
                                rfl
                              refine pure_ (i := 3) (N := some 75) (v := undef) (a' := ?_) b5_21 rfl rfl (any_of HT_.out (by kernel_rfl)) (fun _ _ _ h => h) (Or.inr ⟨by rfl, rfl⟩) ?_ ?_
                              rotate_left
                              · simp only [Act.put, z1, z2, z3, i64_w, i32_w]
                                rfl
                              refine pure_ (i := 4) (N := some 76) (v := undef) (a' := ?_) b5_22 rfl rfl (any_of HT_.out (by kernel_rfl)) (fun _ _ _ h => h) (Or.inr ⟨by rfl, rfl⟩) ?_ ?_
                              rotate_left
                              · simp only [Act.put, z1, z2, z3, i64_w, i32_w]
                                rfl
                              refine pure_ (i := 5) (N := some 77) (v := undef) (a' := ?_) b5_23 rfl rfl (any_of HT_.out (by kernel_rfl)) (fun _ _ _ h => h) (Or.inr ⟨by rfl, rfl⟩) ?_ ?_
                              rotate_left
                              · simp only [Act.put, z1, z2, z3, i64_w, i32_w]
                                rfl
                              refine pure_ (i := 6) (N := some 78) (v := undef) (a' := ?_) b5_24 rfl rfl (any_of HT_.out (by kernel_rfl)) (fun _ _ _ h => h) (Or.inr ⟨by rfl, rfl⟩) ?_ ?_
                              rotate_left
                              · simp only [Act.put, z1, z2, z3, i64_w, i32_w]
                                rfl
                              refine pure_ (i := 7) (N := some 79) (v := undef) (a' := ?_) b5_25 rfl rfl (any_of HT_.out (by kernel_rfl)) (fun _ _ _ h => h) (Or.inr ⟨by rfl, rfl⟩) ?_ ?_
                              rotate_left
                              · simp only [Act.put, z1, z2, z3, i64_w, i32_w]
                                rfl
                              refine pure_ (i := 8) (N := some 80) (v := undef) (a' := ?_) b5_26 rfl rfl (any_of HT_.out (by kernel_rfl)) (fun _ _ _ h => h) (Or.inr ⟨by rfl, rfl⟩) ?_ ?_
                              rotate_left
                              · simp only [Act.put, z1, z2, z3, i64_w, i32_w]
                                rfl
                              refine pure_ (i := 9) (N := some 81) (v := undef) (a' := ?_) b5_27 rfl rfl (any_of HT_.out (by kernel_rfl)) (fun _ _ _ h => h) (Or.inr ⟨by rfl, rfl⟩) ?_ ?_
                              rotate_left
                              · simp only [Act.put, z1, z2, z3, i64_w, i32_w]
                                rfl
                              refine pure_ (i := 10) (N := some 82) (v := undef) (a' := ?_) b5_37 rfl rfl (any_of HT_.out (by kernel_rfl)) (fun _ _ _ h => h) (Or.inr ⟨by rfl, rfl⟩) ?_ ?_
                              rotate_left
                              · simp only [Act.put, z1, z2, z3, i64_w, i32_w]
                                rfl
                              refine pure_ (i := 11) (N := some 83) (v := undef) (a' := ?_) b5_38 rfl rfl (any_of HT_.out (by kernel_rfl)) (fun _ _ _ h => h) (Or.inr ⟨by rfl, rfl⟩) ?_ ?_
                              rotate_left
                              · simp only [Act.put, z1, z2, z3, i64_w, i32_w]
                                rfl
                              refine pure_ (i := 12) (N := some 84) (v := undef) (a' := ?_) b5_39 rfl rfl (any_of HT_.out (by kernel_rfl)) (fun _ _ _ h => h) (Or.inr ⟨by rfl, rfl⟩) ?_ ?_
                              rotate_left
                              · simp only [Act.put, z1, z2, z3, i64_w, i32_w]
                                rfl
                              refine pure_ (i := 13) (N := some 85) (v := undef) (a' := ?_) b5_31 rfl rfl (any_of HT_.out (by kernel_rfl)) (fun _ _ _ h => h) (Or.inr ⟨by rfl, rfl⟩) ?_ ?_
                              rotate_left
                              · simp only [Act.put, z1, z2, z3, i64_w, i32_w]
                                rfl
                              refine pure_ (i := 14) (N := some 86) (v := undef) (a' := ?_) b5_32 rfl rfl (any_of HT_.out (by kernel_rfl)) (fun _ _ _ h => h) (Or.inr ⟨by rfl, rfl⟩) ?_ ?_
                              rotate_left
                              · simp only [Act.put, z1, z2, z3, i64_w, i32_w]
                                rfl
                              refine pure_ (i := 15) (N := some 87) (v := undef) (a' := ?_) b5_33 rfl rfl (any_of HT_.out (by kernel_rfl)) (fun _ _ _ h => h) (Or.inr ⟨by rfl, rfl⟩) ?_ ?_
                              rotate_left
                              · simp only [Act.put, z1, z2, z3, i64_w, i32_w]
                                rfl
                              refine pure_ (i := 16) (N := some 88) (v := undef) (a' := ?_) b5_34 rfl rfl (any_of HT_.out (by kernel_rfl)) (fun _ _ _ h => h) (Or.inr ⟨by rfl, rfl⟩) ?_ ?_
                              rotate_left
                              · simp only [Act.put, z1, z2, z3, i64_w, i32_w]
                                rfl
                              refine pure_ (i := 17) (N := some 89) (v := undef) (a' := ?_) b5_35 rfl rfl (any_of HT_.out (by kernel_rfl)) (fun _ _ _ h => h) (Or.inr ⟨by rfl, rfl⟩) ?_ ?_
                              rotate_left
                              · simp only [Act.put, z1, z2, z3, i64_w, i32_w]
                                rfl
                              refine pure_ (i := 18) (N := some 90) (v := ?_) (a' := ?_) b5_36 rfl rfl (any_of HT_.out (by kernel_rfl)) (fun _ _ _ h => h) (Or.inl ⟨by rfl, ?_⟩) ?_ ?_
                              rotate_left
                              · intro w'
                                go_simp
                                with_reducible rfl
                              rotate_left
                              · simp only [Act.put, z1, z2, z3, i64_w, i32_w]
                                rfl
                              refine done_ (done_of HT_.out (by kernel_rfl)) ?_
                              try go_wp2
                              go_meet
                              case rel => exact ⟨_, (true), (by first | rfl | (simp; done) | (simp [*]; done)), H', ⟨by have := HJ2.out; have := HJ13.out; have := HK3.out; have := HK4.out; first | omega | exact Nat.le_refl _⟩, ⟨by (with_reducible repeat (first | apply Kd.R_alloc | apply Kd.R_drewN | apply Kd.R_drew)); exact HO_5.out⟩, ⟨hb_⟩⟩
                          case rest =>
                            clear HC31
                            try clear c1
                            try clear c2
                            try clear p2
                            try clear q2
                            try clear hx2
                            try clear c3
                            try clear p6
                            try clear c18
                            try clear c24
                            try clear c24b0
                            try clear p26
                            try clear q26
                            try clear hx26
                            try clear c27
                            try clear c28
                            try clear c29
                            try clear c32
                            try clear c33
                            try clear c33b0
                            try clear c35
                            try clear c35b0
                            try clear c36
                            try clear c36b0
                            try clear c37
                            try clear c37b0
                            try clear c38
                            try clear c38b0
                            try clear hx267_0
                            try clear hx267_1
                            try clear hx267_2
                            try clear hx267_3
                            try clear hx267_4
                            try clear hx268_0
                            try clear hx268_1
                            try clear hx268_2
                            try clear hx268_3
                            try clear hx268_4
                            try clear p267
                            try clear p268
                            try clear q267
                            try clear q268
                            obtain ⟨kq, x90_30, rfl, HA, HJ30, HO_5, HB⟩ := hcut
                            cases kq with
                            | zero => exact absurd HA.out (by simp [timesynclaw25_ClusterSurvivors.j4])
                            | succ kj30 =>
                              have H := HA.out
                              clear HA
                              simp only [timesynclaw25_ClusterSurvivors.j4] at H
                              by_cases c44 : x90_30 = true
                              · subst c44
                                have H1 : (some false) = some r := by rw [if_pos rfl] at H; exact H
                                clear H
                                have H := H1
                                clear H1
                                obtain rfl := Option.some.inj H
                                go_wp2
                                go_ret
                                exact ⟨by first | rfl | (simp [errW_none, errW_some] <;> rfl) | (simp [*, errW_none, errW_some] <;> rfl), hb_⟩
                              · replace c44 := Bool.eq_false_iff.mpr c44
                                subst c44
                                have H1 : (timesynclaw25_ClusterSurvivors.l2 kj30 l0 a1 t260 x7_3 0) = some r := by rw [if_neg (show ¬ (false = true) by decide)] at H; exact H
                                clear H
                                have H := H1
                                clear H1
                                have H' := Aside0.mk H
                                clear H
                                go_wp2
                                go_loopg [10] kj30 (fun kq v10 w' => ∃ (x10_6 : Int), v10 = .int .i64 x10_6 ∧ Aside0 (timesynclaw25_ClusterSurvivors.l2 kq l0 a1 t260 x7_3 x10_6 = some r) ∧ Aside0 (kq ≤ kj30) ∧ Aside0 (Kd.R k34 34 w' w.heap.size (fun _ => True) (.slice Ao23 t260.length co23) t260) ∧ Aside0 (Below w.heap.size w w'))
                                case atStart => exact ⟨(0), (by first | rfl | (simp; done) | (simp [*]; done)), H', ⟨Nat.le_refl _⟩, ⟨by (with_reducible repeat (first | apply Kd.R_alloc | apply Kd.R_drewN | apply Kd.R_drew)); exact HO_5.out⟩, ⟨hb_⟩⟩
                                case round =>
                                  clear H'
                                  try clear c1
                                  try clear c2
                                  try clear p2
                                  try clear q2
                                  try clear hx2
                                  try clear c3
                                  try clear c4
                                  try clear p6
                                  try clear c18
                                  try clear c24
                                  try clear c24b0
                                  try clear p26
                                  try clear q26
                                  try clear hx26
                                  try clear c27
                                  try clear c28
                                  try clear c29
                                  try clear c32
                                  try clear c33
                                  try clear c33b0
                                  try clear c35
                                  try clear c35b0
                                  try clear c36
                                  try clear c36b0
                                  try clear c37
                                  try clear c37b0
                                  try clear c38
                                  try clear c38b0
                                  try clear c44
                                  try clear hx267_0
                                  try clear hx267_1
                                  try clear hx267_2
                                  try clear hx267_3
                                  try clear hx267_4
                                  try clear hx268_0
                                  try clear hx268_1
                                  try clear hx268_2
                                  try clear hx268_3
                                  try clear hx268_4
                                  try clear p2
                                  try clear p26
                                  try clear p267
                                  try clear p268
                                  try clear p6
                                  try clear q2
                                  try clear q26
                                  try clear q267
                                  try clear q268
                                  obtain ⟨x10_6, rfl, HA, HK6, HO_5, HB⟩ := hrel
                                  cases gk with
                                  | zero => exact absurd HA.out (by simp [timesynclaw25_ClusterSurvivors.l2])
                                  | succ k6 =>
                                    have H := HA.out
                                    clear HA
                                    simp only [timesynclaw25_ClusterSurvivors.l2] at H
                                    have HC45 := Aside0.mk H
                                    clear H
                                    go_upto_region 17 with (fail)
                                    go_cut [100] (fun v100 wc => ∃ (kq : Nat) (x100_44 : Bool), v100 = .bool x100_44 ∧ Aside0 (timesynclaw25_ClusterSurvivors.j6 kq l0 a1 t260 x7_3 x10_6 x100_44 = some r) ∧ Aside0 (kq ≤ k6) ∧ Aside0 (Kd.R k34 34 wc w.heap.size (fun _ => True) (.slice Ao23 t260.length co23) t260) ∧ Aside0 (Below w.heap.size w wc))
                                    case first =>
                                      have H := HC45.out
                                      clear HC45
                                      by_cases c46 : x10_6 < (t260.length : Int)
                                      · rw [if_pos c46] at H
                                        have c46b0 : decide (x10_6 < (t260.length : Int)) = true := decide_eq_true c46
                                        clear c46
                                        (first | rw [c46b0] | (simp only [i64_w, i32_w]; rw [c46b0]) | skip)
                                        have H' := Aside0.mk H
                                        clear H
                                        go_wp2
                                        go_meet
                                        case rel => exact ⟨_, (decide ((t260.length : Int) > a1)), (by first | rfl | (simp; done) | (simp [*]; done)), H', ⟨by have := HJ2.out; have := HJ13.out; have := HK3.out; have := HK4.out; have := HJ30.out; have := HK6.out; first | omega | exact Nat.le_refl _⟩, ⟨by (with_reducible repeat (first | apply Kd.R_alloc | apply Kd.R_drewN | apply Kd.R_drew)); exact HO_5.out⟩, ⟨hb_⟩⟩
                                      · rw [if_neg c46] at H
                                        have c46b0 : decide (x10_6 < (t260.length : Int)) = false := decide_eq_false c46
                                        clear c46
                                        (first | rw [c46b0] | (simp only [i64_w, i32_w]; rw [c46b0]) | skip)
                                        have H' := Aside0.mk H
                                        clear H
                                        go_wp2
                                        go_meet
                                        case rel => exact ⟨_, (false), (by first | rfl | (simp; done) | (simp [*]; done)), H', ⟨by have := HJ2.out; have := HJ13.out; have := HK3.out; have := HK4.out; have := HJ30.out; have := HK6.out; first | omega | exact Nat.le_refl _⟩, ⟨by (with_reducible repeat (first | apply Kd.R_alloc | apply Kd.R_drewN | apply Kd.R_drew)); exact HO_5.out⟩, ⟨hb_⟩⟩
                                    case rest =>
                                      clear HC45
                                      try clear c1
                                      try clear c2
                                      try clear p2
                                      try clear q2
                                      try clear hx2
                                      try clear c3
                                      try clear c4
                                      try clear p6
                                      try clear c18
                                      try clear c24
                                      try clear c24b0
                                      try clear p26
                                      try clear q26
                                      try clear hx26
                                      try clear c27
                                      try clear c28
                                      try clear c29
                                      try clear c32
                                      try clear c33
                                      try clear c33b0
                                      try clear c35
                                      try clear c35b0
                                      try clear c36
                                      try clear c36b0
                                      try clear c37
                                      try clear c37b0
                                      try clear c38
                                      try clear c38b0
                                      try clear c44
                                      try clear c46
                                      try clear c46b0
                                      try clear hx267_0
                                      try clear hx267_1
                                      try clear hx267_2
                                      try clear hx267_3
                                      try clear hx267_4
                                      try clear hx268_0
                                      try clear hx268_1
                                      try clear hx268_2
                                      try clear hx268_3
                                      try clear hx268_4
                                      try clear p2
                                      try clear p26
                                      try clear p267
                                      try clear p268
                                      try clear p6
                                      try clear q2
                                      try clear q26
                                      try clear q267
                                      try clear q268
                                      obtain ⟨kq, x100_44, rfl, HA, HJ44, HO_5, HB⟩ := hcut
                                      cases kq with
                                      | zero => exact absurd HA.out (by simp [timesynclaw25_ClusterSurvivors.j6])
                                      | succ kj44 =>
                                        have H := HA.out
                                        clear HA
                                        simp only [timesynclaw25_ClusterSurvivors.j6] at H
                                        by_cases c47 : x100_44 = true
                                        · subst c47
                                          have H1 : ((cluster_Spread.f kj44 t260 x7_3).bind fun t270 => (if 0 ≤ x10_6 then (if x10_6 < (t260.length : Int) then (if t270 > ((rd_T34 t260 x10_6).f3) then (some false) else (timesynclaw25_ClusterSurvivors.l2 kj44 l0 a1 t260 x7_3 (wrap64 (x10_6 + 1)))) else (none)) else (none))) = some r := by rw [if_pos rfl] at H; exact H
                                          clear H
                                          have H := H1
                                          clear H1
                                          replace H := Option.bind_eq_some_iff.mp H
                                          obtain ⟨t270, A480, H⟩ := H
                                          replace H : (if 0 ≤ x10_6 then (if x10_6 < (t260.length : Int) then (if t270 > ((rd_T34 t260 x10_6).f3) then (some false) else (timesynclaw25_ClusterSurvivors.l2 kj44 l0 a1 t260 x7_3 (wrap64 (x10_6 + 1)))) else (none)) else (none)) = some r := H
                                          have A48 := Aside0.mk A480
                                          clear A480
                                          by_cases c49 : 0 ≤ x10_6
                                          · rw [if_pos c49] at H
                                            have c49b0 : decide (0 ≤ x10_6) = true := decide_eq_true c49
                                            clear c49
                                            by_cases c50 : x10_6 < (t260.length : Int)
                                            · rw [if_pos c50] at H
                                              have c50b0 : decide (x10_6 < (t260.length : Int)) = true := decide_eq_true c50
                                              clear c50
                                              by_cases c51 : t270 > ((rd_T34 t260 x10_6).f3)
                                              · rw [if_pos c51] at H
                                                have c51b0 : decide (((rd_T34 t260 x10_6).f3) < t270) = true := decide_eq_true c51
                                                clear c51
                                                obtain rfl := Option.some.inj H
                                                try go_wp2
                                                have n0_ := Aside0.mk (Kd.R_drew HO_5.out)
                                                have n1_ := Aside0.mk (below_drew1 HB.out)
                                                clear HO_5
                                                clear HB
                                                have HO_5 := n0_
                                                have HB := n1_
                                                clear n0_ n1_
                                                have p271 : 0 ≤ (x10_6 : Int) := of_decide_eq_true (by first | (with_reducible assumption) | assumption)
                                                have q271 : x10_6 < (t260.length : Int) := of_decide_eq_true (by first | (with_reducible assumption) | assumption)
                                                obtain ⟨ad271, e271, hx271_0, hx271_1, hx271_2, hx271_3, hx271_4⟩ := at_T34 (Kd.R_reads' HO_5.out).2.2 x10_6 p271 q271
                                                cases e271
                                                replace p271 := eq_true p271
                                                replace q271 := eq_true q271
                                                refine start_ (n := 9) (S := fun w' => w'.cell? (ad271.add ((x10_6).toNat * 5)) = some (.int .i64 ((rd_T34 t260 x10_6).f0)) ∧ w'.cell? ⟨(ad271.add ((x10_6).toNat * 5)).block, (ad271.add ((x10_6).toNat * 5)).off + 1, none⟩ = some (.int .i64 ((rd_T34 t260 x10_6).f1)) ∧ w'.cell? ⟨(ad271.add ((x10_6).toNat * 5)).block, (ad271.add ((x10_6).toNat * 5)).off + 2, none⟩ = some (.int .i64 ((rd_T34 t260 x10_6).f2)) ∧ w'.cell? ⟨(ad271.add ((x10_6).toNat * 5)).block, (ad271.add ((x10_6).toNat * 5)).off + 3, none⟩ = some (.int .i64 ((rd_T34 t260 x10_6).f3)) ∧ w'.cell? ⟨(ad271.add ((x10_6).toNat * 5)).block, (ad271.add ((x10_6).toNat * 5)).off + 4, none⟩ = some (.int .i64 ((rd_T34 t260 x10_6).f4))) (ds := []) b5_40 (by kernel_rfl) rfl rfl ⟨hx271_0, hx271_1, hx271_2, hx271_3, hx271_4⟩ (fun hHeld => ?_); refine with_tabW timesynclaw25_ClusterSurvivors.tab19 timesynclaw25_ClusterSurvivors.bits19 (fun HT_ HW_ => ?_)
                                                generalize wc.drew = w52 at HO_5 HB hx271_0 hx271_1 hx271_2 hx271_3 hx271_4 hHeld ⊢
                                                refine pure_ (i := 0) (N := some 103) (v := ?_) (a' := ?_) b5_41 rfl rfl (any_of HT_.out (by kernel_rfl)) (fun _ _ _ h => h) (Or.inl ⟨by rfl, ?_⟩) ?_ ?_
                                                rotate_left
                                                · intro w'
                                                  go_simp
                                                  with_reducible rfl
                                                rotate_left
                                                · simp only [Act.put, z1, z2, z3, i64_w, i32_w]
                                                  rfl
                                                refine pure_ (i := 1) (N := some 104) (v := ?_) (a' := ?_) b5_42 rfl rfl (any_of HT_.out (by kernel_rfl)) (fun _ _ _ h => h) (Or.inl ⟨by rfl, ?_⟩) ?_ ?_
                                                rotate_left
                                                · intro w'
                                                  go_simp
                                                  with_reducible rfl
                                                rotate_left
                                                · simp only [Act.put, z1, z2, z3, i64_w, i32_w]
                                                  rfl
                                                refine pure_ (i := 3) (N := some 106) (v := ?_) (a' := ?_) b5_43 rfl rfl (any_of HT_.out (by kernel_rfl)) (fun _ _ _ h => h) (Or.inl ⟨by rfl, ?_⟩) ?_ ?_
                                                rotate_left
                                                · intro w'
                                                  go_simp
                                                  with_reducible rfl
                                                rotate_left
                                                · simp only [Act.put, z1, z2, z3, i64_w, i32_w]
                                                  rfl
                                                refine pure_ (i := 4) (N := some 107) (v := ?_) (a' := ?_) b5_44 rfl rfl (any_of HT_.out (by kernel_rfl)) (fun _ _ _ h => h) (Or.inl ⟨by rfl, ?_⟩) ?_ ?_
                                                rotate_left
                                                · intro w'
                                                  go_simp
                                                  with_reducible rfl
                                                rotate_left
                                                · simp only [Act.put, z1, z2, z3, i64_w, i32_w]
                                                  rfl
                                                refine pure_ (i := 5) (N := some 108) (v := ?_) (a' := ?_) b5_45 rfl rfl (any_of HT_.out (by kernel_rfl)) (fun _ _ _ h => h) (Or.inl ⟨by rfl, ?_⟩) ?_ ?_
                                                rotate_left
                                                · intro w'
                                                  go_simp
                                                  with_reducible rfl
                                                rotate_left
                                                · simp only [Act.put, z1, z2, z3, i64_w, i32_w]
                                                  rfl
                                                refine pure_ (i := 6) (N := some 109) (v := ?_) (a' := ?_) b5_46 rfl rfl (any_of HT_.out (by kernel_rfl)) (fun _ _ _ h => h) (Or.inl ⟨by rfl, ?_⟩) ?_ ?_
                                                rotate_left
                                                · intro w'
                                                  go_simp
                                                  with_reducible rfl
                                                rotate_left
                                                · simp only [Act.put, z1, z2, z3, i64_w, i32_w]
                                                  rfl
                                                refine take_ (i := 7) (N := some 110) (v := ?_) (a' := ?_) b5_47 rfl rfl (take_ofW HT_.out HW_.out (by kernel_rfl)) (fun _ _ _ h => h) (Or.inl ⟨by rfl, ?_⟩) hHeld ?_ ?_
                                                rotate_left
                                                · rintro w' ⟨s0, s1, s2, s3, s4⟩
                                                  go_simp
                                                  with_reducible rfl
                                                rotate_left
                                                · simp only [Act.put, z1, z2, z3, i64_w, i32_w]
                                                  rfl
                                                refine one_ (i := 2) (N := some 105) b5_48 rfl rfl (one_of HT_.out (by kernel_rfl)) (by decide) (fun K hK => ?_)
                                                refine goes_ Try.func15 (by kernel_rfl) rfl #[.slice (some ad271) t260.length co23, .int .i64 x7_3] (by rfl) rfl rfl sl_ ?_
                                                with_reducible refine (cluster_Spread.calls kj44 _ _ t260 x7_3 t270 _ ?side1 ?side2 A48.out).mono ?_
                                                (case side1 => repeat (first | exact (Kd.R_reads' HO_5.out).2.2 | (with_reducible refine Kd.C_alloc ?_ _) | (with_reducible refine Kd.C_drewN ?_ _) | (with_reducible refine Kd.C_drew ?_)))
                                                (case side2 => exact (Kd.R_reads' HO_5.out).2.1)
                                                rintro e w53 ⟨rfl, hb⟩
                                                have HS0_ := (hb.cell (World.block_lt_of_cell? _ _ (hHeld.1))).trans (hHeld.1)
                                                have HS1_ := (hb.cell (World.block_lt_of_cell? _ _ (hHeld.2.1))).trans (hHeld.2.1)
                                                have HS2_ := (hb.cell (World.block_lt_of_cell? _ _ (hHeld.2.2.1))).trans (hHeld.2.2.1)
                                                have HS3_ := (hb.cell (World.block_lt_of_cell? _ _ (hHeld.2.2.2.1))).trans (hHeld.2.2.2.1)
                                                have HS4_ := (hb.cell (World.block_lt_of_cell? _ _ (hHeld.2.2.2.2))).trans (hHeld.2.2.2.2)
                                                refine ⟨_, rfl, ?_⟩
                                                have n0_ := Aside0.mk (Kd.R_below (by (with_reducible repeat (first | apply Kd.R_alloc | apply Kd.R_drewN | apply Kd.R_drew)); exact HO_5.out) hb)
                                                have n1_ := Aside0.mk (below_step hb_ hb)
                                                clear HO_5
                                                clear HB
                                                have HO_5 := n0_
                                                have HB := n1_
                                                clear n0_ n1_
                                                (try clear hb)
                                                (try clear hb2)
                                                (try clear hk)
                                                (try clear hi)
                                                refine hK.out _ _ ⟨HS0_, HS1_, HS2_, HS3_, HS4_⟩ (fun hHeld => ?_)
                                                clear hK K
                                                refine norm_ (a' := ?_) ?_ ?_
                                                rotate_left
                                                · show Act.put _ (some 105) _ = _
                                                  simp only [Act.put, z1, z2, z3, i64_w, i32_w]
                                                  rfl
                                                refine pure_ (i := 8) (N := some 111) (v := ?_) (a' := ?_) b5_49 rfl rfl (any_of HT_.out (by kernel_rfl)) (fun _ _ _ h => h) (Or.inl ⟨by rfl, ?_⟩) ?_ ?_
                                                rotate_left
                                                · intro w'
                                                  go_simp
                                                  with_reducible rfl
                                                rotate_left
                                                · simp only [Act.put, z1, z2, z3, i64_w, i32_w]
                                                  rfl
                                                refine done_ (done_of HT_.out (by kernel_rfl)) ?_
                                                try go_wp2
                                                go_ret
                                                exact ⟨by first | rfl | (simp [errW_none, errW_some] <;> rfl) | (simp [*, errW_none, errW_some] <;> rfl), hb_⟩
                                              · rw [if_neg c51] at H
                                                have c51b0 : decide (((rd_T34 t260 x10_6).f3) < t270) = false := decide_eq_false c51
                                                clear c51
                                                have H' := Aside0.mk H
                                                clear H
                                                try go_wp2
                                                have n0_ := Aside0.mk (Kd.R_drew HO_5.out)
                                                have n1_ := Aside0.mk (below_drew1 HB.out)
                                                clear HO_5
                                                clear HB
                                                have HO_5 := n0_
                                                have HB := n1_
                                                clear n0_ n1_
                                                have p271 : 0 ≤ (x10_6 : Int) := of_decide_eq_true (by first | (with_reducible assumption) | assumption)
                                                have q271 : x10_6 < (t260.length : Int) := of_decide_eq_true (by first | (with_reducible assumption) | assumption)
                                                obtain ⟨ad271, e271, hx271_0, hx271_1, hx271_2, hx271_3, hx271_4⟩ := at_T34 (Kd.R_reads' HO_5.out).2.2 x10_6 p271 q271
                                                cases e271
                                                replace p271 := eq_true p271
                                                replace q271 := eq_true q271
                                                refine start_ (n := 9) (S := fun w' => w'.cell? (ad271.add ((x10_6).toNat * 5)) = some (.int .i64 ((rd_T34 t260 x10_6).f0)) ∧ w'.cell? ⟨(ad271.add ((x10_6).toNat * 5)).block, (ad271.add ((x10_6).toNat * 5)).off + 1, none⟩ = some (.int .i64 ((rd_T34 t260 x10_6).f1)) ∧ w'.cell? ⟨(ad271.add ((x10_6).toNat * 5)).block, (ad271.add ((x10_6).toNat * 5)).off + 2, none⟩ = some (.int .i64 ((rd_T34 t260 x10_6).f2)) ∧ w'.cell? ⟨(ad271.add ((x10_6).toNat * 5)).block, (ad271.add ((x10_6).toNat * 5)).off + 3, none⟩ = some (.int .i64 ((rd_T34 t260 x10_6).f3)) ∧ w'.cell? ⟨(ad271.add ((x10_6).toNat * 5)).block, (ad271.add ((x10_6).toNat * 5)).off + 4, none⟩ = some (.int .i64 ((rd_T34 t260 x10_6).f4))) (ds := []) b5_40 (by kernel_rfl) rfl rfl ⟨hx271_0, hx271_1, hx271_2, hx271_3, hx271_4⟩ (fun hHeld => ?_); refine with_tabW timesynclaw25_ClusterSurvivors.tab19 timesynclaw25_ClusterSurvivors.bits19 (fun HT_ HW_ => ?_)
                                                generalize wc.drew = w54 at HO_5 HB hx271_0 hx271_1 hx271_2 hx271_3 hx271_4 hHeld ⊢
                                                refine pure_ (i := 0) (N := some 103) (v := ?_) (a' := ?_) b5_41 rfl rfl (any_of HT_.out (by kernel_rfl)) (fun _ _ _ h => h) (Or.inl ⟨by rfl, ?_⟩) ?_ ?_
                                                rotate_left
                                                · intro w'
                                                  go_simp
                                                  with_reducible rfl
                                                rotate_left
                                                · simp only [Act.put, z1, z2, z3, i64_w, i32_w]
                                                  rfl
                                                refine pure_ (i := 1) (N := some 104) (v := ?_) (a' := ?_) b5_42 rfl rfl (any_of HT_.out (by kernel_rfl)) (fun _ _ _ h => h) (Or.inl ⟨by rfl, ?_⟩) ?_ ?_
                                                rotate_left
                                                · intro w'
                                                  go_simp
                                                  with_reducible rfl
                                                rotate_left
                                                · simp only [Act.put, z1, z2, z3, i64_w, i32_w]
                                                  rfl
                                                refine pure_ (i := 3) (N := some 106) (v := ?_) (a' := ?_) b5_43 rfl rfl (any_of HT_.out (by kernel_rfl)) (fun _ _ _ h => h) (Or.inl ⟨by rfl, ?_⟩) ?_ ?_
                                                rotate_left
                                                · intro w'
                                                  go_simp
                                                  with_reducible rfl
                                                rotate_left
                                                · simp only [Act.put, z1, z2, z3, i64_w, i32_w]
                                                  rfl
                                                refine pure_ (i := 4) (N := some 107) (v := ?_) (a' := ?_) b5_44 rfl rfl (any_of HT_.out (by kernel_rfl)) (fun _ _ _ h => h) (Or.inl ⟨by rfl, ?_⟩) ?_ ?_
                                                rotate_left
                                                · intro w'
                                                  go_simp
                                                  with_reducible rfl
                                                rotate_left
                                                · simp only [Act.put, z1, z2, z3, i64_w, i32_w]
                                                  rfl
                                                refine pure_ (i := 5) (N := some 108) (v := ?_) (a' := ?_) b5_45 rfl rfl (any_of HT_.out (by kernel_rfl)) (fun _ _ _ h => h) (Or.inl ⟨by rfl, ?_⟩) ?_ ?_
                                                rotate_left
                                                · intro w'
                                                  go_simp
                                                  with_reducible rfl
                                                rotate_left
                                                · simp only [Act.put, z1, z2, z3, i64_w, i32_w]
                                                  rfl
                                                refine pure_ (i := 6) (N := some 109) (v := ?_) (a' := ?_) b5_46 rfl rfl (any_of HT_.out (by kernel_rfl)) (fun _ _ _ h => h) (Or.inl ⟨by rfl, ?_⟩) ?_ ?_
                                                rotate_left
                                                · intro w'
                                                  go_simp
                                                  with_reducible rfl
                                                rotate_left
                                                · simp only [Act.put, z1, z2, z3, i64_w, i32_w]
                                                  rfl
                                                refine take_ (i := 7) (N := some 110) (v := ?_) (a' := ?_) b5_47 rfl rfl (take_ofW HT_.out HW_.out (by kernel_rfl)) (fun _ _ _ h => h) (Or.inl ⟨by rfl, ?_⟩) hHeld ?_ ?_
                                                rotate_left
                                                · rintro w' ⟨s0, s1, s2, s3, s4⟩
                                                  go_simp
                                                  with_reducible rfl
                                                rotate_left
                                                · simp only [Act.put, z1, z2, z3, i64_w, i32_w]
                                                  rfl
                                                refine one_ (i := 2) (N := some 105) b5_48 rfl rfl (one_of HT_.out (by kernel_rfl)) (by decide) (fun K hK => ?_)
                                                refine goes_ Try.func15 (by kernel_rfl) rfl #[.slice (some ad271) t260.length co23, .int .i64 x7_3] (by rfl) rfl rfl sl_ ?_
                                                with_reducible refine (cluster_Spread.calls kj44 _ _ t260 x7_3 t270 _ ?side1 ?side2 A48.out).mono ?_
                                                (case side1 => repeat (first | exact (Kd.R_reads' HO_5.out).2.2 | (with_reducible refine Kd.C_alloc ?_ _) | (with_reducible refine Kd.C_drewN ?_ _) | (with_reducible refine Kd.C_drew ?_)))
                                                (case side2 => exact (Kd.R_reads' HO_5.out).2.1)
                                                rintro e w55 ⟨rfl, hb⟩
                                                have HS0_ := (hb.cell (World.block_lt_of_cell? _ _ (hHeld.1))).trans (hHeld.1)
                                                have HS1_ := (hb.cell (World.block_lt_of_cell? _ _ (hHeld.2.1))).trans (hHeld.2.1)
                                                have HS2_ := (hb.cell (World.block_lt_of_cell? _ _ (hHeld.2.2.1))).trans (hHeld.2.2.1)
                                                have HS3_ := (hb.cell (World.block_lt_of_cell? _ _ (hHeld.2.2.2.1))).trans (hHeld.2.2.2.1)
                                                have HS4_ := (hb.cell (World.block_lt_of_cell? _ _ (hHeld.2.2.2.2))).trans (hHeld.2.2.2.2)
                                                refine ⟨_, rfl, ?_⟩
                                                have n0_ := Aside0.mk (Kd.R_below (by (with_reducible repeat (first | apply Kd.R_alloc | apply Kd.R_drewN | apply Kd.R_drew)); exact HO_5.out) hb)
                                                have n1_ := Aside0.mk (below_step hb_ hb)
                                                clear HO_5
                                                clear HB
                                                have HO_5 := n0_
                                                have HB := n1_
                                                clear n0_ n1_
                                                (try clear hb)
                                                (try clear hb2)
                                                (try clear hk)
                                                (try clear hi)
                                                refine hK.out _ _ ⟨HS0_, HS1_, HS2_, HS3_, HS4_⟩ (fun hHeld => ?_)
                                                clear hK K
                                                refine norm_ (a' := ?_) ?_ ?_
                                                rotate_left
                                                · show Act.put _ (some 105) _ = _
                                                  simp only [Act.put, z1, z2, z3, i64_w, i32_w]
                                                  rfl
                                                refine pure_ (i := 8) (N := some 111) (v := ?_) (a' := ?_) b5_49 rfl rfl (any_of HT_.out (by kernel_rfl)) (fun _ _ _ h => h) (Or.inl ⟨by rfl, ?_⟩) ?_ ?_
                                                rotate_left
                                                · intro w'
                                                  go_simp
                                                  with_reducible rfl
                                                rotate_left
                                                · simp only [Act.put, z1, z2, z3, i64_w, i32_w]
                                                  rfl
                                                refine done_ (done_of HT_.out (by kernel_rfl)) ?_
                                                try go_wp2
                                                go_roundg kj44
                                                case measure => have := HJ2.out; have := HJ13.out; have := HK3.out; have := HK4.out; have := HJ30.out; have := HK6.out; have := HJ44.out; omega
                                                case rel => exact ⟨(wrap64 (x10_6 + 1)), (by first | rfl | (simp; done) | (simp [*]; done)), H', ⟨by have := HJ2.out; have := HJ13.out; have := HK3.out; have := HK4.out; have := HJ30.out; have := HK6.out; have := HJ44.out; omega⟩, ⟨by (with_reducible repeat (first | apply Kd.R_alloc | apply Kd.R_drewN | apply Kd.R_drew)); exact HO_5.out⟩, ⟨hb_⟩⟩
                                            · rw [if_neg c50] at H
                                              exact absurd H (by simp)
                                          · rw [if_neg c49] at H
                                            exact absurd H (by simp)
                                        · replace c47 := Bool.eq_false_iff.mpr c47
                                          subst c47
                                          have H1 : (timesynclaw25_ClusterSurvivors.l0 kj44 l0 a1 t260 (wrap64 (x7_3 + 1))) = some r := by rw [if_neg (show ¬ (false = true) by decide)] at H; exact H
                                          clear H
                                          have H := H1
                                          clear H1
                                          have H' := Aside0.mk H
                                          clear H
                                          go_wp2
                                          go_roundg kj44
                                          case measure => have := HJ2.out; have := HJ13.out; have := HK3.out; have := HK4.out; have := HJ30.out; have := HK6.out; have := HJ44.out; omega
                                          case rel => exact ⟨(wrap64 (x7_3 + 1)), (by first | rfl | (simp; done) | (simp [*]; done)), H', ⟨by have := HJ2.out; have := HJ13.out; have := HK3.out; have := HK4.out; have := HJ30.out; have := HK6.out; have := HJ44.out; omega⟩, ⟨by (with_reducible repeat (first | apply Kd.R_alloc | apply Kd.R_drewN | apply Kd.R_drew)); exact HO_5.out⟩, ⟨hb_⟩⟩
                  · rw [if_neg c22] at H
                    have c22b0 : decide (x7_3 < (t260.length : Int)) = false := decide_eq_false c22
                    clear c22
                    replace H := Option.bind_eq_some_iff.mp H
                    obtain ⟨t264, A560, H⟩ := H
                    replace H : (some t264) = some r := H
                    have A56 := Aside0.mk A560
                    clear A560
                    obtain rfl := Option.some.inj H
                    obtain ⟨Ao57, co57, eo57⟩ := Kd.R_slice HO_5.out
                    subst eo57
                    go_wp2_with (first | ((with_reducible refine gate_callee (f := 9) rfl ?_); refine goesL_ (some 112) rfl rfl Try.func9 (by kernel_rfl) rfl #[] rfl sl_ ?_; (with_reducible refine (timesynclaw25_awake.calls k3  t264 _ A56.out).mono ?_); rintro e w58 ⟨rfl, hb⟩; refine ⟨_, rfl, ?_⟩; have n0_ := Aside0.mk (Kd.R_below (by (with_reducible repeat (first | apply Kd.R_alloc | apply Kd.R_drewN | apply Kd.R_drew)); exact HO_5.out) hb); have n1_ := Aside0.mk (below_step hb_ hb); clear HO_5; clear HB; have HO_5 := n0_; have HB := n1_; clear n0_ n1_; (try clear hb); (try clear hb2); (try clear hk); (try clear hi)))
                    go_ret
                    exact ⟨by first | rfl | (simp [errW_none, errW_some] <;> rfl) | (simp [*, errW_none, errW_some] <;> rfl), hb_⟩

end Go.Proofs.Ytbcmfmlbagjdoaa.PAll
