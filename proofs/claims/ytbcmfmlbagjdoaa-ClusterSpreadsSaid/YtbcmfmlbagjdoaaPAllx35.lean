-- A text of this session, written by a program of its own (wip/tools).
import Derived.Test.YtbcmfmlbagjdoaaPAllx0
import Derived.Test.YtbcmfmlbagjdoaaPAllx1
import Derived.Test.YtbcmfmlbagjdoaaPAllx25
import Derived.Test.YtbcmfmlbagjdoaaPAllx26
import Derived.Test.YtbcmfmlbagjdoaaPAllx32
import Derived.Test.YtbcmfmlbagjdoaaPAllx34
import Derived.Test.YtbcmfmlbagjdoaaWRepsOne
namespace Go.Proofs.Ytbcmfmlbagjdoaa.PAll
open Go.RowKit Go.Proofs.YtbcmfmlbagjdoaaW.PrintWords Go.Proofs.YtbcmfmlbagjdoaaW.PrintLast Go.Proofs.YtbcmfmlbagjdoaaW.PrintMore
attribute [local go_sem] max2_int min2_int max_two min_two max_three min_three max_four min_four   -- for this text's walks alone
set_option linter.unusedVariables false
set_option linter.unusedSimpArgs false

attribute [local go_sem high] eqA34
/-! ### timesynclaw25_awake: function 9 -/
def timesynclaw25_awake.j0 : Nat → List (S34) → Bool → Option (Bool)
  | 0, _, _ => none
  | k + 1, x1, x79 => if x79 = true then (some false) else ((cluster_Prune.f k x1 1).bind fun bt151 => ((cluster_Prune.f k x1 2).bind fun bt155 => ((cluster_Prune.f k x1 0).bind fun bt159 => (if (bt151.1.length : Int) = 1 then (if 0 < (bt151.1.length : Int) then (if 1 < (x1.length : Int) then (if (((rd_T34 bt151.1 0).f0) == ((rd_T34 x1 1).f0) && (((rd_T34 bt151.1 0).f1) == ((rd_T34 x1 1).f1) && (((rd_T34 bt151.1 0).f2) == ((rd_T34 x1 1).f2) && (((rd_T34 bt151.1 0).f3) == ((rd_T34 x1 1).f3) && (((rd_T34 bt151.1 0).f4) == ((rd_T34 x1 1).f4)))))) = true then (if bt151.2 = 0 then (if (bt155.1.length : Int) = 2 then (if 0 < (bt155.1.length : Int) then (if (((rd_T34 bt155.1 0).f0) == ((rd_T34 x1 1).f0) && (((rd_T34 bt155.1 0).f1) == ((rd_T34 x1 1).f1) && (((rd_T34 bt155.1 0).f2) == ((rd_T34 x1 1).f2) && (((rd_T34 bt155.1 0).f3) == ((rd_T34 x1 1).f3) && (((rd_T34 bt155.1 0).f4) == ((rd_T34 x1 1).f4)))))) = true then (if 1 < (bt155.1.length : Int) then (if 0 < (x1.length : Int) then (if (((rd_T34 bt155.1 1).f0) == ((rd_T34 x1 0).f0) && (((rd_T34 bt155.1 1).f1) == ((rd_T34 x1 0).f1) && (((rd_T34 bt155.1 1).f2) == ((rd_T34 x1 0).f2) && (((rd_T34 bt155.1 1).f3) == ((rd_T34 x1 0).f3) && (((rd_T34 bt155.1 1).f4) == ((rd_T34 x1 0).f4)))))) = true then (if bt155.2 = 0 then (some (bt159.2 == 3)) else (some false)) else (some false)) else (none)) else (none)) else (some false)) else (none)) else (some false)) else (some false)) else (some false)) else (none)) else (none)) else (some false)))))
def timesynclaw25_awake.f (k : Nat)  : Option (Bool) := (some (([(⟨7, 0, 10, 5, 2⟩ : S34), (⟨3, 6, 10, 5, 2⟩ : S34), (⟨9, 100, 5, 5, 3⟩ : S34)] : List (S34)) : List (S34))).bind fun y133 => ((cluster_Order.f k y133).bind fun t136 => ((cluster_System.f k y133).bind fun bt139 => (if (t136.length : Int) = 3 then (if 0 < (t136.length : Int) then (if 1 < (y133.length : Int) then (if (!(((rd_T34 t136 0).f0) == ((rd_T34 y133 1).f0)) || (!(((rd_T34 t136 0).f1) == ((rd_T34 y133 1).f1)) || (!(((rd_T34 t136 0).f2) == ((rd_T34 y133 1).f2)) || (!(((rd_T34 t136 0).f3) == ((rd_T34 y133 1).f3)) || (!(((rd_T34 t136 0).f4) == ((rd_T34 y133 1).f4))))))) = true then (timesynclaw25_awake.j0 k y133 true) else (if 1 < (t136.length : Int) then (if 0 < (y133.length : Int) then (if (!(((rd_T34 t136 1).f0) == ((rd_T34 y133 0).f0)) || (!(((rd_T34 t136 1).f1) == ((rd_T34 y133 0).f1)) || (!(((rd_T34 t136 1).f2) == ((rd_T34 y133 0).f2)) || (!(((rd_T34 t136 1).f3) == ((rd_T34 y133 0).f3)) || (!(((rd_T34 t136 1).f4) == ((rd_T34 y133 0).f4))))))) = true then (timesynclaw25_awake.j0 k y133 true) else (if 2 < (t136.length : Int) then (if 2 < (y133.length : Int) then (if (!(((rd_T34 t136 2).f0) == ((rd_T34 y133 2).f0)) || (!(((rd_T34 t136 2).f1) == ((rd_T34 y133 2).f1)) || (!(((rd_T34 t136 2).f2) == ((rd_T34 y133 2).f2)) || (!(((rd_T34 t136 2).f3) == ((rd_T34 y133 2).f3)) || (!(((rd_T34 t136 2).f4) == ((rd_T34 y133 2).f4))))))) = true then (timesynclaw25_awake.j0 k y133 true) else (if bt139.1 = 3 then (if bt139.2 = true then ((cluster_Spread.f k t136 0).bind fun t147 => (if t147 = 66 then ((cluster_Spread.f k t136 1).bind fun t148 => (if t148 = 70 then ((cluster_Spread.f k t136 2).bind fun t149 => (if t149 = 97 then ((cluster_Spread.f k t136 3).bind fun t150 => (timesynclaw25_awake.j0 k y133 (t150 != 0))) else (timesynclaw25_awake.j0 k y133 true))) else (timesynclaw25_awake.j0 k y133 true))) else (timesynclaw25_awake.j0 k y133 true))) else (timesynclaw25_awake.j0 k y133 true)) else (timesynclaw25_awake.j0 k y133 true))) else (none)) else (none))) else (none)) else (none))) else (none)) else (none)) else (timesynclaw25_awake.j0 k y133 true))))
theorem timesynclaw25_awake.mono_l : ∀ k, (∀ y0 y1, LeO (timesynclaw25_awake.j0 k y0 y1) (timesynclaw25_awake.j0 (k + 1) y0 y1))
  | 0 => fun _ _ r h => by simp [timesynclaw25_awake.j0] at h
  | k + 1 => by
    have ih0 := timesynclaw25_awake.mono_l k
    · intro y0 y1
      unfold timesynclaw25_awake.j0
      repeat' first
      | (with_reducible exact ih0 _ _)
      | (with_reducible exact cluster_Order.mono _ _)
      | (with_reducible exact cluster_Prune.mono _ _ _)
      | (with_reducible exact cluster_Spread.mono _ _ _)
      | (with_reducible exact cluster_System.mono _ _)
      | (with_reducible exact LeO.refl _)
      | (with_reducible exact LeO.none _)
      | (with_reducible refine LeO.ite ?_ ?_)
      | (with_reducible refine LeO.bind ?_ (fun _ => ?_))
      | exact ih0 _ _
      | exact cluster_Order.mono _ _
      | exact cluster_Prune.mono _ _ _
      | exact cluster_Spread.mono _ _ _
      | exact cluster_System.mono _ _
      | exact LeO.none _
      | refine LeO.ite ?_ ?_
      | refine LeO.bind ?_ (fun _ => ?_)
theorem timesynclaw25_awake.mono : ∀ k, LeO (timesynclaw25_awake.f k ) (timesynclaw25_awake.f (k + 1) ) := by
  intro  k
  have ih0 := timesynclaw25_awake.mono_l k
  unfold timesynclaw25_awake.f
  repeat' first
      | (with_reducible exact ih0 _ _)
      | (with_reducible exact cluster_Order.mono _ _)
      | (with_reducible exact cluster_Prune.mono _ _ _)
      | (with_reducible exact cluster_Spread.mono _ _ _)
      | (with_reducible exact cluster_System.mono _ _)
      | (with_reducible exact LeO.refl _)
      | (with_reducible exact LeO.none _)
      | (with_reducible refine LeO.ite ?_ ?_)
      | (with_reducible refine LeO.bind ?_ (fun _ => ?_))
      | exact ih0 _ _
      | exact cluster_Order.mono _ _
      | exact cluster_Prune.mono _ _ _
      | exact cluster_Spread.mono _ _ _
      | exact cluster_System.mono _ _
      | exact LeO.none _
      | refine LeO.ite ?_ ?_
      | refine LeO.bind ?_ (fun _ => ?_)
def timesynclaw25_awake.T4 : Bool × List (List Nat × List Nat) := (true, [([], []), ([0], [0]), ([1], [1]), ([2], [2]), ([3], [3]), ([4, 3], [3, 4]), ([5, 3], [3, 5]), ([3], [3]), ([7, 3], [3, 7]), ([8, 3], [3, 8]), ([6, 9, 3], [3, 6, 9]), ([3, 10], [3, 10]), ([11, 3], [11]), ([12], [12]), ([13, 12], [12, 13]), ([14, 12], [12, 14]), ([12], [12]), ([16, 12], [12, 16]), ([17, 12], [12, 17]), ([15, 18, 12], [12, 15, 18]), ([12, 19], [12, 19]), ([20, 12], [20]), ([21], [21]), ([22, 21], [21, 22]), ([23, 21], [21, 23]), ([21], [21]), ([25, 21], [21, 25]), ([26, 21], [21, 26]), ([24, 27, 21], [21, 24, 27]), ([21, 28], [21, 28]), ([29, 21], [29]), ([30], [30]), ([31, 30], [30, 31]), ([30, 32], [30, 32]), ([33, 30], [33]), ([34], [34]), ([35, 34], [34, 35]), ([34, 36], [34, 36]), ([37, 34], [37]), ([38], [38]), ([39, 38, 38], [38, 39]), ([40, 38], [38, 40]), ([38, 41], [38, 41]), ([42, 40], [42]), ([43], [43]), ([44, 43, 43], [43, 44]), ([45, 43], [43, 45]), ([43, 46], [43, 46]), ([47, 45], [47]), ([48], [48]), ([49, 48, 48], [48, 49]), ([50, 48], [48, 50]), ([48, 51], [48, 51]), ([52, 50], [52]), ([53], [53]), ([54, 53, 53], [53, 54]), ([55, 53], [53, 55]), ([53, 56], [53, 56])])
def timesynclaw25_awake.B4 : List Nat := [0, 1, 3, 7, 15, 31, 63, 15, 143, 399, 1023, 2047, 4095, 8191, 16383, 32767, 8191, 73727, 204799, 524287, 1048575, 2097151, 4194303, 8388607, 16777215, 4194303, 37748735, 104857599, 268435455, 536870911, 1073741823, 2147483647, 4294967295, 8589934591, 17179869183, 34359738367, 68719476735, 137438953471, 274877906943, 549755813887, 1099511627775, 2199023255551, 4398046511103, 8796093022207, 17592186044415, 35184372088831, 70368744177663, 140737488355327, 281474976710655, 562949953421311, 1125899906842623, 2251799813685247, 4503599627370495, 9007199254740991, 18014398509481983, 36028797018963967, 72057594037927935, 144115188075855871]
theorem timesynclaw25_awake.tab4 : rtab .any (opsOf Try.f9 4) = timesynclaw25_awake.T4 := by kernel_rfl
theorem timesynclaw25_awake.bits4 : waitsOk timesynclaw25_awake.T4.2 timesynclaw25_awake.B4 = true := by kernel_rfl
def timesynclaw25_awake.T9 : Bool × List (List Nat × List Nat) := (true, [([], []), ([0], [0]), ([1], [1]), ([2], [2]), ([3], [3]), ([4, 3], [3, 4]), ([5, 3], [3, 5]), ([3], [3]), ([7, 3], [3, 7]), ([8, 3], [3, 8]), ([6, 9, 3], [3, 6, 9]), ([3, 10], [3, 10]), ([11, 3], [11]), ([12], [12]), ([13, 12], [12, 13]), ([12, 14], [12, 14]), ([15, 12], [15]), ([16], [16]), ([17, 16], [16, 17]), ([18, 16], [16, 18]), ([16, 19], [16, 19]), ([20, 16], [20]), ([21], [21]), ([22, 21], [21, 22]), ([23, 21], [21, 23]), ([21], [21]), ([25, 21], [21, 25]), ([26, 21], [21, 26]), ([24, 27, 21], [21, 24, 27]), ([21, 28], [21, 28]), ([29, 21], [29]), ([30], [30]), ([31, 30], [30, 31]), ([32, 30], [30, 32]), ([30], [30]), ([34, 30], [30, 34]), ([35, 30], [30, 35]), ([33, 36, 30], [30, 33, 36]), ([30, 37], [30, 37]), ([38, 30], [38]), ([39], [39]), ([40, 39], [39, 40]), ([39, 41], [39, 41]), ([42, 39], [42]), ([43], [43]), ([44, 43], [43, 44]), ([43, 45], [43, 45]), ([46, 43, 0, 1, 2, 3, 4, 5, 6, 7, 8, 9, 10, 11, 12, 13, 14, 15, 16, 17, 18, 19, 20, 21, 22, 23, 24, 25, 26, 27, 28, 29, 30, 31, 32, 33, 34, 35, 36, 37, 38, 39, 40, 41, 42, 43, 44, 45, 46], [46])])
def timesynclaw25_awake.B9 : List Nat := [0, 1, 3, 7, 15, 31, 63, 15, 143, 399, 1023, 2047, 4095, 8191, 16383, 32767, 65535, 131071, 262143, 524287, 1048575, 2097151, 4194303, 8388607, 16777215, 4194303, 37748735, 104857599, 268435455, 536870911, 1073741823, 2147483647, 4294967295, 8589934591, 2147483647, 19327352831, 53687091199, 137438953471, 274877906943, 549755813887, 1099511627775, 2199023255551, 4398046511103, 8796093022207, 17592186044415, 35184372088831, 70368744177663, 140737488355327]
theorem timesynclaw25_awake.tab9 : rtab .any (opsOf Try.f9 9) = timesynclaw25_awake.T9 := by kernel_rfl
theorem timesynclaw25_awake.bits9 : waitsOk timesynclaw25_awake.T9.2 timesynclaw25_awake.B9 = true := by kernel_rfl
abbrev b9_0 : Array Bool := #[false, false, false, false, false, false, false, false, false, false, false, false, false, false, false, false, false, false, false, false, false, false, false, false, false, false, false, false, false, false, false, false, false, false, false, false, false, false, false, false, false, false, false, false, false, false, false, false, false, false, false, false, false, false, false, false, false, false]
abbrev b9_1 : Array Bool := #[true, false, false, false, false, false, false, false, false, false, false, false, false, false, false, false, false, false, false, false, false, false, false, false, false, false, false, false, false, false, false, false, false, false, false, false, false, false, false, false, false, false, false, false, false, false, false, false, false, false, false, false, false, false, false, false, false, false]
abbrev b9_2 : Array Bool := #[true, true, false, false, false, false, false, false, false, false, false, false, false, false, false, false, false, false, false, false, false, false, false, false, false, false, false, false, false, false, false, false, false, false, false, false, false, false, false, false, false, false, false, false, false, false, false, false, false, false, false, false, false, false, false, false, false, false]
abbrev b9_3 : Array Bool := #[true, true, true, false, false, false, false, false, false, false, false, false, false, false, false, false, false, false, false, false, false, false, false, false, false, false, false, false, false, false, false, false, false, false, false, false, false, false, false, false, false, false, false, false, false, false, false, false, false, false, false, false, false, false, false, false, false, false]
abbrev b9_4 : Array Bool := #[true, true, true, true, false, false, false, false, false, false, false, false, false, false, false, false, false, false, false, false, false, false, false, false, false, false, false, false, false, false, false, false, false, false, false, false, false, false, false, false, false, false, false, false, false, false, false, false, false, false, false, false, false, false, false, false, false, false]
abbrev b9_5 : Array Bool := #[true, true, true, true, true, false, false, false, false, false, false, false, false, false, false, false, false, false, false, false, false, false, false, false, false, false, false, false, false, false, false, false, false, false, false, false, false, false, false, false, false, false, false, false, false, false, false, false, false, false, false, false, false, false, false, false, false, false]
abbrev b9_6 : Array Bool := #[true, true, true, true, true, true, false, false, false, false, false, false, false, false, false, false, false, false, false, false, false, false, false, false, false, false, false, false, false, false, false, false, false, false, false, false, false, false, false, false, false, false, false, false, false, false, false, false, false, false, false, false, false, false, false, false, false, false]
abbrev b9_7 : Array Bool := #[true, true, true, true, true, true, false, true, false, false, false, false, false, false, false, false, false, false, false, false, false, false, false, false, false, false, false, false, false, false, false, false, false, false, false, false, false, false, false, false, false, false, false, false, false, false, false, false, false, false, false, false, false, false, false, false, false, false]
abbrev b9_8 : Array Bool := #[true, true, true, true, true, true, false, true, true, false, false, false, false, false, false, false, false, false, false, false, false, false, false, false, false, false, false, false, false, false, false, false, false, false, false, false, false, false, false, false, false, false, false, false, false, false, false, false, false, false, false, false, false, false, false, false, false, false]
abbrev b9_9 : Array Bool := #[true, true, true, true, true, true, true, true, true, false, false, false, false, false, false, false, false, false, false, false, false, false, false, false, false, false, false, false, false, false, false, false, false, false, false, false, false, false, false, false, false, false, false, false, false, false, false, false, false, false, false, false, false, false, false, false, false, false]
abbrev b9_10 : Array Bool := #[true, true, true, true, true, true, true, true, true, true, false, false, false, false, false, false, false, false, false, false, false, false, false, false, false, false, false, false, false, false, false, false, false, false, false, false, false, false, false, false, false, false, false, false, false, false, false, false, false, false, false, false, false, false, false, false, false, false]
abbrev b9_11 : Array Bool := #[true, true, true, true, true, true, true, true, true, true, true, false, false, false, false, false, false, false, false, false, false, false, false, false, false, false, false, false, false, false, false, false, false, false, false, false, false, false, false, false, false, false, false, false, false, false, false, false, false, false, false, false, false, false, false, false, false, false]
abbrev b9_12 : Array Bool := #[true, true, true, true, true, true, true, true, true, true, true, true, false, false, false, false, false, false, false, false, false, false, false, false, false, false, false, false, false, false, false, false, false, false, false, false, false, false, false, false, false, false, false, false, false, false, false, false, false, false, false, false, false, false, false, false, false, false]
abbrev b9_13 : Array Bool := #[true, true, true, true, true, true, true, true, true, true, true, true, true, false, false, false, false, false, false, false, false, false, false, false, false, false, false, false, false, false, false, false, false, false, false, false, false, false, false, false, false, false, false, false, false, false, false, false, false, false, false, false, false, false, false, false, false, false]
abbrev b9_14 : Array Bool := #[true, true, true, true, true, true, true, true, true, true, true, true, true, true, false, false, false, false, false, false, false, false, false, false, false, false, false, false, false, false, false, false, false, false, false, false, false, false, false, false, false, false, false, false, false, false, false, false, false, false, false, false, false, false, false, false, false, false]
abbrev b9_15 : Array Bool := #[true, true, true, true, true, true, true, true, true, true, true, true, true, true, true, false, false, false, false, false, false, false, false, false, false, false, false, false, false, false, false, false, false, false, false, false, false, false, false, false, false, false, false, false, false, false, false, false, false, false, false, false, false, false, false, false, false, false]
abbrev b9_18 : Array Bool := #[true, true, true, true, true, true, true, true, true, true, true, true, true, true, true, true, true, true, false, false, false, false, false, false, false, false, false, false, false, false, false, false, false, false, false, false, false, false, false, false, false, false, false, false, false, false, false, false, false, false, false, false, false, false, false, false, false, false]
abbrev b9_19 : Array Bool := #[true, true, true, true, true, true, true, true, true, true, true, true, true, true, true, true, true, true, true, false, false, false, false, false, false, false, false, false, false, false, false, false, false, false, false, false, false, false, false, false, false, false, false, false, false, false, false, false, false, false, false, false, false, false, false, false, false, false]
abbrev b9_20 : Array Bool := #[true, true, true, true, true, true, true, true, true, true, true, true, true, true, true, true, true, true, true, true, false, false, false, false, false, false, false, false, false, false, false, false, false, false, false, false, false, false, false, false, false, false, false, false, false, false, false, false, false, false, false, false, false, false, false, false, false, false]
abbrev b9_21 : Array Bool := #[true, true, true, true, true, true, true, true, true, true, true, true, true, true, true, true, true, true, true, true, true, false, false, false, false, false, false, false, false, false, false, false, false, false, false, false, false, false, false, false, false, false, false, false, false, false, false, false, false, false, false, false, false, false, false, false, false, false]
abbrev b9_22 : Array Bool := #[true, true, true, true, true, true, true, true, true, true, true, true, true, true, true, true, true, true, true, true, true, true, false, false, false, false, false, false, false, false, false, false, false, false, false, false, false, false, false, false, false, false, false, false, false, false, false, false, false, false, false, false, false, false, false, false, false, false]
abbrev b9_23 : Array Bool := #[true, true, true, true, true, true, true, true, true, true, true, true, true, true, true, true, true, true, true, true, true, true, true, false, false, false, false, false, false, false, false, false, false, false, false, false, false, false, false, false, false, false, false, false, false, false, false, false, false, false, false, false, false, false, false, false, false, false]
abbrev b9_24 : Array Bool := #[true, true, true, true, true, true, true, true, true, true, true, true, true, true, true, true, true, true, true, true, true, true, true, true, false, false, false, false, false, false, false, false, false, false, false, false, false, false, false, false, false, false, false, false, false, false, false, false, false, false, false, false, false, false, false, false, false, false]
abbrev b9_27 : Array Bool := #[true, true, true, true, true, true, true, true, true, true, true, true, true, true, true, true, true, true, true, true, true, true, true, true, true, true, true, false, false, false, false, false, false, false, false, false, false, false, false, false, false, false, false, false, false, false, false, false, false, false, false, false, false, false, false, false, false, false]
abbrev b9_28 : Array Bool := #[true, true, true, true, true, true, true, true, true, true, true, true, true, true, true, true, true, true, true, true, true, true, true, true, true, true, true, true, false, false, false, false, false, false, false, false, false, false, false, false, false, false, false, false, false, false, false, false, false, false, false, false, false, false, false, false, false, false]
abbrev b9_29 : Array Bool := #[true, true, true, true, true, true, true, true, true, true, true, true, true, true, true, true, true, true, true, true, true, true, true, true, true, true, true, true, true, false, false, false, false, false, false, false, false, false, false, false, false, false, false, false, false, false, false, false, false, false, false, false, false, false, false, false, false, false]
abbrev b9_30 : Array Bool := #[true, true, true, true, true, true, true, true, true, true, true, true, true, true, true, true, true, true, true, true, true, true, true, true, true, true, true, true, true, true, false, false, false, false, false, false, false, false, false, false, false, false, false, false, false, false, false, false, false, false, false, false, false, false, false, false, false, false]
abbrev b9_31 : Array Bool := #[true, true, true, true, true, true, true, true, true, true, true, true, true, true, true, true, true, true, true, true, true, true, true, true, true, true, true, true, true, true, true, false, false, false, false, false, false, false, false, false, false, false, false, false, false, false, false, false, false, false, false, false, false, false, false, false, false, false]
abbrev b9_32 : Array Bool := #[true, true, true, true, true, true, true, true, true, true, true, true, true, true, true, true, true, true, true, true, true, true, true, true, true, true, true, true, true, true, true, true, false, false, false, false, false, false, false, false, false, false, false, false, false, false, false, false, false, false, false, false, false, false, false, false, false, false]
abbrev b9_33 : Array Bool := #[true, true, true, true, true, true, true, true, true, true, true, true, true, true, true, true, true, true, true, true, true, true, true, true, true, true, true, true, true, true, true, true, true, false, false, false, false, false, false, false, false, false, false, false, false, false, false, false, false, false, false, false, false, false, false, false, false, false]
abbrev b9_34 : Array Bool := #[true, true, true, true, true, true, true, true, true, true, true, true, true, true, true, true, true, true, true, true, true, true, true, true, true, true, true, true, true, true, true, true, true, true, false, false, false, false, false, false, false, false, false, false, false, false, false, false, false, false, false, false, false, false, false, false, false, false]
abbrev b9_35 : Array Bool := #[true, true, true, true, true, true, true, true, true, true, true, true, true, true, true, true, true, true, true, true, true, true, true, true, true, true, true, true, true, true, true, true, true, true, true, false, false, false, false, false, false, false, false, false, false, false, false, false, false, false, false, false, false, false, false, false, false, false]
abbrev b9_36 : Array Bool := #[true, true, true, true, true, true, true, true, true, true, true, true, true, true, true, true, true, true, true, true, true, true, true, true, true, true, true, true, true, true, true, true, true, true, true, true, false, false, false, false, false, false, false, false, false, false, false, false, false, false, false, false, false, false, false, false, false, false]
abbrev b9_37 : Array Bool := #[true, true, true, true, true, true, true, true, true, true, true, true, true, true, true, true, true, true, true, true, true, true, true, true, true, true, true, true, true, true, true, true, true, true, true, true, true, false, false, false, false, false, false, false, false, false, false, false, false, false, false, false, false, false, false, false, false, false]
abbrev b9_38 : Array Bool := #[true, true, true, true, true, true, true, true, true, true, true, true, true, true, true, true, true, true, true, true, true, true, true, true, true, true, true, true, true, true, true, true, true, true, true, true, true, true, false, false, false, false, false, false, false, false, false, false, false, false, false, false, false, false, false, false, false, false]
abbrev b9_39 : Array Bool := #[true, true, true, true, true, true, true, true, true, true, true, true, true, true, true, true, true, true, true, true, true, true, true, true, true, true, true, true, true, true, true, true, true, true, true, true, true, true, true, false, false, false, false, false, false, false, false, false, false, false, false, false, false, false, false, false, false, false]
abbrev b9_40 : Array Bool := #[true, true, true, true, true, true, true, true, true, true, true, true, true, true, true, true, true, true, true, true, true, true, true, true, true, true, true, true, true, true, true, true, true, true, true, true, true, true, true, true, false, false, false, false, false, false, false, false, false, false, false, false, false, false, false, false, false, false]
abbrev b9_41 : Array Bool := #[true, true, true, true, true, true, true, true, true, true, true, true, true, true, true, true, true, true, true, true, true, true, true, true, true, true, true, true, true, true, true, true, true, true, true, true, true, true, true, true, true, false, false, false, false, false, false, false, false, false, false, false, false, false, false, false, false, false]
abbrev b9_42 : Array Bool := #[true, true, true, true, true, true, true, true, true, true, true, true, true, true, true, true, true, true, true, true, true, true, true, true, true, true, true, true, true, true, true, true, true, true, true, true, true, true, true, true, true, true, false, false, false, false, false, false, false, false, false, false, false, false, false, false, false, false]
abbrev b9_43 : Array Bool := #[true, true, true, true, true, true, true, true, true, true, true, true, true, true, true, true, true, true, true, true, true, true, true, true, true, true, true, true, true, true, true, true, true, true, true, true, true, true, true, true, true, true, true, false, false, false, false, false, false, false, false, false, false, false, false, false, false, false]
abbrev b9_44 : Array Bool := #[true, true, true, true, true, true, true, true, true, true, true, true, true, true, true, true, true, true, true, true, true, true, true, true, true, true, true, true, true, true, true, true, true, true, true, true, true, true, true, true, true, true, true, true, false, false, false, false, false, false, false, false, false, false, false, false, false, false]
abbrev b9_45 : Array Bool := #[true, true, true, true, true, true, true, true, true, true, true, true, true, true, true, true, true, true, true, true, true, true, true, true, true, true, true, true, true, true, true, true, true, true, true, true, true, true, true, true, true, true, true, true, true, false, false, false, false, false, false, false, false, false, false, false, false, false]
abbrev b9_46 : Array Bool := #[true, true, true, true, true, true, true, true, true, true, true, true, true, true, true, true, true, true, true, true, true, true, true, true, true, true, true, true, true, true, true, true, true, true, true, true, true, true, true, true, true, true, true, true, true, true, false, false, false, false, false, false, false, false, false, false, false, false]
abbrev b9_47 : Array Bool := #[true, true, true, true, true, true, true, true, true, true, true, true, true, true, true, true, true, true, true, true, true, true, true, true, true, true, true, true, true, true, true, true, true, true, true, true, true, true, true, true, true, true, true, true, true, true, true, false, false, false, false, false, false, false, false, false, false, false]
abbrev b9_48 : Array Bool := #[true, true, true, true, true, true, true, true, true, true, true, true, true, true, true, true, true, true, true, true, true, true, true, true, true, true, true, true, true, true, true, true, true, true, true, true, true, true, true, true, true, true, true, true, true, true, true, true, false, false, false, false, false, false, false, false, false, false]
abbrev b9_49 : Array Bool := #[true, true, true, true, true, true, true, true, true, true, true, true, true, true, true, true, true, true, true, true, true, true, true, true, true, true, true, true, true, true, true, true, true, true, true, true, true, true, true, true, true, true, true, true, true, true, true, true, true, false, false, false, false, false, false, false, false, false]
abbrev b9_50 : Array Bool := #[true, true, true, true, true, true, true, true, true, true, true, true, true, true, true, true, true, true, true, true, true, true, true, true, true, true, true, true, true, true, true, true, true, true, true, true, true, true, true, true, true, true, true, true, true, true, true, true, true, true, false, false, false, false, false, false, false, false]
abbrev b9_51 : Array Bool := #[true, true, true, true, true, true, true, true, true, true, true, true, true, true, true, true, true, true, true, true, true, true, true, true, true, true, true, true, true, true, true, true, true, true, true, true, true, true, true, true, true, true, true, true, true, true, true, true, true, true, true, false, false, false, false, false, false, false]
abbrev b9_52 : Array Bool := #[true, true, true, true, true, true, true, true, true, true, true, true, true, true, true, true, true, true, true, true, true, true, true, true, true, true, true, true, true, true, true, true, true, true, true, true, true, true, true, true, true, true, true, true, true, true, true, true, true, true, true, true, false, false, false, false, false, false]
abbrev b9_53 : Array Bool := #[true, true, true, true, true, true, true, true, true, true, true, true, true, true, true, true, true, true, true, true, true, true, true, true, true, true, true, true, true, true, true, true, true, true, true, true, true, true, true, true, true, true, true, true, true, true, true, true, true, true, true, true, true, false, false, false, false, false]
abbrev b9_54 : Array Bool := #[true, true, true, true, true, true, true, true, true, true, true, true, true, true, true, true, true, true, true, true, true, true, true, true, true, true, true, true, true, true, true, true, true, true, true, true, true, true, true, true, true, true, true, true, true, true, true, true, true, true, true, true, true, true, false, false, false, false]
abbrev b9_55 : Array Bool := #[true, true, true, true, true, true, true, true, true, true, true, true, true, true, true, true, true, true, true, true, true, true, true, true, true, true, true, true, true, true, true, true, true, true, true, true, true, true, true, true, true, true, true, true, true, true, true, true, true, true, true, true, true, true, true, false, false, false]
abbrev b9_56 : Array Bool := #[true, true, true, true, true, true, true, true, true, true, true, true, true, true, true, true, true, true, true, true, true, true, true, true, true, true, true, true, true, true, true, true, true, true, true, true, true, true, true, true, true, true, true, true, true, true, true, true, true, true, true, true, true, true, true, true, false, false]
abbrev b9_57 : Array Bool := #[true, true, true, true, true, true, true, true, true, true, true, true, true, true, true, true, true, true, true, true, true, true, true, true, true, true, true, true, true, true, true, true, true, true, true, true, true, true, true, true, true, true, true, true, true, true, true, true, true, true, true, true, true, true, true, true, true, false]
abbrev b9_58 : Array Bool := #[true, true, true, true, true, true, true, true, true, true, true, true, true, true, true, true, true, true, true, true, true, true, true, true, true, true, true, true, true, true, true, true, true, true, true, true, true, true, true, true, true, true, true, true, true, true, true, true, true, true, true, true, true, true, true, true, true, true]
abbrev b9_59 : Array Bool := #[true, true, true, true, true, true, true, true, true, true, true, true, true, true, true, false, true, false, false, false, false, false, false, false, false, false, false, false, false, false, false, false, false, false, false, false, false, false, false, false, false, false, false, false, false, false, false, false, false, false, false, false, false, false, false, false, false, false]
abbrev b9_60 : Array Bool := #[true, true, true, true, true, true, true, true, true, true, true, true, true, true, true, false, true, true, false, false, false, false, false, false, false, false, false, false, false, false, false, false, false, false, false, false, false, false, false, false, false, false, false, false, false, false, false, false, false, false, false, false, false, false, false, false, false, false]
abbrev b9_61 : Array Bool := #[true, true, true, true, true, true, true, true, true, true, true, true, true, true, true, true, true, true, true, true, true, true, true, true, false, true, false, false, false, false, false, false, false, false, false, false, false, false, false, false, false, false, false, false, false, false, false, false, false, false, false, false, false, false, false, false, false, false]
abbrev b9_62 : Array Bool := #[true, true, true, true, true, true, true, true, true, true, true, true, true, true, true, true, true, true, true, true, true, true, true, true, false, true, true, false, false, false, false, false, false, false, false, false, false, false, false, false, false, false, false, false, false, false, false, false, false, false, false, false, false, false, false, false, false, false]
abbrev b9_65 : Array Bool := #[false, false, false, false, false, false, false, false, false, false, false, false, false, false, false, false, false, false, false, false, false, false, false, false, false, false, false, false, false, false, false, false, false, false, false, false, false, false, false, false, false, false, false, false, false, false, false, false]
abbrev b9_66 : Array Bool := #[true, false, false, false, false, false, false, false, false, false, false, false, false, false, false, false, false, false, false, false, false, false, false, false, false, false, false, false, false, false, false, false, false, false, false, false, false, false, false, false, false, false, false, false, false, false, false, false]
abbrev b9_67 : Array Bool := #[true, true, false, false, false, false, false, false, false, false, false, false, false, false, false, false, false, false, false, false, false, false, false, false, false, false, false, false, false, false, false, false, false, false, false, false, false, false, false, false, false, false, false, false, false, false, false, false]
abbrev b9_68 : Array Bool := #[true, true, true, false, false, false, false, false, false, false, false, false, false, false, false, false, false, false, false, false, false, false, false, false, false, false, false, false, false, false, false, false, false, false, false, false, false, false, false, false, false, false, false, false, false, false, false, false]
abbrev b9_69 : Array Bool := #[true, true, true, true, false, false, false, false, false, false, false, false, false, false, false, false, false, false, false, false, false, false, false, false, false, false, false, false, false, false, false, false, false, false, false, false, false, false, false, false, false, false, false, false, false, false, false, false]
abbrev b9_70 : Array Bool := #[true, true, true, true, true, false, false, false, false, false, false, false, false, false, false, false, false, false, false, false, false, false, false, false, false, false, false, false, false, false, false, false, false, false, false, false, false, false, false, false, false, false, false, false, false, false, false, false]
abbrev b9_71 : Array Bool := #[true, true, true, true, true, true, false, false, false, false, false, false, false, false, false, false, false, false, false, false, false, false, false, false, false, false, false, false, false, false, false, false, false, false, false, false, false, false, false, false, false, false, false, false, false, false, false, false]
abbrev b9_72 : Array Bool := #[true, true, true, true, true, true, false, true, false, false, false, false, false, false, false, false, false, false, false, false, false, false, false, false, false, false, false, false, false, false, false, false, false, false, false, false, false, false, false, false, false, false, false, false, false, false, false, false]
abbrev b9_73 : Array Bool := #[true, true, true, true, true, true, false, true, true, false, false, false, false, false, false, false, false, false, false, false, false, false, false, false, false, false, false, false, false, false, false, false, false, false, false, false, false, false, false, false, false, false, false, false, false, false, false, false]
abbrev b9_74 : Array Bool := #[true, true, true, true, true, true, true, true, true, false, false, false, false, false, false, false, false, false, false, false, false, false, false, false, false, false, false, false, false, false, false, false, false, false, false, false, false, false, false, false, false, false, false, false, false, false, false, false]
abbrev b9_75 : Array Bool := #[true, true, true, true, true, true, true, true, true, true, false, false, false, false, false, false, false, false, false, false, false, false, false, false, false, false, false, false, false, false, false, false, false, false, false, false, false, false, false, false, false, false, false, false, false, false, false, false]
abbrev b9_76 : Array Bool := #[true, true, true, true, true, true, true, true, true, true, true, false, false, false, false, false, false, false, false, false, false, false, false, false, false, false, false, false, false, false, false, false, false, false, false, false, false, false, false, false, false, false, false, false, false, false, false, false]
abbrev b9_77 : Array Bool := #[true, true, true, true, true, true, true, true, true, true, true, true, false, false, false, false, false, false, false, false, false, false, false, false, false, false, false, false, false, false, false, false, false, false, false, false, false, false, false, false, false, false, false, false, false, false, false, false]
abbrev b9_78 : Array Bool := #[true, true, true, true, true, true, true, true, true, true, true, true, true, false, false, false, false, false, false, false, false, false, false, false, false, false, false, false, false, false, false, false, false, false, false, false, false, false, false, false, false, false, false, false, false, false, false, false]
abbrev b9_79 : Array Bool := #[true, true, true, true, true, true, true, true, true, true, true, true, true, true, false, false, false, false, false, false, false, false, false, false, false, false, false, false, false, false, false, false, false, false, false, false, false, false, false, false, false, false, false, false, false, false, false, false]
abbrev b9_80 : Array Bool := #[true, true, true, true, true, true, true, true, true, true, true, true, true, true, true, false, false, false, false, false, false, false, false, false, false, false, false, false, false, false, false, false, false, false, false, false, false, false, false, false, false, false, false, false, false, false, false, false]
abbrev b9_81 : Array Bool := #[true, true, true, true, true, true, true, true, true, true, true, true, true, true, true, true, false, false, false, false, false, false, false, false, false, false, false, false, false, false, false, false, false, false, false, false, false, false, false, false, false, false, false, false, false, false, false, false]
abbrev b9_82 : Array Bool := #[true, true, true, true, true, true, true, true, true, true, true, true, true, true, true, true, true, false, false, false, false, false, false, false, false, false, false, false, false, false, false, false, false, false, false, false, false, false, false, false, false, false, false, false, false, false, false, false]
abbrev b9_83 : Array Bool := #[true, true, true, true, true, true, true, true, true, true, true, true, true, true, true, true, true, true, false, false, false, false, false, false, false, false, false, false, false, false, false, false, false, false, false, false, false, false, false, false, false, false, false, false, false, false, false, false]
abbrev b9_84 : Array Bool := #[true, true, true, true, true, true, true, true, true, true, true, true, true, true, true, true, true, true, true, false, false, false, false, false, false, false, false, false, false, false, false, false, false, false, false, false, false, false, false, false, false, false, false, false, false, false, false, false]
abbrev b9_85 : Array Bool := #[true, true, true, true, true, true, true, true, true, true, true, true, true, true, true, true, true, true, true, true, false, false, false, false, false, false, false, false, false, false, false, false, false, false, false, false, false, false, false, false, false, false, false, false, false, false, false, false]
abbrev b9_86 : Array Bool := #[true, true, true, true, true, true, true, true, true, true, true, true, true, true, true, true, true, true, true, true, true, false, false, false, false, false, false, false, false, false, false, false, false, false, false, false, false, false, false, false, false, false, false, false, false, false, false, false]
abbrev b9_87 : Array Bool := #[true, true, true, true, true, true, true, true, true, true, true, true, true, true, true, true, true, true, true, true, true, true, false, false, false, false, false, false, false, false, false, false, false, false, false, false, false, false, false, false, false, false, false, false, false, false, false, false]
abbrev b9_88 : Array Bool := #[true, true, true, true, true, true, true, true, true, true, true, true, true, true, true, true, true, true, true, true, true, true, true, false, false, false, false, false, false, false, false, false, false, false, false, false, false, false, false, false, false, false, false, false, false, false, false, false]
abbrev b9_89 : Array Bool := #[true, true, true, true, true, true, true, true, true, true, true, true, true, true, true, true, true, true, true, true, true, true, true, true, false, false, false, false, false, false, false, false, false, false, false, false, false, false, false, false, false, false, false, false, false, false, false, false]
abbrev b9_90 : Array Bool := #[true, true, true, true, true, true, true, true, true, true, true, true, true, true, true, true, true, true, true, true, true, true, true, true, false, true, false, false, false, false, false, false, false, false, false, false, false, false, false, false, false, false, false, false, false, false, false, false]
abbrev b9_91 : Array Bool := #[true, true, true, true, true, true, true, true, true, true, true, true, true, true, true, true, true, true, true, true, true, true, true, true, false, true, true, false, false, false, false, false, false, false, false, false, false, false, false, false, false, false, false, false, false, false, false, false]
abbrev b9_92 : Array Bool := #[true, true, true, true, true, true, true, true, true, true, true, true, true, true, true, true, true, true, true, true, true, true, true, true, true, true, true, false, false, false, false, false, false, false, false, false, false, false, false, false, false, false, false, false, false, false, false, false]
abbrev b9_93 : Array Bool := #[true, true, true, true, true, true, true, true, true, true, true, true, true, true, true, true, true, true, true, true, true, true, true, true, true, true, true, true, false, false, false, false, false, false, false, false, false, false, false, false, false, false, false, false, false, false, false, false]
abbrev b9_94 : Array Bool := #[true, true, true, true, true, true, true, true, true, true, true, true, true, true, true, true, true, true, true, true, true, true, true, true, true, true, true, true, true, false, false, false, false, false, false, false, false, false, false, false, false, false, false, false, false, false, false, false]
abbrev b9_95 : Array Bool := #[true, true, true, true, true, true, true, true, true, true, true, true, true, true, true, true, true, true, true, true, true, true, true, true, true, true, true, true, true, true, false, false, false, false, false, false, false, false, false, false, false, false, false, false, false, false, false, false]
abbrev b9_96 : Array Bool := #[true, true, true, true, true, true, true, true, true, true, true, true, true, true, true, true, true, true, true, true, true, true, true, true, true, true, true, true, true, true, true, false, false, false, false, false, false, false, false, false, false, false, false, false, false, false, false, false]
abbrev b9_97 : Array Bool := #[true, true, true, true, true, true, true, true, true, true, true, true, true, true, true, true, true, true, true, true, true, true, true, true, true, true, true, true, true, true, true, true, false, false, false, false, false, false, false, false, false, false, false, false, false, false, false, false]
abbrev b9_98 : Array Bool := #[true, true, true, true, true, true, true, true, true, true, true, true, true, true, true, true, true, true, true, true, true, true, true, true, true, true, true, true, true, true, true, true, true, false, false, false, false, false, false, false, false, false, false, false, false, false, false, false]
abbrev b9_99 : Array Bool := #[true, true, true, true, true, true, true, true, true, true, true, true, true, true, true, true, true, true, true, true, true, true, true, true, true, true, true, true, true, true, true, true, true, false, true, false, false, false, false, false, false, false, false, false, false, false, false, false]
abbrev b9_100 : Array Bool := #[true, true, true, true, true, true, true, true, true, true, true, true, true, true, true, true, true, true, true, true, true, true, true, true, true, true, true, true, true, true, true, true, true, false, true, true, false, false, false, false, false, false, false, false, false, false, false, false]
abbrev b9_101 : Array Bool := #[true, true, true, true, true, true, true, true, true, true, true, true, true, true, true, true, true, true, true, true, true, true, true, true, true, true, true, true, true, true, true, true, true, true, true, true, false, false, false, false, false, false, false, false, false, false, false, false]
abbrev b9_102 : Array Bool := #[true, true, true, true, true, true, true, true, true, true, true, true, true, true, true, true, true, true, true, true, true, true, true, true, true, true, true, true, true, true, true, true, true, true, true, true, true, false, false, false, false, false, false, false, false, false, false, false]
abbrev b9_103 : Array Bool := #[true, true, true, true, true, true, true, true, true, true, true, true, true, true, true, true, true, true, true, true, true, true, true, true, true, true, true, true, true, true, true, true, true, true, true, true, true, true, false, false, false, false, false, false, false, false, false, false]
abbrev b9_104 : Array Bool := #[true, true, true, true, true, true, true, true, true, true, true, true, true, true, true, true, true, true, true, true, true, true, true, true, true, true, true, true, true, true, true, true, true, true, true, true, true, true, true, false, false, false, false, false, false, false, false, false]
abbrev b9_105 : Array Bool := #[true, true, true, true, true, true, true, true, true, true, true, true, true, true, true, true, true, true, true, true, true, true, true, true, true, true, true, true, true, true, true, true, true, true, true, true, true, true, true, true, false, false, false, false, false, false, false, false]
abbrev b9_106 : Array Bool := #[true, true, true, true, true, true, true, true, true, true, true, true, true, true, true, true, true, true, true, true, true, true, true, true, true, true, true, true, true, true, true, true, true, true, true, true, true, true, true, true, true, false, false, false, false, false, false, false]
abbrev b9_107 : Array Bool := #[true, true, true, true, true, true, true, true, true, true, true, true, true, true, true, true, true, true, true, true, true, true, true, true, true, true, true, true, true, true, true, true, true, true, true, true, true, true, true, true, true, true, false, false, false, false, false, false]
abbrev b9_108 : Array Bool := #[true, true, true, true, true, true, true, true, true, true, true, true, true, true, true, true, true, true, true, true, true, true, true, true, true, true, true, true, true, true, true, true, true, true, true, true, true, true, true, true, true, true, true, false, false, false, false, false]
abbrev b9_109 : Array Bool := #[true, true, true, true, true, true, true, true, true, true, true, true, true, true, true, true, true, true, true, true, true, true, true, true, true, true, true, true, true, true, true, true, true, true, true, true, true, true, true, true, true, true, true, true, false, false, false, false]
abbrev b9_110 : Array Bool := #[true, true, true, true, true, true, true, true, true, true, true, true, true, true, true, true, true, true, true, true, true, true, true, true, true, true, true, true, true, true, true, true, true, true, true, true, true, true, true, true, true, true, true, true, true, false, false, false]
abbrev b9_111 : Array Bool := #[true, true, true, true, true, true, true, true, true, true, true, true, true, true, true, true, true, true, true, true, true, true, true, true, true, true, true, true, true, true, true, true, true, true, true, true, true, true, true, true, true, true, true, true, true, true, false, false]
abbrev b9_112 : Array Bool := #[true, true, true, true, true, true, true, true, true, true, true, true, true, true, true, true, true, true, true, true, true, true, true, true, true, true, true, true, true, true, true, true, true, true, true, true, true, true, true, true, true, true, true, true, true, true, true, false]
abbrev b9_113 : Array Bool := #[true, true, true, true, true, true, true, true, true, true, true, true, true, true, true, true, true, true, true, true, true, true, true, true, true, true, true, true, true, true, true, true, true, true, true, true, true, true, true, true, true, true, true, true, true, true, true, true]
theorem agree {α : Type} {g : Nat → Option α} (hm : ∀ k, LeO (g k) (g (k + 1))) {k m : Nat} {a b : α} (ha : g k = some a) (hb : g m = some b) : a = b := by
  have up : ∀ n k a, g k = some a → g (k + n) = some a := by
    intro n
    induction n with
    | zero => intro k a h; exact h
    | succ n ih => intro k a h; exact hm _ _ (ih k a h)
  have h1 := up m k a ha
  have h2 := up k m b hb
  rw [Nat.add_comm] at h2
  rw [h1] at h2
  exact Option.some.inj h2
theorem aw_O : cluster_Order.f 60 ([⟨7, 0, 10, 5, 2⟩, ⟨3, 6, 10, 5, 2⟩, ⟨9, 100, 5, 5, 3⟩] : List S34) = some ([⟨3, 6, 10, 5, 2⟩, ⟨7, 0, 10, 5, 2⟩, ⟨9, 100, 5, 5, 3⟩] : List S34) := by kernel_rfl
theorem aw_S : cluster_System.f 60 ([⟨7, 0, 10, 5, 2⟩, ⟨3, 6, 10, 5, 2⟩, ⟨9, 100, 5, 5, 3⟩] : List S34) = some (3, true) := by kernel_rfl
theorem aw_0 : cluster_Spread.f 60 ([⟨3, 6, 10, 5, 2⟩, ⟨7, 0, 10, 5, 2⟩, ⟨9, 100, 5, 5, 3⟩] : List S34) 0 = some 66 := by kernel_rfl
theorem aw_1 : cluster_Spread.f 60 ([⟨3, 6, 10, 5, 2⟩, ⟨7, 0, 10, 5, 2⟩, ⟨9, 100, 5, 5, 3⟩] : List S34) 1 = some 70 := by kernel_rfl
theorem aw_2 : cluster_Spread.f 60 ([⟨3, 6, 10, 5, 2⟩, ⟨7, 0, 10, 5, 2⟩, ⟨9, 100, 5, 5, 3⟩] : List S34) 2 = some 97 := by kernel_rfl
theorem aw_3 : cluster_Spread.f 60 ([⟨3, 6, 10, 5, 2⟩, ⟨7, 0, 10, 5, 2⟩, ⟨9, 100, 5, 5, 3⟩] : List S34) 3 = some 0 := by kernel_rfl
theorem aw_P1 : cluster_Prune.f 60 ([⟨7, 0, 10, 5, 2⟩, ⟨3, 6, 10, 5, 2⟩, ⟨9, 100, 5, 5, 3⟩] : List S34) 1 = some (([⟨3, 6, 10, 5, 2⟩] : List S34), 0) := by kernel_rfl
theorem aw_P2 : cluster_Prune.f 60 ([⟨7, 0, 10, 5, 2⟩, ⟨3, 6, 10, 5, 2⟩, ⟨9, 100, 5, 5, 3⟩] : List S34) 2 = some (([⟨3, 6, 10, 5, 2⟩, ⟨7, 0, 10, 5, 2⟩] : List S34), 0) := by kernel_rfl
theorem aw_P0 : cluster_Prune.f 60 ([⟨7, 0, 10, 5, 2⟩, ⟨3, 6, 10, 5, 2⟩, ⟨9, 100, 5, 5, 3⟩] : List S34) 0 = some (([] : List S34), 3) := by kernel_rfl
theorem aw_all : timesynclaw25_awake.f 70 = some true := by kernel_rfl
set_option maxHeartbeats 8000000 in
set_option maxRecDepth 100000 in
theorem timesynclaw25_awake.goes (k : Nat)  (r : Bool) (w : World) (hr : Aside0 (r = true)) (h : timesynclaw25_awake.f k  = some r) :
    Calls Try.prog 9 #[] w fun e w' => e = .returned (.bool r) ∧ Below w.heap.size w w' := by
  have hu34 := Try.underlying34
  have HB := Aside0.mk (Below.refl w.heap.size w)
  have H : ((some (([(⟨7, 0, 10, 5, 2⟩ : S34), (⟨3, 6, 10, 5, 2⟩ : S34), (⟨9, 100, 5, 5, 3⟩ : S34)] : List (S34)) : List (S34))).bind fun y133 => ((cluster_Order.f k y133).bind fun t136 => ((cluster_System.f k y133).bind fun bt139 => (if (t136.length : Int) = 3 then (if 0 < (t136.length : Int) then (if 1 < (y133.length : Int) then (if (!(((rd_T34 t136 0).f0) == ((rd_T34 y133 1).f0)) || (!(((rd_T34 t136 0).f1) == ((rd_T34 y133 1).f1)) || (!(((rd_T34 t136 0).f2) == ((rd_T34 y133 1).f2)) || (!(((rd_T34 t136 0).f3) == ((rd_T34 y133 1).f3)) || (!(((rd_T34 t136 0).f4) == ((rd_T34 y133 1).f4))))))) = true then (timesynclaw25_awake.j0 k y133 true) else (if 1 < (t136.length : Int) then (if 0 < (y133.length : Int) then (if (!(((rd_T34 t136 1).f0) == ((rd_T34 y133 0).f0)) || (!(((rd_T34 t136 1).f1) == ((rd_T34 y133 0).f1)) || (!(((rd_T34 t136 1).f2) == ((rd_T34 y133 0).f2)) || (!(((rd_T34 t136 1).f3) == ((rd_T34 y133 0).f3)) || (!(((rd_T34 t136 1).f4) == ((rd_T34 y133 0).f4))))))) = true then (timesynclaw25_awake.j0 k y133 true) else (if 2 < (t136.length : Int) then (if 2 < (y133.length : Int) then (if (!(((rd_T34 t136 2).f0) == ((rd_T34 y133 2).f0)) || (!(((rd_T34 t136 2).f1) == ((rd_T34 y133 2).f1)) || (!(((rd_T34 t136 2).f2) == ((rd_T34 y133 2).f2)) || (!(((rd_T34 t136 2).f3) == ((rd_T34 y133 2).f3)) || (!(((rd_T34 t136 2).f4) == ((rd_T34 y133 2).f4))))))) = true then (timesynclaw25_awake.j0 k y133 true) else (if bt139.1 = 3 then (if bt139.2 = true then ((cluster_Spread.f k t136 0).bind fun t147 => (if t147 = 66 then ((cluster_Spread.f k t136 1).bind fun t148 => (if t148 = 70 then ((cluster_Spread.f k t136 2).bind fun t149 => (if t149 = 97 then ((cluster_Spread.f k t136 3).bind fun t150 => (timesynclaw25_awake.j0 k y133 (t150 != 0))) else (timesynclaw25_awake.j0 k y133 true))) else (timesynclaw25_awake.j0 k y133 true))) else (timesynclaw25_awake.j0 k y133 true))) else (timesynclaw25_awake.j0 k y133 true)) else (timesynclaw25_awake.j0 k y133 true))) else (none)) else (none))) else (none)) else (none))) else (none)) else (none)) else (timesynclaw25_awake.j0 k y133 true))))) = some r := h
  clear h
  obtain ⟨y133, hy133⟩ : ∃ y_ : List (S34), y_ = (([(⟨7, 0, 10, 5, 2⟩ : S34), (⟨3, 6, 10, 5, 2⟩ : S34), (⟨9, 100, 5, 5, 3⟩ : S34)] : List (S34))) := ⟨_, rfl⟩
  replace H : ((cluster_Order.f k y133).bind fun t136 => ((cluster_System.f k y133).bind fun bt139 => (if (t136.length : Int) = 3 then (if 0 < (t136.length : Int) then (if 1 < (y133.length : Int) then (if (!(((rd_T34 t136 0).f0) == ((rd_T34 y133 1).f0)) || (!(((rd_T34 t136 0).f1) == ((rd_T34 y133 1).f1)) || (!(((rd_T34 t136 0).f2) == ((rd_T34 y133 1).f2)) || (!(((rd_T34 t136 0).f3) == ((rd_T34 y133 1).f3)) || (!(((rd_T34 t136 0).f4) == ((rd_T34 y133 1).f4))))))) = true then (timesynclaw25_awake.j0 k y133 true) else (if 1 < (t136.length : Int) then (if 0 < (y133.length : Int) then (if (!(((rd_T34 t136 1).f0) == ((rd_T34 y133 0).f0)) || (!(((rd_T34 t136 1).f1) == ((rd_T34 y133 0).f1)) || (!(((rd_T34 t136 1).f2) == ((rd_T34 y133 0).f2)) || (!(((rd_T34 t136 1).f3) == ((rd_T34 y133 0).f3)) || (!(((rd_T34 t136 1).f4) == ((rd_T34 y133 0).f4))))))) = true then (timesynclaw25_awake.j0 k y133 true) else (if 2 < (t136.length : Int) then (if 2 < (y133.length : Int) then (if (!(((rd_T34 t136 2).f0) == ((rd_T34 y133 2).f0)) || (!(((rd_T34 t136 2).f1) == ((rd_T34 y133 2).f1)) || (!(((rd_T34 t136 2).f2) == ((rd_T34 y133 2).f2)) || (!(((rd_T34 t136 2).f3) == ((rd_T34 y133 2).f3)) || (!(((rd_T34 t136 2).f4) == ((rd_T34 y133 2).f4))))))) = true then (timesynclaw25_awake.j0 k y133 true) else (if bt139.1 = 3 then (if bt139.2 = true then ((cluster_Spread.f k t136 0).bind fun t147 => (if t147 = 66 then ((cluster_Spread.f k t136 1).bind fun t148 => (if t148 = 70 then ((cluster_Spread.f k t136 2).bind fun t149 => (if t149 = 97 then ((cluster_Spread.f k t136 3).bind fun t150 => (timesynclaw25_awake.j0 k y133 (t150 != 0))) else (timesynclaw25_awake.j0 k y133 true))) else (timesynclaw25_awake.j0 k y133 true))) else (timesynclaw25_awake.j0 k y133 true))) else (timesynclaw25_awake.j0 k y133 true)) else (timesynclaw25_awake.j0 k y133 true))) else (none)) else (none))) else (none)) else (none))) else (none)) else (none)) else (timesynclaw25_awake.j0 k y133 true)))) = some r := by first | (rw [hy133]; with_reducible exact H) | (have H2_ := (Option.bind_some _ _).symm.trans H; rw [hy133]; with_reducible exact H2_) | (have H2_ := (Option.bind_some _ _).symm.trans H; with_reducible exact H2_) | with_reducible exact H | (rw [hy133]; exact H) | exact H
  have Ny133 := Aside0.mk hy133
  clear hy133
  replace H := Option.bind_eq_some_iff.mp H
  obtain ⟨t136, A10, H⟩ := H
  have fa_ := agree (fun k_ => cluster_Order.mono _ k_) (by rw [Ny133.out] at A10; exact A10) aw_O
  have et136 : Aside0 (t136 = ([⟨3, 6, 10, 5, 2⟩, ⟨7, 0, 10, 5, 2⟩, ⟨9, 100, 5, 5, 3⟩] : List S34)) := ⟨fa_⟩
  clear fa_
  replace H : ((cluster_System.f k y133).bind fun bt139 => (if (t136.length : Int) = 3 then (if 0 < (t136.length : Int) then (if 1 < (y133.length : Int) then (if (!(((rd_T34 t136 0).f0) == ((rd_T34 y133 1).f0)) || (!(((rd_T34 t136 0).f1) == ((rd_T34 y133 1).f1)) || (!(((rd_T34 t136 0).f2) == ((rd_T34 y133 1).f2)) || (!(((rd_T34 t136 0).f3) == ((rd_T34 y133 1).f3)) || (!(((rd_T34 t136 0).f4) == ((rd_T34 y133 1).f4))))))) = true then (timesynclaw25_awake.j0 k y133 true) else (if 1 < (t136.length : Int) then (if 0 < (y133.length : Int) then (if (!(((rd_T34 t136 1).f0) == ((rd_T34 y133 0).f0)) || (!(((rd_T34 t136 1).f1) == ((rd_T34 y133 0).f1)) || (!(((rd_T34 t136 1).f2) == ((rd_T34 y133 0).f2)) || (!(((rd_T34 t136 1).f3) == ((rd_T34 y133 0).f3)) || (!(((rd_T34 t136 1).f4) == ((rd_T34 y133 0).f4))))))) = true then (timesynclaw25_awake.j0 k y133 true) else (if 2 < (t136.length : Int) then (if 2 < (y133.length : Int) then (if (!(((rd_T34 t136 2).f0) == ((rd_T34 y133 2).f0)) || (!(((rd_T34 t136 2).f1) == ((rd_T34 y133 2).f1)) || (!(((rd_T34 t136 2).f2) == ((rd_T34 y133 2).f2)) || (!(((rd_T34 t136 2).f3) == ((rd_T34 y133 2).f3)) || (!(((rd_T34 t136 2).f4) == ((rd_T34 y133 2).f4))))))) = true then (timesynclaw25_awake.j0 k y133 true) else (if bt139.1 = 3 then (if bt139.2 = true then ((cluster_Spread.f k t136 0).bind fun t147 => (if t147 = 66 then ((cluster_Spread.f k t136 1).bind fun t148 => (if t148 = 70 then ((cluster_Spread.f k t136 2).bind fun t149 => (if t149 = 97 then ((cluster_Spread.f k t136 3).bind fun t150 => (timesynclaw25_awake.j0 k y133 (t150 != 0))) else (timesynclaw25_awake.j0 k y133 true))) else (timesynclaw25_awake.j0 k y133 true))) else (timesynclaw25_awake.j0 k y133 true))) else (timesynclaw25_awake.j0 k y133 true)) else (timesynclaw25_awake.j0 k y133 true))) else (none)) else (none))) else (none)) else (none))) else (none)) else (none)) else (timesynclaw25_awake.j0 k y133 true))) = some r := H
  have A1 := Aside0.mk A10
  clear A10
  replace H := Option.bind_eq_some_iff.mp H
  obtain ⟨⟨t139, t140⟩, A20, H⟩ := H
  have fa_ := agree (fun k_ => cluster_System.mono _ k_) (by rw [Ny133.out] at A20; exact A20) aw_S
  have et139 : Aside0 (t139 = 3) := ⟨(Prod.mk.inj fa_).1⟩
  have et140 : Aside0 (t140 = true) := ⟨(Prod.mk.inj fa_).2⟩
  clear fa_
  replace H : (if (t136.length : Int) = 3 then (if 0 < (t136.length : Int) then (if 1 < (y133.length : Int) then (if (!(((rd_T34 t136 0).f0) == ((rd_T34 y133 1).f0)) || (!(((rd_T34 t136 0).f1) == ((rd_T34 y133 1).f1)) || (!(((rd_T34 t136 0).f2) == ((rd_T34 y133 1).f2)) || (!(((rd_T34 t136 0).f3) == ((rd_T34 y133 1).f3)) || (!(((rd_T34 t136 0).f4) == ((rd_T34 y133 1).f4))))))) = true then (timesynclaw25_awake.j0 k y133 true) else (if 1 < (t136.length : Int) then (if 0 < (y133.length : Int) then (if (!(((rd_T34 t136 1).f0) == ((rd_T34 y133 0).f0)) || (!(((rd_T34 t136 1).f1) == ((rd_T34 y133 0).f1)) || (!(((rd_T34 t136 1).f2) == ((rd_T34 y133 0).f2)) || (!(((rd_T34 t136 1).f3) == ((rd_T34 y133 0).f3)) || (!(((rd_T34 t136 1).f4) == ((rd_T34 y133 0).f4))))))) = true then (timesynclaw25_awake.j0 k y133 true) else (if 2 < (t136.length : Int) then (if 2 < (y133.length : Int) then (if (!(((rd_T34 t136 2).f0) == ((rd_T34 y133 2).f0)) || (!(((rd_T34 t136 2).f1) == ((rd_T34 y133 2).f1)) || (!(((rd_T34 t136 2).f2) == ((rd_T34 y133 2).f2)) || (!(((rd_T34 t136 2).f3) == ((rd_T34 y133 2).f3)) || (!(((rd_T34 t136 2).f4) == ((rd_T34 y133 2).f4))))))) = true then (timesynclaw25_awake.j0 k y133 true) else (if t139 = 3 then (if t140 = true then ((cluster_Spread.f k t136 0).bind fun t147 => (if t147 = 66 then ((cluster_Spread.f k t136 1).bind fun t148 => (if t148 = 70 then ((cluster_Spread.f k t136 2).bind fun t149 => (if t149 = 97 then ((cluster_Spread.f k t136 3).bind fun t150 => (timesynclaw25_awake.j0 k y133 (t150 != 0))) else (timesynclaw25_awake.j0 k y133 true))) else (timesynclaw25_awake.j0 k y133 true))) else (timesynclaw25_awake.j0 k y133 true))) else (timesynclaw25_awake.j0 k y133 true)) else (timesynclaw25_awake.j0 k y133 true))) else (none)) else (none))) else (none)) else (none))) else (none)) else (none)) else (timesynclaw25_awake.j0 k y133 true)) = some r := H
  have A2 := Aside0.mk A20
  clear A20
  have HC3 := Aside0.mk H
  clear H
  go_enter Try.func9, Try.ntmps9
  go_upto_region 4 with (first | ((with_reducible refine gate_dst (N := 14) rfl ?_); refine Kd.R_lit k34 _ 34 ?hg (N := 14) ?hd (xs := ([(⟨7, 0, 10, 5, 2⟩ : S34), (⟨3, 6, 10, 5, 2⟩ : S34), (⟨9, 100, 5, 5, 3⟩ : S34)] : List (S34))) (inner := [.int .i64 7, .int .i64 0, .int .i64 10, .int .i64 5, .int .i64 2, .int .i64 3, .int .i64 6, .int .i64 10, .int .i64 5, .int .i64 2, .int .i64 9, .int .i64 100, .int .i64 5, .int .i64 5, .int .i64 3]) (ok := fun _ => True) (okp := fun _ => True) ?hr ?hp (fun _ hk => hk) trivial (Below.refl _ _) (Nat.le_refl _) (by simp) ?_; (case hd => rfl); (case hg => rfl); (case hr => first | (go_simp; done) | (go_simp; rfl)); (case hp => exact (Reps.c5 (show Kd.M k34 _ _ _ (⟨7, 0, 10, 5, 2⟩ : S34) [.int .i64 7, .int .i64 0, .int .i64 10, .int .i64 5, .int .i64 2] from (k34_mkM _ _ _ (⟨7, 0, 10, 5, 2⟩ : S34) )) (Reps.c5 (show Kd.M k34 _ _ _ (⟨3, 6, 10, 5, 2⟩ : S34) [.int .i64 3, .int .i64 6, .int .i64 10, .int .i64 5, .int .i64 2] from (k34_mkM _ _ _ (⟨3, 6, 10, 5, 2⟩ : S34) )) (Reps.c5 (show Kd.M k34 _ _ _ (⟨9, 100, 5, 5, 3⟩ : S34) [.int .i64 9, .int .i64 100, .int .i64 5, .int .i64 5, .int .i64 3] from (k34_mkM _ _ _ (⟨9, 100, 5, 5, 3⟩ : S34) )) (Reps.none _ _))))); intro v134 w4 ho5 hb hg_ hnew_; clear hg_ hnew_; (first | rw [← Ny133.out] at ho5 | (simp only [Int.reduceToNat] at ho5; rw [← Ny133.out] at ho5)); have n0_ := Aside0.mk (Kd.R_lower ho5 (below_size hb_)); have n1_ := Aside0.mk (below_step hb_ hb); clear HB; have HO135 := n0_; have HB := n1_; clear n0_ n1_; clear hb ho5; obtain ⟨Ao6, co6, eo6⟩ := Kd.R_slice HO135.out; subst eo6) | ((with_reducible refine gate_callee (f := 13) rfl ?_); refine goesL_ (some 16) rfl rfl Try.func13 (by kernel_rfl) rfl #[.slice Ao6 y133.length co6] rfl sl_ ?_; (with_reducible refine (cluster_Order.calls k _ _ y133 t136 _ ?side1 ?side2 A1.out).mono ?_); (case side1 => repeat (first | exact (Kd.R_reads' HO135.out).2.2 | (with_reducible refine Kd.C_alloc ?_ _) | (with_reducible refine Kd.C_drewN ?_ _) | (with_reducible refine Kd.C_drew ?_))); (case side2 => exact (Kd.R_reads' HO135.out).2.1); rintro e w7 ⟨v137, rfl, ho0, hb⟩; refine ⟨_, rfl, ?_⟩; have n0_ := Aside0.mk (Kd.R_elder' (by (with_reducible repeat (first | apply Kd.R_alloc | apply Kd.R_drewN | apply Kd.R_drew)); exact HO135.out) (Kd.R_base ho0) hb); have n1_ := Aside0.mk (Kd.R_lower (Kd.R_new' ho0 (Kd.R_lt (by (with_reducible repeat (first | apply Kd.R_alloc | apply Kd.R_drewN | apply Kd.R_drew)); exact HO135.out))) (below_size hb_)); have n2_ := Aside0.mk (below_step hb_ hb); clear HO135; clear HB; have HO135 := n0_; have HO138 := n1_; have HB := n2_; clear n0_ n1_ n2_; (try clear hb); (try clear hb2); (try clear hk); (try clear hi); (try clear ho0)) | ((with_reducible refine gate_callee (f := 10) rfl ?_); refine goesL_ (some 19) rfl rfl Try.func10 (by kernel_rfl) rfl #[.slice Ao6 y133.length co6] rfl sl_ ?_; (with_reducible refine (cluster_System.calls k _ _ y133 t139 t140 _ ?side1 ?side2 A2.out).mono ?_); (case side1 => repeat (first | exact (Kd.R_reads' HO135.out).2.2 | (with_reducible refine Kd.C_alloc ?_ _) | (with_reducible refine Kd.C_drewN ?_ _) | (with_reducible refine Kd.C_drew ?_))); (case side2 => exact (Kd.R_reads' HO135.out).2.1); rintro e w8 ⟨rfl, hb⟩; refine ⟨_, rfl, ?_⟩; have n0_ := Aside0.mk (Kd.R_below (by (with_reducible repeat (first | apply Kd.R_alloc | apply Kd.R_drewN | apply Kd.R_drew)); exact HO135.out) hb); have n1_ := Aside0.mk (Kd.R_below (by (with_reducible repeat (first | apply Kd.R_alloc | apply Kd.R_drewN | apply Kd.R_drew)); exact HO138.out) hb); have n2_ := Aside0.mk (below_step hb_ hb); clear HO135; clear HO138; clear HB; have HO135 := n0_; have HO138 := n1_; have HB := n2_; clear n0_ n1_ n2_; (try clear hb); (try clear hb2); (try clear hk); (try clear hi)))
  (try simp only [Act.put, z1, z2, z3])
  go_cut [79] (fun v79 wc => ∃ (kq : Nat) (x79_2 : Bool), v79 = .bool x79_2 ∧ Aside0 (timesynclaw25_awake.j0 kq y133 x79_2 = some r) ∧ Aside0 (kq ≤ k) ∧ Aside0 (Kd.R k34 34 wc w.heap.size (fun _ => True) (.slice Ao6 y133.length co6) y133) ∧ Aside0 (Below w.heap.size w wc))
  case first =>
    have H := HC3.out
    clear HC3
    have c9 : (t136.length : Int) = 3 := by simp only [et136.out]; first | done | decide
    · rw [if_pos c9] at H
      have c9b0 : ((t136.length : Int) == 3) = true := beq_iff_eq.mpr c9
      have c9b1 : ((t136.length : Int) != 3) = false := bne_eq_false_iff_eq.mpr c9
      clear c9
      (first | rw [c9b0] | (simp only [i64_w, i32_w]; rw [c9b0]) | skip)
      have c10 : 0 < (t136.length : Int) := by simp only [et136.out]; first | done | decide
      · rw [if_pos c10] at H
        have c10b0 : decide (0 < (t136.length : Int)) = true := decide_eq_true c10
        have c10b1 : decide (0 < t136.length) = true := decide_eq_true (by omega)
        clear c10
        have c11 : 1 < (y133.length : Int) := by simp only [Ny133.out]; first | done | decide
        · rw [if_pos c11] at H
          have c11b0 : decide (1 < (y133.length : Int)) = true := decide_eq_true c11
          have c11b1 : decide (1 < y133.length) = true := decide_eq_true (by omega)
          clear c11
          have c12 : ¬ ((!(((rd_T34 t136 0).f0) == ((rd_T34 y133 1).f0)) || (!(((rd_T34 t136 0).f1) == ((rd_T34 y133 1).f1)) || (!(((rd_T34 t136 0).f2) == ((rd_T34 y133 1).f2)) || (!(((rd_T34 t136 0).f3) == ((rd_T34 y133 1).f3)) || (!(((rd_T34 t136 0).f4) == ((rd_T34 y133 1).f4))))))) = true) := by simp only [et136.out, Ny133.out]; first | done | decide
          · rw [if_neg c12] at H
            have c12b0 : (!(((rd_T34 t136 0).f0) == ((rd_T34 y133 1).f0)) || (!(((rd_T34 t136 0).f1) == ((rd_T34 y133 1).f1)) || (!(((rd_T34 t136 0).f2) == ((rd_T34 y133 1).f2)) || (!(((rd_T34 t136 0).f3) == ((rd_T34 y133 1).f3)) || (!(((rd_T34 t136 0).f4) == ((rd_T34 y133 1).f4))))))) = false := by simpa using c12
            clear c12
            have c15 : 1 < (t136.length : Int) := by simp only [et136.out]; first | done | decide
            · rw [if_pos c15] at H
              have c15b0 : decide (1 < (t136.length : Int)) = true := decide_eq_true c15
              have c15b1 : decide (1 < t136.length) = true := decide_eq_true (by omega)
              clear c15
              have c16 : 0 < (y133.length : Int) := by simp only [Ny133.out]; first | done | decide
              · rw [if_pos c16] at H
                have c16b0 : decide (0 < (y133.length : Int)) = true := decide_eq_true c16
                have c16b1 : decide (0 < y133.length) = true := decide_eq_true (by omega)
                clear c16
                have c17 : ¬ ((!(((rd_T34 t136 1).f0) == ((rd_T34 y133 0).f0)) || (!(((rd_T34 t136 1).f1) == ((rd_T34 y133 0).f1)) || (!(((rd_T34 t136 1).f2) == ((rd_T34 y133 0).f2)) || (!(((rd_T34 t136 1).f3) == ((rd_T34 y133 0).f3)) || (!(((rd_T34 t136 1).f4) == ((rd_T34 y133 0).f4))))))) = true) := by simp only [et136.out, Ny133.out]; first | done | decide
                · rw [if_neg c17] at H
                  have c17b0 : (!(((rd_T34 t136 1).f0) == ((rd_T34 y133 0).f0)) || (!(((rd_T34 t136 1).f1) == ((rd_T34 y133 0).f1)) || (!(((rd_T34 t136 1).f2) == ((rd_T34 y133 0).f2)) || (!(((rd_T34 t136 1).f3) == ((rd_T34 y133 0).f3)) || (!(((rd_T34 t136 1).f4) == ((rd_T34 y133 0).f4))))))) = false := by simpa using c17
                  clear c17
                  have c20 : 2 < (t136.length : Int) := by simp only [et136.out]; first | done | decide
                  · rw [if_pos c20] at H
                    have c20b0 : decide (2 < (t136.length : Int)) = true := decide_eq_true c20
                    have c20b1 : decide (2 < t136.length) = true := decide_eq_true (by omega)
                    clear c20
                    have c21 : 2 < (y133.length : Int) := by simp only [Ny133.out]; first | done | decide
                    · rw [if_pos c21] at H
                      have c21b0 : decide (2 < (y133.length : Int)) = true := decide_eq_true c21
                      have c21b1 : decide (2 < y133.length) = true := decide_eq_true (by omega)
                      clear c21
                      have c22 : ¬ ((!(((rd_T34 t136 2).f0) == ((rd_T34 y133 2).f0)) || (!(((rd_T34 t136 2).f1) == ((rd_T34 y133 2).f1)) || (!(((rd_T34 t136 2).f2) == ((rd_T34 y133 2).f2)) || (!(((rd_T34 t136 2).f3) == ((rd_T34 y133 2).f3)) || (!(((rd_T34 t136 2).f4) == ((rd_T34 y133 2).f4))))))) = true) := by simp only [et136.out, Ny133.out]; first | done | decide
                      · rw [if_neg c22] at H
                        have c22b0 : (!(((rd_T34 t136 2).f0) == ((rd_T34 y133 2).f0)) || (!(((rd_T34 t136 2).f1) == ((rd_T34 y133 2).f1)) || (!(((rd_T34 t136 2).f2) == ((rd_T34 y133 2).f2)) || (!(((rd_T34 t136 2).f3) == ((rd_T34 y133 2).f3)) || (!(((rd_T34 t136 2).f4) == ((rd_T34 y133 2).f4))))))) = false := by simpa using c22
                        clear c22
                        have c25 : t139 = 3 := by simp only [et139.out]; first | done | decide
                        · rw [if_pos c25] at H
                          have c25b0 : (t139 == 3) = true := beq_iff_eq.mpr c25
                          have c25b1 : (t139 != 3) = false := bne_eq_false_iff_eq.mpr c25
                          clear c25
                          have c26 : t140 = true := by simp only [et140.out]; first | done | decide
                          · subst c26
                            have H1 : ((cluster_Spread.f k t136 0).bind fun t147 => (if t147 = 66 then ((cluster_Spread.f k t136 1).bind fun t148 => (if t148 = 70 then ((cluster_Spread.f k t136 2).bind fun t149 => (if t149 = 97 then ((cluster_Spread.f k t136 3).bind fun t150 => (timesynclaw25_awake.j0 k y133 (t150 != 0))) else (timesynclaw25_awake.j0 k y133 true))) else (timesynclaw25_awake.j0 k y133 true))) else (timesynclaw25_awake.j0 k y133 true))) = some r := by rw [if_pos rfl] at H; exact H
                            clear H
                            have H := H1
                            clear H1
                            replace H := Option.bind_eq_some_iff.mp H
                            obtain ⟨t147, A270, H⟩ := H
                            have fa_ := agree (fun k_ => cluster_Spread.mono _ _ k_) (by rw [et136.out] at A270; exact A270) aw_0
                            have et147 : Aside0 (t147 = 66) := ⟨fa_⟩
                            clear fa_
                            replace H : (if t147 = 66 then ((cluster_Spread.f k t136 1).bind fun t148 => (if t148 = 70 then ((cluster_Spread.f k t136 2).bind fun t149 => (if t149 = 97 then ((cluster_Spread.f k t136 3).bind fun t150 => (timesynclaw25_awake.j0 k y133 (t150 != 0))) else (timesynclaw25_awake.j0 k y133 true))) else (timesynclaw25_awake.j0 k y133 true))) else (timesynclaw25_awake.j0 k y133 true)) = some r := H
                            have A27 := Aside0.mk A270
                            clear A270
                            have c28 : t147 = 66 := by simp only [et147.out]; first | done | decide
                            · rw [if_pos c28] at H
                              have c28b0 : (t147 == 66) = true := beq_iff_eq.mpr c28
                              have c28b1 : (t147 != 66) = false := bne_eq_false_iff_eq.mpr c28
                              clear c28
                              replace H := Option.bind_eq_some_iff.mp H
                              obtain ⟨t148, A290, H⟩ := H
                              have fa_ := agree (fun k_ => cluster_Spread.mono _ _ k_) (by rw [et136.out] at A290; exact A290) aw_1
                              have et148 : Aside0 (t148 = 70) := ⟨fa_⟩
                              clear fa_
                              replace H : (if t148 = 70 then ((cluster_Spread.f k t136 2).bind fun t149 => (if t149 = 97 then ((cluster_Spread.f k t136 3).bind fun t150 => (timesynclaw25_awake.j0 k y133 (t150 != 0))) else (timesynclaw25_awake.j0 k y133 true))) else (timesynclaw25_awake.j0 k y133 true)) = some r := H
                              have A29 := Aside0.mk A290
                              clear A290
                              have c30 : t148 = 70 := by simp only [et148.out]; first | done | decide
                              · rw [if_pos c30] at H
                                have c30b0 : (t148 == 70) = true := beq_iff_eq.mpr c30
                                have c30b1 : (t148 != 70) = false := bne_eq_false_iff_eq.mpr c30
                                clear c30
                                replace H := Option.bind_eq_some_iff.mp H
                                obtain ⟨t149, A310, H⟩ := H
                                have fa_ := agree (fun k_ => cluster_Spread.mono _ _ k_) (by rw [et136.out] at A310; exact A310) aw_2
                                have et149 : Aside0 (t149 = 97) := ⟨fa_⟩
                                clear fa_
                                replace H : (if t149 = 97 then ((cluster_Spread.f k t136 3).bind fun t150 => (timesynclaw25_awake.j0 k y133 (t150 != 0))) else (timesynclaw25_awake.j0 k y133 true)) = some r := H
                                have A31 := Aside0.mk A310
                                clear A310
                                have c32 : t149 = 97 := by simp only [et149.out]; first | done | decide
                                · rw [if_pos c32] at H
                                  have c32b0 : (t149 == 97) = true := beq_iff_eq.mpr c32
                                  have c32b1 : (t149 != 97) = false := bne_eq_false_iff_eq.mpr c32
                                  clear c32
                                  replace H := Option.bind_eq_some_iff.mp H
                                  obtain ⟨t150, A330, H⟩ := H
                                  have fa_ := agree (fun k_ => cluster_Spread.mono _ _ k_) (by rw [et136.out] at A330; exact A330) aw_3
                                  have et150 : Aside0 (t150 = 0) := ⟨fa_⟩
                                  clear fa_
                                  replace H : (timesynclaw25_awake.j0 k y133 (t150 != 0)) = some r := H
                                  have A33 := Aside0.mk A330
                                  clear A330
                                  have H' := Aside0.mk H
                                  clear H
                                  try go_wp2
                                  have n0_ := Aside0.mk (Kd.R_drew HO135.out)
                                  have n1_ := Aside0.mk (Kd.R_drew HO138.out)
                                  have n2_ := Aside0.mk (below_drew1 HB.out)
                                  clear HO135
                                  clear HO138
                                  clear HB
                                  have HO135 := n0_
                                  have HO138 := n1_
                                  have HB := n2_
                                  clear n0_ n1_ n2_
                                  obtain ⟨Ao35, co35, eo35⟩ := Kd.R_slice HO138.out
                                  (first | subst eo35 | (injection eo35 with f1_ f2_ f3_; have f4_ := f1_.symm; have f5_ := f3_.symm; clear f1_ f2_ f3_; subst f4_; subst f5_))
                                  have p141 : 0 ≤ (0 : Int) := (by omega)
                                  have q141 : 0 < (t136.length : Int) := of_decide_eq_true (by first | (with_reducible assumption) | assumption)
                                  obtain ⟨ad141, e141, hx141_0, hx141_1, hx141_2, hx141_3, hx141_4⟩ := at_T34 (Kd.R_reads' HO138.out).2.2 0 p141 q141
                                  cases e141
                                  have qi141 : (0 < t136.length) = True := eq_true (by omega)
                                  (try rw [show ((0 : Int)).toNat = 0 from rfl] at hx141_0)
                                  (try rw [show 0 * 5 = 0 from rfl] at hx141_0)
                                  (try rw [Addr.add_zero'] at hx141_0)
                                  (try rw [show ((0 : Int)).toNat = 0 from rfl] at hx141_1)
                                  (try rw [show 0 * 5 = 0 from rfl] at hx141_1)
                                  (try rw [Addr.add_zero'] at hx141_1)
                                  (try rw [show ((0 : Int)).toNat = 0 from rfl] at hx141_2)
                                  (try rw [show 0 * 5 = 0 from rfl] at hx141_2)
                                  (try rw [Addr.add_zero'] at hx141_2)
                                  (try rw [show ((0 : Int)).toNat = 0 from rfl] at hx141_3)
                                  (try rw [show 0 * 5 = 0 from rfl] at hx141_3)
                                  (try rw [Addr.add_zero'] at hx141_3)
                                  (try rw [show ((0 : Int)).toNat = 0 from rfl] at hx141_4)
                                  (try rw [show 0 * 5 = 0 from rfl] at hx141_4)
                                  (try rw [Addr.add_zero'] at hx141_4)
                                  replace p141 := eq_true p141
                                  replace q141 := eq_true q141
                                  have p142 : 0 ≤ (1 : Int) := (by omega)
                                  have q142 : 1 < (y133.length : Int) := of_decide_eq_true (by first | (with_reducible assumption) | assumption)
                                  obtain ⟨ad142, e142, hx142_0, hx142_1, hx142_2, hx142_3, hx142_4⟩ := at_T34 (Kd.R_reads' HO135.out).2.2 1 p142 q142
                                  cases e142
                                  (try simp only [show (1 : Int).toNat = 1 from rfl, Nat.reduceMul, Nat.reduceEqDiff, Go.Addr.add, ↓reduceIte] at hx142_0)
                                  (try simp only [show (1 : Int).toNat = 1 from rfl, Nat.reduceMul, Nat.reduceEqDiff, Go.Addr.add, ↓reduceIte] at hx142_1)
                                  (try simp only [show (1 : Int).toNat = 1 from rfl, Nat.reduceMul, Nat.reduceEqDiff, Go.Addr.add, ↓reduceIte] at hx142_2)
                                  (try simp only [show (1 : Int).toNat = 1 from rfl, Nat.reduceMul, Nat.reduceEqDiff, Go.Addr.add, ↓reduceIte] at hx142_3)
                                  (try simp only [show (1 : Int).toNat = 1 from rfl, Nat.reduceMul, Nat.reduceEqDiff, Go.Addr.add, ↓reduceIte] at hx142_4)
                                  have qi142 : (1 < y133.length) = True := eq_true (by omega)
                                  (try rw [show ((1 : Int)).toNat = 1 from rfl] at hx142_0)
                                  (try rw [show 1 * 5 = 5 from rfl] at hx142_0)
                                  (try rw [show ((1 : Int)).toNat = 1 from rfl] at hx142_1)
                                  (try rw [show 1 * 5 = 5 from rfl] at hx142_1)
                                  (try rw [show ((1 : Int)).toNat = 1 from rfl] at hx142_2)
                                  (try rw [show 1 * 5 = 5 from rfl] at hx142_2)
                                  (try rw [show ((1 : Int)).toNat = 1 from rfl] at hx142_3)
                                  (try rw [show 1 * 5 = 5 from rfl] at hx142_3)
                                  (try rw [show ((1 : Int)).toNat = 1 from rfl] at hx142_4)
                                  (try rw [show 1 * 5 = 5 from rfl] at hx142_4)
                                  replace p142 := eq_true p142
                                  replace q142 := eq_true q142
                                  have p143 : 0 ≤ (1 : Int) := (by omega)
                                  have q143 : 1 < (t136.length : Int) := of_decide_eq_true (by first | (with_reducible assumption) | assumption)
                                  obtain ⟨ad143, e143, hx143_0, hx143_1, hx143_2, hx143_3, hx143_4⟩ := at_T34 (Kd.R_reads' HO138.out).2.2 1 p143 q143
                                  obtain rfl : ad141 = ad143 := (by injection e143)
                                  (try simp only [show (1 : Int).toNat = 1 from rfl, Nat.reduceMul, Nat.reduceEqDiff, Go.Addr.add, ↓reduceIte] at hx143_0)
                                  (try simp only [show (1 : Int).toNat = 1 from rfl, Nat.reduceMul, Nat.reduceEqDiff, Go.Addr.add, ↓reduceIte] at hx143_1)
                                  (try simp only [show (1 : Int).toNat = 1 from rfl, Nat.reduceMul, Nat.reduceEqDiff, Go.Addr.add, ↓reduceIte] at hx143_2)
                                  (try simp only [show (1 : Int).toNat = 1 from rfl, Nat.reduceMul, Nat.reduceEqDiff, Go.Addr.add, ↓reduceIte] at hx143_3)
                                  (try simp only [show (1 : Int).toNat = 1 from rfl, Nat.reduceMul, Nat.reduceEqDiff, Go.Addr.add, ↓reduceIte] at hx143_4)
                                  have qi143 : (1 < t136.length) = True := eq_true (by omega)
                                  (try rw [show ((1 : Int)).toNat = 1 from rfl] at hx143_0)
                                  (try rw [show 1 * 5 = 5 from rfl] at hx143_0)
                                  (try rw [show ((1 : Int)).toNat = 1 from rfl] at hx143_1)
                                  (try rw [show 1 * 5 = 5 from rfl] at hx143_1)
                                  (try rw [show ((1 : Int)).toNat = 1 from rfl] at hx143_2)
                                  (try rw [show 1 * 5 = 5 from rfl] at hx143_2)
                                  (try rw [show ((1 : Int)).toNat = 1 from rfl] at hx143_3)
                                  (try rw [show 1 * 5 = 5 from rfl] at hx143_3)
                                  (try rw [show ((1 : Int)).toNat = 1 from rfl] at hx143_4)
                                  (try rw [show 1 * 5 = 5 from rfl] at hx143_4)
                                  replace p143 := eq_true p143
                                  replace q143 := eq_true q143
                                  have p144 : 0 ≤ (0 : Int) := (by omega)
                                  have q144 : 0 < (y133.length : Int) := of_decide_eq_true (by first | (with_reducible assumption) | assumption)
                                  obtain ⟨ad144, e144, hx144_0, hx144_1, hx144_2, hx144_3, hx144_4⟩ := at_T34 (Kd.R_reads' HO135.out).2.2 0 p144 q144
                                  obtain rfl : ad142 = ad144 := (by injection e144)
                                  have qi144 : (0 < y133.length) = True := eq_true (by omega)
                                  (try rw [show ((0 : Int)).toNat = 0 from rfl] at hx144_0)
                                  (try rw [show 0 * 5 = 0 from rfl] at hx144_0)
                                  (try rw [Addr.add_zero'] at hx144_0)
                                  (try rw [show ((0 : Int)).toNat = 0 from rfl] at hx144_1)
                                  (try rw [show 0 * 5 = 0 from rfl] at hx144_1)
                                  (try rw [Addr.add_zero'] at hx144_1)
                                  (try rw [show ((0 : Int)).toNat = 0 from rfl] at hx144_2)
                                  (try rw [show 0 * 5 = 0 from rfl] at hx144_2)
                                  (try rw [Addr.add_zero'] at hx144_2)
                                  (try rw [show ((0 : Int)).toNat = 0 from rfl] at hx144_3)
                                  (try rw [show 0 * 5 = 0 from rfl] at hx144_3)
                                  (try rw [Addr.add_zero'] at hx144_3)
                                  (try rw [show ((0 : Int)).toNat = 0 from rfl] at hx144_4)
                                  (try rw [show 0 * 5 = 0 from rfl] at hx144_4)
                                  (try rw [Addr.add_zero'] at hx144_4)
                                  replace p144 := eq_true p144
                                  replace q144 := eq_true q144
                                  have p145 : 0 ≤ (2 : Int) := (by omega)
                                  have q145 : 2 < (t136.length : Int) := of_decide_eq_true (by first | (with_reducible assumption) | assumption)
                                  obtain ⟨ad145, e145, hx145_0, hx145_1, hx145_2, hx145_3, hx145_4⟩ := at_T34 (Kd.R_reads' HO138.out).2.2 2 p145 q145
                                  obtain rfl : ad141 = ad145 := (by injection e145)
                                  (try simp only [show (2 : Int).toNat = 2 from rfl, Nat.reduceMul, Nat.reduceEqDiff, Go.Addr.add, ↓reduceIte] at hx145_0)
                                  (try simp only [show (2 : Int).toNat = 2 from rfl, Nat.reduceMul, Nat.reduceEqDiff, Go.Addr.add, ↓reduceIte] at hx145_1)
                                  (try simp only [show (2 : Int).toNat = 2 from rfl, Nat.reduceMul, Nat.reduceEqDiff, Go.Addr.add, ↓reduceIte] at hx145_2)
                                  (try simp only [show (2 : Int).toNat = 2 from rfl, Nat.reduceMul, Nat.reduceEqDiff, Go.Addr.add, ↓reduceIte] at hx145_3)
                                  (try simp only [show (2 : Int).toNat = 2 from rfl, Nat.reduceMul, Nat.reduceEqDiff, Go.Addr.add, ↓reduceIte] at hx145_4)
                                  have qi145 : (2 < t136.length) = True := eq_true (by omega)
                                  (try rw [show ((2 : Int)).toNat = 2 from rfl] at hx145_0)
                                  (try rw [show 2 * 5 = 10 from rfl] at hx145_0)
                                  (try rw [show ((2 : Int)).toNat = 2 from rfl] at hx145_1)
                                  (try rw [show 2 * 5 = 10 from rfl] at hx145_1)
                                  (try rw [show ((2 : Int)).toNat = 2 from rfl] at hx145_2)
                                  (try rw [show 2 * 5 = 10 from rfl] at hx145_2)
                                  (try rw [show ((2 : Int)).toNat = 2 from rfl] at hx145_3)
                                  (try rw [show 2 * 5 = 10 from rfl] at hx145_3)
                                  (try rw [show ((2 : Int)).toNat = 2 from rfl] at hx145_4)
                                  (try rw [show 2 * 5 = 10 from rfl] at hx145_4)
                                  replace p145 := eq_true p145
                                  replace q145 := eq_true q145
                                  have p146 : 0 ≤ (2 : Int) := (by omega)
                                  have q146 : 2 < (y133.length : Int) := of_decide_eq_true (by first | (with_reducible assumption) | assumption)
                                  obtain ⟨ad146, e146, hx146_0, hx146_1, hx146_2, hx146_3, hx146_4⟩ := at_T34 (Kd.R_reads' HO135.out).2.2 2 p146 q146
                                  obtain rfl : ad142 = ad146 := (by injection e146)
                                  (try simp only [show (2 : Int).toNat = 2 from rfl, Nat.reduceMul, Nat.reduceEqDiff, Go.Addr.add, ↓reduceIte] at hx146_0)
                                  (try simp only [show (2 : Int).toNat = 2 from rfl, Nat.reduceMul, Nat.reduceEqDiff, Go.Addr.add, ↓reduceIte] at hx146_1)
                                  (try simp only [show (2 : Int).toNat = 2 from rfl, Nat.reduceMul, Nat.reduceEqDiff, Go.Addr.add, ↓reduceIte] at hx146_2)
                                  (try simp only [show (2 : Int).toNat = 2 from rfl, Nat.reduceMul, Nat.reduceEqDiff, Go.Addr.add, ↓reduceIte] at hx146_3)
                                  (try simp only [show (2 : Int).toNat = 2 from rfl, Nat.reduceMul, Nat.reduceEqDiff, Go.Addr.add, ↓reduceIte] at hx146_4)
                                  have qi146 : (2 < y133.length) = True := eq_true (by omega)
                                  (try rw [show ((2 : Int)).toNat = 2 from rfl] at hx146_0)
                                  (try rw [show 2 * 5 = 10 from rfl] at hx146_0)
                                  (try rw [show ((2 : Int)).toNat = 2 from rfl] at hx146_1)
                                  (try rw [show 2 * 5 = 10 from rfl] at hx146_1)
                                  (try rw [show ((2 : Int)).toNat = 2 from rfl] at hx146_2)
                                  (try rw [show 2 * 5 = 10 from rfl] at hx146_2)
                                  (try rw [show ((2 : Int)).toNat = 2 from rfl] at hx146_3)
                                  (try rw [show 2 * 5 = 10 from rfl] at hx146_3)
                                  (try rw [show ((2 : Int)).toNat = 2 from rfl] at hx146_4)
                                  (try rw [show 2 * 5 = 10 from rfl] at hx146_4)
                                  replace p146 := eq_true p146
                                  replace q146 := eq_true q146
                                  refine start_ (n := 58) (S := fun w' => w'.cell? ad141 = some (.int .i64 ((rd_T34 t136 0).f0)) ∧ w'.cell? ⟨ad141.block, ad141.off + 1, none⟩ = some (.int .i64 ((rd_T34 t136 0).f1)) ∧ w'.cell? ⟨ad141.block, ad141.off + 2, none⟩ = some (.int .i64 ((rd_T34 t136 0).f2)) ∧ w'.cell? ⟨ad141.block, ad141.off + 3, none⟩ = some (.int .i64 ((rd_T34 t136 0).f3)) ∧ w'.cell? ⟨ad141.block, ad141.off + 4, none⟩ = some (.int .i64 ((rd_T34 t136 0).f4)) ∧ w'.cell? ⟨ad142.block, ad142.off + 5, none⟩ = some (.int .i64 ((rd_T34 y133 1).f0)) ∧ w'.cell? ⟨ad142.block, ad142.off + 5 + 1, none⟩ = some (.int .i64 ((rd_T34 y133 1).f1)) ∧ w'.cell? ⟨ad142.block, ad142.off + 5 + 2, none⟩ = some (.int .i64 ((rd_T34 y133 1).f2)) ∧ w'.cell? ⟨ad142.block, ad142.off + 5 + 3, none⟩ = some (.int .i64 ((rd_T34 y133 1).f3)) ∧ w'.cell? ⟨ad142.block, ad142.off + 5 + 4, none⟩ = some (.int .i64 ((rd_T34 y133 1).f4)) ∧ w'.cell? ⟨ad141.block, ad141.off + 5, none⟩ = some (.int .i64 ((rd_T34 t136 1).f0)) ∧ w'.cell? ⟨ad141.block, ad141.off + 5 + 1, none⟩ = some (.int .i64 ((rd_T34 t136 1).f1)) ∧ w'.cell? ⟨ad141.block, ad141.off + 5 + 2, none⟩ = some (.int .i64 ((rd_T34 t136 1).f2)) ∧ w'.cell? ⟨ad141.block, ad141.off + 5 + 3, none⟩ = some (.int .i64 ((rd_T34 t136 1).f3)) ∧ w'.cell? ⟨ad141.block, ad141.off + 5 + 4, none⟩ = some (.int .i64 ((rd_T34 t136 1).f4)) ∧ w'.cell? ad142 = some (.int .i64 ((rd_T34 y133 0).f0)) ∧ w'.cell? ⟨ad142.block, ad142.off + 1, none⟩ = some (.int .i64 ((rd_T34 y133 0).f1)) ∧ w'.cell? ⟨ad142.block, ad142.off + 2, none⟩ = some (.int .i64 ((rd_T34 y133 0).f2)) ∧ w'.cell? ⟨ad142.block, ad142.off + 3, none⟩ = some (.int .i64 ((rd_T34 y133 0).f3)) ∧ w'.cell? ⟨ad142.block, ad142.off + 4, none⟩ = some (.int .i64 ((rd_T34 y133 0).f4)) ∧ w'.cell? ⟨ad141.block, ad141.off + 10, none⟩ = some (.int .i64 ((rd_T34 t136 2).f0)) ∧ w'.cell? ⟨ad141.block, ad141.off + 10 + 1, none⟩ = some (.int .i64 ((rd_T34 t136 2).f1)) ∧ w'.cell? ⟨ad141.block, ad141.off + 10 + 2, none⟩ = some (.int .i64 ((rd_T34 t136 2).f2)) ∧ w'.cell? ⟨ad141.block, ad141.off + 10 + 3, none⟩ = some (.int .i64 ((rd_T34 t136 2).f3)) ∧ w'.cell? ⟨ad141.block, ad141.off + 10 + 4, none⟩ = some (.int .i64 ((rd_T34 t136 2).f4)) ∧ w'.cell? ⟨ad142.block, ad142.off + 10, none⟩ = some (.int .i64 ((rd_T34 y133 2).f0)) ∧ w'.cell? ⟨ad142.block, ad142.off + 10 + 1, none⟩ = some (.int .i64 ((rd_T34 y133 2).f1)) ∧ w'.cell? ⟨ad142.block, ad142.off + 10 + 2, none⟩ = some (.int .i64 ((rd_T34 y133 2).f2)) ∧ w'.cell? ⟨ad142.block, ad142.off + 10 + 3, none⟩ = some (.int .i64 ((rd_T34 y133 2).f3)) ∧ w'.cell? ⟨ad142.block, ad142.off + 10 + 4, none⟩ = some (.int .i64 ((rd_T34 y133 2).f4))) (ds := []) b9_0 (by kernel_rfl) rfl rfl ⟨hx141_0, hx141_1, hx141_2, hx141_3, hx141_4, hx142_0, hx142_1, hx142_2, hx142_3, hx142_4, hx143_0, hx143_1, hx143_2, hx143_3, hx143_4, hx144_0, hx144_1, hx144_2, hx144_3, hx144_4, hx145_0, hx145_1, hx145_2, hx145_3, hx145_4, hx146_0, hx146_1, hx146_2, hx146_3, hx146_4⟩ (fun hHeld => ?_); refine with_tabW timesynclaw25_awake.tab4 timesynclaw25_awake.bits4 (fun HT_ HW_ => ?_)
                                  generalize w8.drew = w34 at HO135 HO138 HB hx141_0 hx141_1 hx141_2 hx141_3 hx141_4 hx142_0 hx142_1 hx142_2 hx142_3 hx142_4 hx143_0 hx143_1 hx143_2 hx143_3 hx143_4 hx144_0 hx144_1 hx144_2 hx144_3 hx144_4 hx145_0 hx145_1 hx145_2 hx145_3 hx145_4 hx146_0 hx146_1 hx146_2 hx146_3 hx146_4 hHeld ⊢
                                  refine pure_ (i := 0) (N := some 22) (v := ?_) (a' := ?_) b9_1 rfl rfl (any_of HT_.out (by kernel_rfl)) (fun _ _ _ h => h) (Or.inl ⟨by rfl, ?_⟩) ?_ ?_
                                  rotate_left
                                  · intro w'
                                    go_simp
                                    with_reducible rfl
                                  rotate_left
                                  · simp only [Act.put, z1, z2, z3, i64_w, i32_w]
                                    rfl
                                  refine pure_ (i := 1) (N := some 23) (v := ?_) (a' := ?_) b9_2 rfl rfl (any_of HT_.out (by kernel_rfl)) (fun _ _ _ h => h) (Or.inl ⟨by rfl, ?_⟩) ?_ ?_
                                  rotate_left
                                  · intro w'
                                    go_simp
                                    with_reducible rfl
                                  rotate_left
                                  · simp only [Act.put, z1, z2, z3, i64_w, i32_w]
                                    rfl
                                  refine pure_ (i := 2) (N := some 24) (v := ?_) (a' := ?_) b9_3 rfl rfl (any_of HT_.out (by kernel_rfl)) (fun _ _ _ h => h) (Or.inl ⟨by rfl, ?_⟩) ?_ ?_
                                  rotate_left
                                  · intro w'
                                    go_simp
                                    with_reducible rfl
                                  rotate_left
                                  · simp only [Act.put, z1, z2, z3, i64_w, i32_w]
                                    rfl
                                  refine pure_ (i := 3) (N := some 25) (v := ?_) (a' := ?_) b9_4 rfl rfl (any_of HT_.out (by kernel_rfl)) (fun _ _ _ h => h) (Or.inl ⟨by rfl, ?_⟩) ?_ ?_
                                  rotate_left
                                  · intro w'
                                    go_simp
                                    with_reducible rfl
                                  rotate_left
                                  · simp only [Act.put, z1, z2, z3, i64_w, i32_w]
                                    rfl
                                  refine pure_ (i := 4) (N := some 26) (v := ?_) (a' := ?_) b9_5 rfl rfl (any_of HT_.out (by kernel_rfl)) (fun _ _ _ h => h) (Or.inl ⟨by rfl, ?_⟩) ?_ ?_
                                  rotate_left
                                  · intro w'
                                    go_simp
                                    with_reducible rfl
                                  rotate_left
                                  · simp only [Act.put, z1, z2, z3, i64_w, i32_w]
                                    rfl
                                  refine pure_ (i := 5) (N := some 27) (v := ?_) (a' := ?_) b9_6 rfl rfl (any_of HT_.out (by kernel_rfl)) (fun _ _ _ h => h) (Or.inl ⟨by rfl, ?_⟩) ?_ ?_
                                  rotate_left
                                  · intro w'
                                    go_simp
                                    with_reducible rfl
                                  rotate_left
                                  · simp only [Act.put, z1, z2, z3, i64_w, i32_w]
                                    rfl
                                  refine pure_ (i := 7) (N := some 29) (v := ?_) (a' := ?_) b9_7 rfl rfl (any_of HT_.out (by kernel_rfl)) (fun _ _ _ h => h) (Or.inl ⟨by rfl, ?_⟩) ?_ ?_
                                  rotate_left
                                  · intro w'
                                    go_simp
                                    with_reducible rfl
                                  rotate_left
                                  · simp only [Act.put, z1, z2, z3, i64_w, i32_w]
                                    rfl
                                  refine pure_ (i := 8) (N := some 30) (v := ?_) (a' := ?_) b9_8 rfl rfl (any_of HT_.out (by kernel_rfl)) (fun _ _ _ h => h) (Or.inl ⟨by rfl, ?_⟩) ?_ ?_
                                  rotate_left
                                  · intro w'
                                    go_simp
                                    with_reducible rfl
                                  rotate_left
                                  · simp only [Act.put, z1, z2, z3, i64_w, i32_w]
                                    rfl
                                  refine take_ (i := 6) (N := some 28) (v := ?_) (a' := ?_) b9_9 rfl rfl (take_ofW HT_.out HW_.out (by kernel_rfl)) (fun _ _ _ h => h) (Or.inl ⟨by rfl, ?_⟩) hHeld ?_ ?_
                                  rotate_left
                                  · rintro w' ⟨s0, s1, s2, s3, s4, s5, s6, s7, s8, s9, s10, s11, s12, s13, s14, s15, s16, s17, s18, s19, s20, s21, s22, s23, s24, s25, s26, s27, s28, s29⟩
                                    go_simp
                                    with_reducible rfl
                                  rotate_left
                                  · simp only [Act.put, z1, z2, z3, i64_w, i32_w]
                                    rfl
                                  refine take_ (i := 9) (N := some 31) (v := ?_) (a' := ?_) b9_10 rfl rfl (take_ofW HT_.out HW_.out (by kernel_rfl)) (fun _ _ _ h => h) (Or.inl ⟨by rfl, ?_⟩) hHeld ?_ ?_
                                  rotate_left
                                  · rintro w' ⟨s0, s1, s2, s3, s4, s5, s6, s7, s8, s9, s10, s11, s12, s13, s14, s15, s16, s17, s18, s19, s20, s21, s22, s23, s24, s25, s26, s27, s28, s29⟩
                                    go_simp
                                    with_reducible rfl
                                  rotate_left
                                  · simp only [Act.put, z1, z2, z3, i64_w, i32_w]
                                    rfl
                                  refine pure_ (i := 10) (N := some 32) (v := ?_) (a' := ?_) b9_11 rfl rfl (any_of HT_.out (by kernel_rfl)) (fun _ _ _ h => h) (Or.inl ⟨by rfl, ?_⟩) ?_ ?_
                                  rotate_left
                                  · intro w'
                                    go_simp
                                    with_reducible rfl
                                  rotate_left
                                  · simp only [Act.put, z1, z2, z3, i64_w, i32_w]
                                    rfl
                                  refine pure_ (i := 11) (N := some 33) (v := ?_) (a' := ?_) b9_12 rfl rfl (any_of HT_.out (by kernel_rfl)) (fun _ _ _ h => h) (Or.inl ⟨by rfl, ?_⟩) ?_ ?_
                                  rotate_left
                                  · intro w'
                                    go_simp
                                    with_reducible rfl
                                  rotate_left
                                  · simp only [Act.put, z1, z2, z3, i64_w, i32_w]
                                    rfl
                                  refine pure_ (i := 12) (N := some 34) (v := ?_) (a' := ?_) b9_13 rfl rfl (any_of HT_.out (by kernel_rfl)) (fun _ _ _ h => h) (Or.inl ⟨by rfl, ?_⟩) ?_ ?_
                                  rotate_left
                                  · intro w'
                                    go_simp
                                    with_reducible rfl
                                  rotate_left
                                  · simp only [Act.put, z1, z2, z3, i64_w, i32_w]
                                    rfl
                                  refine pure_ (i := 13) (N := some 35) (v := ?_) (a' := ?_) b9_14 rfl rfl (any_of HT_.out (by kernel_rfl)) (fun _ _ _ h => h) (Or.inl ⟨by rfl, ?_⟩) ?_ ?_
                                  rotate_left
                                  · intro w'
                                    go_simp
                                    with_reducible rfl
                                  rotate_left
                                  · simp only [Act.put, z1, z2, z3, i64_w, i32_w]
                                    rfl
                                  refine pure_ (i := 14) (N := some 36) (v := ?_) (a' := ?_) b9_15 rfl rfl (any_of HT_.out (by kernel_rfl)) (fun _ _ _ h => h) (Or.inl ⟨by rfl, ?_⟩) ?_ ?_
                                  rotate_left
                                  · intro w'
                                    go_simp
                                    with_reducible rfl
                                  rotate_left
                                  · simp only [Act.put, z1, z2, z3, i64_w, i32_w]
                                    rfl
                                  refine pure_ (i := 16) (N := some 38) (v := ?_) (a' := ?_) b9_59 rfl rfl (any_of HT_.out (by kernel_rfl)) (fun _ _ _ h => h) (Or.inl ⟨by rfl, ?_⟩) ?_ ?_
                                  rotate_left
                                  · intro w'
                                    go_simp
                                    with_reducible rfl
                                  rotate_left
                                  · simp only [Act.put, z1, z2, z3, i64_w, i32_w]
                                    rfl
                                  refine pure_ (i := 17) (N := some 39) (v := ?_) (a' := ?_) b9_60 rfl rfl (any_of HT_.out (by kernel_rfl)) (fun _ _ _ h => h) (Or.inl ⟨by rfl, ?_⟩) ?_ ?_
                                  rotate_left
                                  · intro w'
                                    go_simp
                                    with_reducible rfl
                                  rotate_left
                                  · simp only [Act.put, z1, z2, z3, i64_w, i32_w]
                                    rfl
                                  refine take_ (i := 15) (N := some 37) (v := ?_) (a' := ?_) b9_18 rfl rfl (take_ofW HT_.out HW_.out (by kernel_rfl)) (fun _ _ _ h => h) (Or.inl ⟨by rfl, ?_⟩) hHeld ?_ ?_
                                  rotate_left
                                  · rintro w' ⟨s0, s1, s2, s3, s4, s5, s6, s7, s8, s9, s10, s11, s12, s13, s14, s15, s16, s17, s18, s19, s20, s21, s22, s23, s24, s25, s26, s27, s28, s29⟩
                                    go_simp
                                    with_reducible rfl
                                  rotate_left
                                  · simp only [Act.put, z1, z2, z3, i64_w, i32_w]
                                    rfl
                                  refine take_ (i := 18) (N := some 40) (v := ?_) (a' := ?_) b9_19 rfl rfl (take_ofW HT_.out HW_.out (by kernel_rfl)) (fun _ _ _ h => h) (Or.inl ⟨by rfl, ?_⟩) hHeld ?_ ?_
                                  rotate_left
                                  · rintro w' ⟨s0, s1, s2, s3, s4, s5, s6, s7, s8, s9, s10, s11, s12, s13, s14, s15, s16, s17, s18, s19, s20, s21, s22, s23, s24, s25, s26, s27, s28, s29⟩
                                    go_simp
                                    with_reducible rfl
                                  rotate_left
                                  · simp only [Act.put, z1, z2, z3, i64_w, i32_w]
                                    rfl
                                  refine pure_ (i := 19) (N := some 41) (v := ?_) (a' := ?_) b9_20 rfl rfl (any_of HT_.out (by kernel_rfl)) (fun _ _ _ h => h) (Or.inl ⟨by rfl, ?_⟩) ?_ ?_
                                  rotate_left
                                  · intro w'
                                    go_simp
                                    with_reducible rfl
                                  rotate_left
                                  · simp only [Act.put, z1, z2, z3, i64_w, i32_w]
                                    rfl
                                  refine pure_ (i := 20) (N := some 42) (v := ?_) (a' := ?_) b9_21 rfl rfl (any_of HT_.out (by kernel_rfl)) (fun _ _ _ h => h) (Or.inl ⟨by rfl, ?_⟩) ?_ ?_
                                  rotate_left
                                  · intro w'
                                    go_simp
                                    with_reducible rfl
                                  rotate_left
                                  · simp only [Act.put, z1, z2, z3, i64_w, i32_w]
                                    rfl
                                  refine pure_ (i := 21) (N := some 43) (v := ?_) (a' := ?_) b9_22 rfl rfl (any_of HT_.out (by kernel_rfl)) (fun _ _ _ h => h) (Or.inl ⟨by rfl, ?_⟩) ?_ ?_
                                  rotate_left
                                  · intro w'
                                    go_simp
                                    with_reducible rfl
                                  rotate_left
                                  · simp only [Act.put, z1, z2, z3, i64_w, i32_w]
                                    rfl
                                  refine pure_ (i := 22) (N := some 44) (v := ?_) (a' := ?_) b9_23 rfl rfl (any_of HT_.out (by kernel_rfl)) (fun _ _ _ h => h) (Or.inl ⟨by rfl, ?_⟩) ?_ ?_
                                  rotate_left
                                  · intro w'
                                    go_simp
                                    with_reducible rfl
                                  rotate_left
                                  · simp only [Act.put, z1, z2, z3, i64_w, i32_w]
                                    rfl
                                  refine pure_ (i := 23) (N := some 45) (v := ?_) (a' := ?_) b9_24 rfl rfl (any_of HT_.out (by kernel_rfl)) (fun _ _ _ h => h) (Or.inl ⟨by rfl, ?_⟩) ?_ ?_
                                  rotate_left
                                  · intro w'
                                    go_simp
                                    with_reducible rfl
                                  rotate_left
                                  · simp only [Act.put, z1, z2, z3, i64_w, i32_w]
                                    rfl
                                  refine pure_ (i := 25) (N := some 47) (v := ?_) (a' := ?_) b9_61 rfl rfl (any_of HT_.out (by kernel_rfl)) (fun _ _ _ h => h) (Or.inl ⟨by rfl, ?_⟩) ?_ ?_
                                  rotate_left
                                  · intro w'
                                    go_simp
                                    with_reducible rfl
                                  rotate_left
                                  · simp only [Act.put, z1, z2, z3, i64_w, i32_w]
                                    rfl
                                  refine pure_ (i := 26) (N := some 48) (v := ?_) (a' := ?_) b9_62 rfl rfl (any_of HT_.out (by kernel_rfl)) (fun _ _ _ h => h) (Or.inl ⟨by rfl, ?_⟩) ?_ ?_
                                  rotate_left
                                  · intro w'
                                    go_simp
                                    with_reducible rfl
                                  rotate_left
                                  · simp only [Act.put, z1, z2, z3, i64_w, i32_w]
                                    rfl
                                  refine take_ (i := 24) (N := some 46) (v := ?_) (a' := ?_) b9_27 rfl rfl (take_ofW HT_.out HW_.out (by kernel_rfl)) (fun _ _ _ h => h) (Or.inl ⟨by rfl, ?_⟩) hHeld ?_ ?_
                                  rotate_left
                                  · rintro w' ⟨s0, s1, s2, s3, s4, s5, s6, s7, s8, s9, s10, s11, s12, s13, s14, s15, s16, s17, s18, s19, s20, s21, s22, s23, s24, s25, s26, s27, s28, s29⟩
                                    go_simp
                                    with_reducible rfl
                                  rotate_left
                                  · simp only [Act.put, z1, z2, z3, i64_w, i32_w]
                                    rfl
                                  refine take_ (i := 27) (N := some 49) (v := ?_) (a' := ?_) b9_28 rfl rfl (take_ofW HT_.out HW_.out (by kernel_rfl)) (fun _ _ _ h => h) (Or.inl ⟨by rfl, ?_⟩) hHeld ?_ ?_
                                  rotate_left
                                  · rintro w' ⟨s0, s1, s2, s3, s4, s5, s6, s7, s8, s9, s10, s11, s12, s13, s14, s15, s16, s17, s18, s19, s20, s21, s22, s23, s24, s25, s26, s27, s28, s29⟩
                                    go_simp
                                    with_reducible rfl
                                  rotate_left
                                  · simp only [Act.put, z1, z2, z3, i64_w, i32_w]
                                    rfl
                                  refine pure_ (i := 28) (N := some 50) (v := ?_) (a' := ?_) b9_29 rfl rfl (any_of HT_.out (by kernel_rfl)) (fun _ _ _ h => h) (Or.inl ⟨by rfl, ?_⟩) ?_ ?_
                                  rotate_left
                                  · intro w'
                                    go_simp
                                    with_reducible rfl
                                  rotate_left
                                  · simp only [Act.put, z1, z2, z3, i64_w, i32_w]
                                    rfl
                                  refine pure_ (i := 29) (N := some 51) (v := ?_) (a' := ?_) b9_30 rfl rfl (any_of HT_.out (by kernel_rfl)) (fun _ _ _ h => h) (Or.inl ⟨by rfl, ?_⟩) ?_ ?_
                                  rotate_left
                                  · intro w'
                                    go_simp
                                    with_reducible rfl
                                  rotate_left
                                  · simp only [Act.put, z1, z2, z3, i64_w, i32_w]
                                    rfl
                                  refine pure_ (i := 30) (N := some 52) (v := ?_) (a' := ?_) b9_31 rfl rfl (any_of HT_.out (by kernel_rfl)) (fun _ _ _ h => h) (Or.inl ⟨by rfl, ?_⟩) ?_ ?_
                                  rotate_left
                                  · intro w'
                                    go_simp
                                    with_reducible rfl
                                  rotate_left
                                  · simp only [Act.put, z1, z2, z3, i64_w, i32_w]
                                    rfl
                                  refine pure_ (i := 31) (N := some 53) (v := ?_) (a' := ?_) b9_32 rfl rfl (any_of HT_.out (by kernel_rfl)) (fun _ _ _ h => h) (Or.inl ⟨by rfl, ?_⟩) ?_ ?_
                                  rotate_left
                                  · intro w'
                                    go_simp
                                    with_reducible rfl
                                  rotate_left
                                  · simp only [Act.put, z1, z2, z3, i64_w, i32_w]
                                    rfl
                                  refine pure_ (i := 32) (N := some 54) (v := ?_) (a' := ?_) b9_33 rfl rfl (any_of HT_.out (by kernel_rfl)) (fun _ _ _ h => h) (Or.inl ⟨by rfl, ?_⟩) ?_ ?_
                                  rotate_left
                                  · intro w'
                                    go_simp
                                    with_reducible rfl
                                  rotate_left
                                  · simp only [Act.put, z1, z2, z3, i64_w, i32_w]
                                    rfl
                                  refine pure_ (i := 33) (N := some 55) (v := ?_) (a' := ?_) b9_34 rfl rfl (any_of HT_.out (by kernel_rfl)) (fun _ _ _ h => h) (Or.inl ⟨by rfl, ?_⟩) ?_ ?_
                                  rotate_left
                                  · intro w'
                                    go_simp
                                    with_reducible rfl
                                  rotate_left
                                  · simp only [Act.put, z1, z2, z3, i64_w, i32_w]
                                    rfl
                                  refine pure_ (i := 34) (N := some 56) (v := ?_) (a' := ?_) b9_35 rfl rfl (any_of HT_.out (by kernel_rfl)) (fun _ _ _ h => h) (Or.inl ⟨by rfl, ?_⟩) ?_ ?_
                                  rotate_left
                                  · intro w'
                                    go_simp
                                    with_reducible rfl
                                  rotate_left
                                  · simp only [Act.put, z1, z2, z3, i64_w, i32_w]
                                    rfl
                                  refine pure_ (i := 35) (N := some 57) (v := ?_) (a' := ?_) b9_36 rfl rfl (any_of HT_.out (by kernel_rfl)) (fun _ _ _ h => h) (Or.inl ⟨by rfl, ?_⟩) ?_ ?_
                                  rotate_left
                                  · intro w'
                                    go_simp
                                    with_reducible rfl
                                  rotate_left
                                  · simp only [Act.put, z1, z2, z3, i64_w, i32_w]
                                    rfl
                                  refine pure_ (i := 36) (N := some 58) (v := ?_) (a' := ?_) b9_37 rfl rfl (any_of HT_.out (by kernel_rfl)) (fun _ _ _ h => h) (Or.inl ⟨by rfl, ?_⟩) ?_ ?_
                                  rotate_left
                                  · intro w'
                                    go_simp
                                    with_reducible rfl
                                  rotate_left
                                  · simp only [Act.put, z1, z2, z3, i64_w, i32_w]
                                    rfl
                                  refine pure_ (i := 37) (N := some 59) (v := ?_) (a' := ?_) b9_38 rfl rfl (any_of HT_.out (by kernel_rfl)) (fun _ _ _ h => h) (Or.inl ⟨by rfl, ?_⟩) ?_ ?_
                                  rotate_left
                                  · intro w'
                                    go_simp
                                    with_reducible rfl
                                  rotate_left
                                  · simp only [Act.put, z1, z2, z3, i64_w, i32_w]
                                    rfl
                                  refine pure_ (i := 38) (N := some 60) (v := ?_) (a' := ?_) b9_39 rfl rfl (any_of HT_.out (by kernel_rfl)) (fun _ _ _ h => h) (Or.inl ⟨by rfl, ?_⟩) ?_ ?_
                                  rotate_left
                                  · intro w'
                                    go_simp
                                    with_reducible rfl
                                  rotate_left
                                  · simp only [Act.put, z1, z2, z3, i64_w, i32_w]
                                    rfl
                                  refine pure_ (i := 39) (N := some 61) (v := ?_) (a' := ?_) b9_40 rfl rfl (any_of HT_.out (by kernel_rfl)) (fun _ _ _ h => h) (Or.inl ⟨by rfl, ?_⟩) ?_ ?_
                                  rotate_left
                                  · intro w'
                                    go_simp
                                    with_reducible rfl
                                  rotate_left
                                  · simp only [Act.put, z1, z2, z3, i64_w, i32_w]
                                    rfl
                                  refine one_ (i := 40) (N := some 62) b9_41 rfl rfl (one_of HT_.out (by kernel_rfl)) (by decide) (fun K hK => ?_)
                                  refine goes_ Try.func15 (by kernel_rfl) rfl #[.slice (some ad141) t136.length co35, .int .i64 0] (by rfl) rfl rfl sl_ ?_
                                  with_reducible refine (cluster_Spread.calls k _ _ t136 0 t147 _ ?side1 ?side2 A27.out).mono ?_
                                  (case side1 => repeat (first | exact (Kd.R_reads' HO138.out).2.2 | (with_reducible refine Kd.C_alloc ?_ _) | (with_reducible refine Kd.C_drewN ?_ _) | (with_reducible refine Kd.C_drew ?_)))
                                  (case side2 => exact (Kd.R_reads' HO138.out).2.1)
                                  rintro e w36 ⟨rfl, hb⟩
                                  have HS0_ := (hb.cell (World.block_lt_of_cell? _ _ (hHeld.1))).trans (hHeld.1)
                                  have HS1_ := (hb.cell (World.block_lt_of_cell? _ _ (hHeld.2.1))).trans (hHeld.2.1)
                                  have HS2_ := (hb.cell (World.block_lt_of_cell? _ _ (hHeld.2.2.1))).trans (hHeld.2.2.1)
                                  have HS3_ := (hb.cell (World.block_lt_of_cell? _ _ (hHeld.2.2.2.1))).trans (hHeld.2.2.2.1)
                                  have HS4_ := (hb.cell (World.block_lt_of_cell? _ _ (hHeld.2.2.2.2.1))).trans (hHeld.2.2.2.2.1)
                                  have HS5_ := (hb.cell (World.block_lt_of_cell? _ _ (hHeld.2.2.2.2.2.1))).trans (hHeld.2.2.2.2.2.1)
                                  have HS6_ := (hb.cell (World.block_lt_of_cell? _ _ (hHeld.2.2.2.2.2.2.1))).trans (hHeld.2.2.2.2.2.2.1)
                                  have HS7_ := (hb.cell (World.block_lt_of_cell? _ _ (hHeld.2.2.2.2.2.2.2.1))).trans (hHeld.2.2.2.2.2.2.2.1)
                                  have HS8_ := (hb.cell (World.block_lt_of_cell? _ _ (hHeld.2.2.2.2.2.2.2.2.1))).trans (hHeld.2.2.2.2.2.2.2.2.1)
                                  have HS9_ := (hb.cell (World.block_lt_of_cell? _ _ (hHeld.2.2.2.2.2.2.2.2.2.1))).trans (hHeld.2.2.2.2.2.2.2.2.2.1)
                                  have HS10_ := (hb.cell (World.block_lt_of_cell? _ _ (hHeld.2.2.2.2.2.2.2.2.2.2.1))).trans (hHeld.2.2.2.2.2.2.2.2.2.2.1)
                                  have HS11_ := (hb.cell (World.block_lt_of_cell? _ _ (hHeld.2.2.2.2.2.2.2.2.2.2.2.1))).trans (hHeld.2.2.2.2.2.2.2.2.2.2.2.1)
                                  have HS12_ := (hb.cell (World.block_lt_of_cell? _ _ (hHeld.2.2.2.2.2.2.2.2.2.2.2.2.1))).trans (hHeld.2.2.2.2.2.2.2.2.2.2.2.2.1)
                                  have HS13_ := (hb.cell (World.block_lt_of_cell? _ _ (hHeld.2.2.2.2.2.2.2.2.2.2.2.2.2.1))).trans (hHeld.2.2.2.2.2.2.2.2.2.2.2.2.2.1)
                                  have HS14_ := (hb.cell (World.block_lt_of_cell? _ _ (hHeld.2.2.2.2.2.2.2.2.2.2.2.2.2.2.1))).trans (hHeld.2.2.2.2.2.2.2.2.2.2.2.2.2.2.1)
                                  have HS15_ := (hb.cell (World.block_lt_of_cell? _ _ (hHeld.2.2.2.2.2.2.2.2.2.2.2.2.2.2.2.1))).trans (hHeld.2.2.2.2.2.2.2.2.2.2.2.2.2.2.2.1)
                                  have HS16_ := (hb.cell (World.block_lt_of_cell? _ _ (hHeld.2.2.2.2.2.2.2.2.2.2.2.2.2.2.2.2.1))).trans (hHeld.2.2.2.2.2.2.2.2.2.2.2.2.2.2.2.2.1)
                                  have HS17_ := (hb.cell (World.block_lt_of_cell? _ _ (hHeld.2.2.2.2.2.2.2.2.2.2.2.2.2.2.2.2.2.1))).trans (hHeld.2.2.2.2.2.2.2.2.2.2.2.2.2.2.2.2.2.1)
                                  have HS18_ := (hb.cell (World.block_lt_of_cell? _ _ (hHeld.2.2.2.2.2.2.2.2.2.2.2.2.2.2.2.2.2.2.1))).trans (hHeld.2.2.2.2.2.2.2.2.2.2.2.2.2.2.2.2.2.2.1)
                                  have HS19_ := (hb.cell (World.block_lt_of_cell? _ _ (hHeld.2.2.2.2.2.2.2.2.2.2.2.2.2.2.2.2.2.2.2.1))).trans (hHeld.2.2.2.2.2.2.2.2.2.2.2.2.2.2.2.2.2.2.2.1)
                                  have HS20_ := (hb.cell (World.block_lt_of_cell? _ _ (hHeld.2.2.2.2.2.2.2.2.2.2.2.2.2.2.2.2.2.2.2.2.1))).trans (hHeld.2.2.2.2.2.2.2.2.2.2.2.2.2.2.2.2.2.2.2.2.1)
                                  have HS21_ := (hb.cell (World.block_lt_of_cell? _ _ (hHeld.2.2.2.2.2.2.2.2.2.2.2.2.2.2.2.2.2.2.2.2.2.1))).trans (hHeld.2.2.2.2.2.2.2.2.2.2.2.2.2.2.2.2.2.2.2.2.2.1)
                                  have HS22_ := (hb.cell (World.block_lt_of_cell? _ _ (hHeld.2.2.2.2.2.2.2.2.2.2.2.2.2.2.2.2.2.2.2.2.2.2.1))).trans (hHeld.2.2.2.2.2.2.2.2.2.2.2.2.2.2.2.2.2.2.2.2.2.2.1)
                                  have HS23_ := (hb.cell (World.block_lt_of_cell? _ _ (hHeld.2.2.2.2.2.2.2.2.2.2.2.2.2.2.2.2.2.2.2.2.2.2.2.1))).trans (hHeld.2.2.2.2.2.2.2.2.2.2.2.2.2.2.2.2.2.2.2.2.2.2.2.1)
                                  have HS24_ := (hb.cell (World.block_lt_of_cell? _ _ (hHeld.2.2.2.2.2.2.2.2.2.2.2.2.2.2.2.2.2.2.2.2.2.2.2.2.1))).trans (hHeld.2.2.2.2.2.2.2.2.2.2.2.2.2.2.2.2.2.2.2.2.2.2.2.2.1)
                                  have HS25_ := (hb.cell (World.block_lt_of_cell? _ _ (hHeld.2.2.2.2.2.2.2.2.2.2.2.2.2.2.2.2.2.2.2.2.2.2.2.2.2.1))).trans (hHeld.2.2.2.2.2.2.2.2.2.2.2.2.2.2.2.2.2.2.2.2.2.2.2.2.2.1)
                                  have HS26_ := (hb.cell (World.block_lt_of_cell? _ _ (hHeld.2.2.2.2.2.2.2.2.2.2.2.2.2.2.2.2.2.2.2.2.2.2.2.2.2.2.1))).trans (hHeld.2.2.2.2.2.2.2.2.2.2.2.2.2.2.2.2.2.2.2.2.2.2.2.2.2.2.1)
                                  have HS27_ := (hb.cell (World.block_lt_of_cell? _ _ (hHeld.2.2.2.2.2.2.2.2.2.2.2.2.2.2.2.2.2.2.2.2.2.2.2.2.2.2.2.1))).trans (hHeld.2.2.2.2.2.2.2.2.2.2.2.2.2.2.2.2.2.2.2.2.2.2.2.2.2.2.2.1)
                                  have HS28_ := (hb.cell (World.block_lt_of_cell? _ _ (hHeld.2.2.2.2.2.2.2.2.2.2.2.2.2.2.2.2.2.2.2.2.2.2.2.2.2.2.2.2.1))).trans (hHeld.2.2.2.2.2.2.2.2.2.2.2.2.2.2.2.2.2.2.2.2.2.2.2.2.2.2.2.2.1)
                                  have HS29_ := (hb.cell (World.block_lt_of_cell? _ _ (hHeld.2.2.2.2.2.2.2.2.2.2.2.2.2.2.2.2.2.2.2.2.2.2.2.2.2.2.2.2.2))).trans (hHeld.2.2.2.2.2.2.2.2.2.2.2.2.2.2.2.2.2.2.2.2.2.2.2.2.2.2.2.2.2)
                                  refine ⟨_, rfl, ?_⟩
                                  have n0_ := Aside0.mk (Kd.R_below (by (with_reducible repeat (first | apply Kd.R_alloc | apply Kd.R_drewN | apply Kd.R_drew)); exact HO135.out) hb)
                                  have n1_ := Aside0.mk (Kd.R_below (by (with_reducible repeat (first | apply Kd.R_alloc | apply Kd.R_drewN | apply Kd.R_drew)); exact HO138.out) hb)
                                  have n2_ := Aside0.mk (below_step hb_ hb)
                                  clear HO135
                                  clear HO138
                                  clear HB
                                  have HO135 := n0_
                                  have HO138 := n1_
                                  have HB := n2_
                                  clear n0_ n1_ n2_
                                  (try clear hb)
                                  (try clear hb2)
                                  (try clear hk)
                                  (try clear hi)
                                  refine hK.out _ _ ⟨HS0_, HS1_, HS2_, HS3_, HS4_, HS5_, HS6_, HS7_, HS8_, HS9_, HS10_, HS11_, HS12_, HS13_, HS14_, HS15_, HS16_, HS17_, HS18_, HS19_, HS20_, HS21_, HS22_, HS23_, HS24_, HS25_, HS26_, HS27_, HS28_, HS29_⟩ (fun hHeld => ?_)
                                  clear hK K
                                  refine norm_ (a' := ?_) ?_ ?_
                                  rotate_left
                                  · show Act.put _ (some 62) _ = _
                                    simp only [Act.put, z1, z2, z3, i64_w, i32_w]
                                    rfl
                                  refine pure_ (i := 41) (N := some 63) (v := ?_) (a' := ?_) b9_42 rfl rfl (any_of HT_.out (by kernel_rfl)) (fun _ _ _ h => h) (Or.inl ⟨by rfl, ?_⟩) ?_ ?_
                                  rotate_left
                                  · intro w'
                                    go_simp
                                    with_reducible rfl
                                  rotate_left
                                  · simp only [Act.put, z1, z2, z3, i64_w, i32_w]
                                    rfl
                                  refine pure_ (i := 42) (N := some 64) (v := ?_) (a' := ?_) b9_43 rfl rfl (any_of HT_.out (by kernel_rfl)) (fun _ _ _ h => h) (Or.inl ⟨by rfl, ?_⟩) ?_ ?_
                                  rotate_left
                                  · intro w'
                                    go_simp
                                    with_reducible rfl
                                  rotate_left
                                  · simp only [Act.put, z1, z2, z3, i64_w, i32_w]
                                    rfl
                                  refine pure_ (i := 43) (N := some 65) (v := ?_) (a' := ?_) b9_44 rfl rfl (any_of HT_.out (by kernel_rfl)) (fun _ _ _ h => h) (Or.inl ⟨by rfl, ?_⟩) ?_ ?_
                                  rotate_left
                                  · intro w'
                                    go_simp
                                    with_reducible rfl
                                  rotate_left
                                  · simp only [Act.put, z1, z2, z3, i64_w, i32_w]
                                    rfl
                                  refine pure_ (i := 44) (N := some 66) (v := ?_) (a' := ?_) b9_45 rfl rfl (any_of HT_.out (by kernel_rfl)) (fun _ _ _ h => h) (Or.inl ⟨by rfl, ?_⟩) ?_ ?_
                                  rotate_left
                                  · intro w'
                                    go_simp
                                    with_reducible rfl
                                  rotate_left
                                  · simp only [Act.put, z1, z2, z3, i64_w, i32_w]
                                    rfl
                                  refine one_ (i := 45) (N := some 67) b9_46 rfl rfl (one_of HT_.out (by kernel_rfl)) (by decide) (fun K hK => ?_)
                                  refine goes_ Try.func15 (by kernel_rfl) rfl #[.slice (some ad141) t136.length co35, .int .i64 1] (by rfl) rfl rfl sl_ ?_
                                  with_reducible refine (cluster_Spread.calls k _ _ t136 1 t148 _ ?side1 ?side2 A29.out).mono ?_
                                  (case side1 => repeat (first | exact (Kd.R_reads' HO138.out).2.2 | (with_reducible refine Kd.C_alloc ?_ _) | (with_reducible refine Kd.C_drewN ?_ _) | (with_reducible refine Kd.C_drew ?_)))
                                  (case side2 => exact (Kd.R_reads' HO138.out).2.1)
                                  rintro e w37 ⟨rfl, hb⟩
                                  have HS0_ := (hb.cell (World.block_lt_of_cell? _ _ (hHeld.1))).trans (hHeld.1)
                                  have HS1_ := (hb.cell (World.block_lt_of_cell? _ _ (hHeld.2.1))).trans (hHeld.2.1)
                                  have HS2_ := (hb.cell (World.block_lt_of_cell? _ _ (hHeld.2.2.1))).trans (hHeld.2.2.1)
                                  have HS3_ := (hb.cell (World.block_lt_of_cell? _ _ (hHeld.2.2.2.1))).trans (hHeld.2.2.2.1)
                                  have HS4_ := (hb.cell (World.block_lt_of_cell? _ _ (hHeld.2.2.2.2.1))).trans (hHeld.2.2.2.2.1)
                                  have HS5_ := (hb.cell (World.block_lt_of_cell? _ _ (hHeld.2.2.2.2.2.1))).trans (hHeld.2.2.2.2.2.1)
                                  have HS6_ := (hb.cell (World.block_lt_of_cell? _ _ (hHeld.2.2.2.2.2.2.1))).trans (hHeld.2.2.2.2.2.2.1)
                                  have HS7_ := (hb.cell (World.block_lt_of_cell? _ _ (hHeld.2.2.2.2.2.2.2.1))).trans (hHeld.2.2.2.2.2.2.2.1)
                                  have HS8_ := (hb.cell (World.block_lt_of_cell? _ _ (hHeld.2.2.2.2.2.2.2.2.1))).trans (hHeld.2.2.2.2.2.2.2.2.1)
                                  have HS9_ := (hb.cell (World.block_lt_of_cell? _ _ (hHeld.2.2.2.2.2.2.2.2.2.1))).trans (hHeld.2.2.2.2.2.2.2.2.2.1)
                                  have HS10_ := (hb.cell (World.block_lt_of_cell? _ _ (hHeld.2.2.2.2.2.2.2.2.2.2.1))).trans (hHeld.2.2.2.2.2.2.2.2.2.2.1)
                                  have HS11_ := (hb.cell (World.block_lt_of_cell? _ _ (hHeld.2.2.2.2.2.2.2.2.2.2.2.1))).trans (hHeld.2.2.2.2.2.2.2.2.2.2.2.1)
                                  have HS12_ := (hb.cell (World.block_lt_of_cell? _ _ (hHeld.2.2.2.2.2.2.2.2.2.2.2.2.1))).trans (hHeld.2.2.2.2.2.2.2.2.2.2.2.2.1)
                                  have HS13_ := (hb.cell (World.block_lt_of_cell? _ _ (hHeld.2.2.2.2.2.2.2.2.2.2.2.2.2.1))).trans (hHeld.2.2.2.2.2.2.2.2.2.2.2.2.2.1)
                                  have HS14_ := (hb.cell (World.block_lt_of_cell? _ _ (hHeld.2.2.2.2.2.2.2.2.2.2.2.2.2.2.1))).trans (hHeld.2.2.2.2.2.2.2.2.2.2.2.2.2.2.1)
                                  have HS15_ := (hb.cell (World.block_lt_of_cell? _ _ (hHeld.2.2.2.2.2.2.2.2.2.2.2.2.2.2.2.1))).trans (hHeld.2.2.2.2.2.2.2.2.2.2.2.2.2.2.2.1)
                                  have HS16_ := (hb.cell (World.block_lt_of_cell? _ _ (hHeld.2.2.2.2.2.2.2.2.2.2.2.2.2.2.2.2.1))).trans (hHeld.2.2.2.2.2.2.2.2.2.2.2.2.2.2.2.2.1)
                                  have HS17_ := (hb.cell (World.block_lt_of_cell? _ _ (hHeld.2.2.2.2.2.2.2.2.2.2.2.2.2.2.2.2.2.1))).trans (hHeld.2.2.2.2.2.2.2.2.2.2.2.2.2.2.2.2.2.1)
                                  have HS18_ := (hb.cell (World.block_lt_of_cell? _ _ (hHeld.2.2.2.2.2.2.2.2.2.2.2.2.2.2.2.2.2.2.1))).trans (hHeld.2.2.2.2.2.2.2.2.2.2.2.2.2.2.2.2.2.2.1)
                                  have HS19_ := (hb.cell (World.block_lt_of_cell? _ _ (hHeld.2.2.2.2.2.2.2.2.2.2.2.2.2.2.2.2.2.2.2.1))).trans (hHeld.2.2.2.2.2.2.2.2.2.2.2.2.2.2.2.2.2.2.2.1)
                                  have HS20_ := (hb.cell (World.block_lt_of_cell? _ _ (hHeld.2.2.2.2.2.2.2.2.2.2.2.2.2.2.2.2.2.2.2.2.1))).trans (hHeld.2.2.2.2.2.2.2.2.2.2.2.2.2.2.2.2.2.2.2.2.1)
                                  have HS21_ := (hb.cell (World.block_lt_of_cell? _ _ (hHeld.2.2.2.2.2.2.2.2.2.2.2.2.2.2.2.2.2.2.2.2.2.1))).trans (hHeld.2.2.2.2.2.2.2.2.2.2.2.2.2.2.2.2.2.2.2.2.2.1)
                                  have HS22_ := (hb.cell (World.block_lt_of_cell? _ _ (hHeld.2.2.2.2.2.2.2.2.2.2.2.2.2.2.2.2.2.2.2.2.2.2.1))).trans (hHeld.2.2.2.2.2.2.2.2.2.2.2.2.2.2.2.2.2.2.2.2.2.2.1)
                                  have HS23_ := (hb.cell (World.block_lt_of_cell? _ _ (hHeld.2.2.2.2.2.2.2.2.2.2.2.2.2.2.2.2.2.2.2.2.2.2.2.1))).trans (hHeld.2.2.2.2.2.2.2.2.2.2.2.2.2.2.2.2.2.2.2.2.2.2.2.1)
                                  have HS24_ := (hb.cell (World.block_lt_of_cell? _ _ (hHeld.2.2.2.2.2.2.2.2.2.2.2.2.2.2.2.2.2.2.2.2.2.2.2.2.1))).trans (hHeld.2.2.2.2.2.2.2.2.2.2.2.2.2.2.2.2.2.2.2.2.2.2.2.2.1)
                                  have HS25_ := (hb.cell (World.block_lt_of_cell? _ _ (hHeld.2.2.2.2.2.2.2.2.2.2.2.2.2.2.2.2.2.2.2.2.2.2.2.2.2.1))).trans (hHeld.2.2.2.2.2.2.2.2.2.2.2.2.2.2.2.2.2.2.2.2.2.2.2.2.2.1)
                                  have HS26_ := (hb.cell (World.block_lt_of_cell? _ _ (hHeld.2.2.2.2.2.2.2.2.2.2.2.2.2.2.2.2.2.2.2.2.2.2.2.2.2.2.1))).trans (hHeld.2.2.2.2.2.2.2.2.2.2.2.2.2.2.2.2.2.2.2.2.2.2.2.2.2.2.1)
                                  have HS27_ := (hb.cell (World.block_lt_of_cell? _ _ (hHeld.2.2.2.2.2.2.2.2.2.2.2.2.2.2.2.2.2.2.2.2.2.2.2.2.2.2.2.1))).trans (hHeld.2.2.2.2.2.2.2.2.2.2.2.2.2.2.2.2.2.2.2.2.2.2.2.2.2.2.2.1)
                                  have HS28_ := (hb.cell (World.block_lt_of_cell? _ _ (hHeld.2.2.2.2.2.2.2.2.2.2.2.2.2.2.2.2.2.2.2.2.2.2.2.2.2.2.2.2.1))).trans (hHeld.2.2.2.2.2.2.2.2.2.2.2.2.2.2.2.2.2.2.2.2.2.2.2.2.2.2.2.2.1)
                                  have HS29_ := (hb.cell (World.block_lt_of_cell? _ _ (hHeld.2.2.2.2.2.2.2.2.2.2.2.2.2.2.2.2.2.2.2.2.2.2.2.2.2.2.2.2.2))).trans (hHeld.2.2.2.2.2.2.2.2.2.2.2.2.2.2.2.2.2.2.2.2.2.2.2.2.2.2.2.2.2)
                                  refine ⟨_, rfl, ?_⟩
                                  have n0_ := Aside0.mk (Kd.R_below (by (with_reducible repeat (first | apply Kd.R_alloc | apply Kd.R_drewN | apply Kd.R_drew)); exact HO135.out) hb)
                                  have n1_ := Aside0.mk (Kd.R_below (by (with_reducible repeat (first | apply Kd.R_alloc | apply Kd.R_drewN | apply Kd.R_drew)); exact HO138.out) hb)
                                  have n2_ := Aside0.mk (below_step hb_ hb)
                                  clear HO135
                                  clear HO138
                                  clear HB
                                  have HO135 := n0_
                                  have HO138 := n1_
                                  have HB := n2_
                                  clear n0_ n1_ n2_
                                  (try clear hb)
                                  (try clear hb2)
                                  (try clear hk)
                                  (try clear hi)
                                  refine hK.out _ _ ⟨HS0_, HS1_, HS2_, HS3_, HS4_, HS5_, HS6_, HS7_, HS8_, HS9_, HS10_, HS11_, HS12_, HS13_, HS14_, HS15_, HS16_, HS17_, HS18_, HS19_, HS20_, HS21_, HS22_, HS23_, HS24_, HS25_, HS26_, HS27_, HS28_, HS29_⟩ (fun hHeld => ?_)
                                  clear hK K
                                  refine norm_ (a' := ?_) ?_ ?_
                                  rotate_left
                                  · show Act.put _ (some 67) _ = _
                                    simp only [Act.put, z1, z2, z3, i64_w, i32_w]
                                    rfl
                                  refine pure_ (i := 46) (N := some 68) (v := ?_) (a' := ?_) b9_47 rfl rfl (any_of HT_.out (by kernel_rfl)) (fun _ _ _ h => h) (Or.inl ⟨by rfl, ?_⟩) ?_ ?_
                                  rotate_left
                                  · intro w'
                                    go_simp
                                    with_reducible rfl
                                  rotate_left
                                  · simp only [Act.put, z1, z2, z3, i64_w, i32_w]
                                    rfl
                                  refine pure_ (i := 47) (N := some 69) (v := ?_) (a' := ?_) b9_48 rfl rfl (any_of HT_.out (by kernel_rfl)) (fun _ _ _ h => h) (Or.inl ⟨by rfl, ?_⟩) ?_ ?_
                                  rotate_left
                                  · intro w'
                                    go_simp
                                    with_reducible rfl
                                  rotate_left
                                  · simp only [Act.put, z1, z2, z3, i64_w, i32_w]
                                    rfl
                                  refine pure_ (i := 48) (N := some 70) (v := ?_) (a' := ?_) b9_49 rfl rfl (any_of HT_.out (by kernel_rfl)) (fun _ _ _ h => h) (Or.inl ⟨by rfl, ?_⟩) ?_ ?_
                                  rotate_left
                                  · intro w'
                                    go_simp
                                    with_reducible rfl
                                  rotate_left
                                  · simp only [Act.put, z1, z2, z3, i64_w, i32_w]
                                    rfl
                                  refine pure_ (i := 49) (N := some 71) (v := ?_) (a' := ?_) b9_50 rfl rfl (any_of HT_.out (by kernel_rfl)) (fun _ _ _ h => h) (Or.inl ⟨by rfl, ?_⟩) ?_ ?_
                                  rotate_left
                                  · intro w'
                                    go_simp
                                    with_reducible rfl
                                  rotate_left
                                  · simp only [Act.put, z1, z2, z3, i64_w, i32_w]
                                    rfl
                                  refine one_ (i := 50) (N := some 72) b9_51 rfl rfl (one_of HT_.out (by kernel_rfl)) (by decide) (fun K hK => ?_)
                                  refine goes_ Try.func15 (by kernel_rfl) rfl #[.slice (some ad141) t136.length co35, .int .i64 2] (by rfl) rfl rfl sl_ ?_
                                  with_reducible refine (cluster_Spread.calls k _ _ t136 2 t149 _ ?side1 ?side2 A31.out).mono ?_
                                  (case side1 => repeat (first | exact (Kd.R_reads' HO138.out).2.2 | (with_reducible refine Kd.C_alloc ?_ _) | (with_reducible refine Kd.C_drewN ?_ _) | (with_reducible refine Kd.C_drew ?_)))
                                  (case side2 => exact (Kd.R_reads' HO138.out).2.1)
                                  rintro e w38 ⟨rfl, hb⟩
                                  have HS0_ := (hb.cell (World.block_lt_of_cell? _ _ (hHeld.1))).trans (hHeld.1)
                                  have HS1_ := (hb.cell (World.block_lt_of_cell? _ _ (hHeld.2.1))).trans (hHeld.2.1)
                                  have HS2_ := (hb.cell (World.block_lt_of_cell? _ _ (hHeld.2.2.1))).trans (hHeld.2.2.1)
                                  have HS3_ := (hb.cell (World.block_lt_of_cell? _ _ (hHeld.2.2.2.1))).trans (hHeld.2.2.2.1)
                                  have HS4_ := (hb.cell (World.block_lt_of_cell? _ _ (hHeld.2.2.2.2.1))).trans (hHeld.2.2.2.2.1)
                                  have HS5_ := (hb.cell (World.block_lt_of_cell? _ _ (hHeld.2.2.2.2.2.1))).trans (hHeld.2.2.2.2.2.1)
                                  have HS6_ := (hb.cell (World.block_lt_of_cell? _ _ (hHeld.2.2.2.2.2.2.1))).trans (hHeld.2.2.2.2.2.2.1)
                                  have HS7_ := (hb.cell (World.block_lt_of_cell? _ _ (hHeld.2.2.2.2.2.2.2.1))).trans (hHeld.2.2.2.2.2.2.2.1)
                                  have HS8_ := (hb.cell (World.block_lt_of_cell? _ _ (hHeld.2.2.2.2.2.2.2.2.1))).trans (hHeld.2.2.2.2.2.2.2.2.1)
                                  have HS9_ := (hb.cell (World.block_lt_of_cell? _ _ (hHeld.2.2.2.2.2.2.2.2.2.1))).trans (hHeld.2.2.2.2.2.2.2.2.2.1)
                                  have HS10_ := (hb.cell (World.block_lt_of_cell? _ _ (hHeld.2.2.2.2.2.2.2.2.2.2.1))).trans (hHeld.2.2.2.2.2.2.2.2.2.2.1)
                                  have HS11_ := (hb.cell (World.block_lt_of_cell? _ _ (hHeld.2.2.2.2.2.2.2.2.2.2.2.1))).trans (hHeld.2.2.2.2.2.2.2.2.2.2.2.1)
                                  have HS12_ := (hb.cell (World.block_lt_of_cell? _ _ (hHeld.2.2.2.2.2.2.2.2.2.2.2.2.1))).trans (hHeld.2.2.2.2.2.2.2.2.2.2.2.2.1)
                                  have HS13_ := (hb.cell (World.block_lt_of_cell? _ _ (hHeld.2.2.2.2.2.2.2.2.2.2.2.2.2.1))).trans (hHeld.2.2.2.2.2.2.2.2.2.2.2.2.2.1)
                                  have HS14_ := (hb.cell (World.block_lt_of_cell? _ _ (hHeld.2.2.2.2.2.2.2.2.2.2.2.2.2.2.1))).trans (hHeld.2.2.2.2.2.2.2.2.2.2.2.2.2.2.1)
                                  have HS15_ := (hb.cell (World.block_lt_of_cell? _ _ (hHeld.2.2.2.2.2.2.2.2.2.2.2.2.2.2.2.1))).trans (hHeld.2.2.2.2.2.2.2.2.2.2.2.2.2.2.2.1)
                                  have HS16_ := (hb.cell (World.block_lt_of_cell? _ _ (hHeld.2.2.2.2.2.2.2.2.2.2.2.2.2.2.2.2.1))).trans (hHeld.2.2.2.2.2.2.2.2.2.2.2.2.2.2.2.2.1)
                                  have HS17_ := (hb.cell (World.block_lt_of_cell? _ _ (hHeld.2.2.2.2.2.2.2.2.2.2.2.2.2.2.2.2.2.1))).trans (hHeld.2.2.2.2.2.2.2.2.2.2.2.2.2.2.2.2.2.1)
                                  have HS18_ := (hb.cell (World.block_lt_of_cell? _ _ (hHeld.2.2.2.2.2.2.2.2.2.2.2.2.2.2.2.2.2.2.1))).trans (hHeld.2.2.2.2.2.2.2.2.2.2.2.2.2.2.2.2.2.2.1)
                                  have HS19_ := (hb.cell (World.block_lt_of_cell? _ _ (hHeld.2.2.2.2.2.2.2.2.2.2.2.2.2.2.2.2.2.2.2.1))).trans (hHeld.2.2.2.2.2.2.2.2.2.2.2.2.2.2.2.2.2.2.2.1)
                                  have HS20_ := (hb.cell (World.block_lt_of_cell? _ _ (hHeld.2.2.2.2.2.2.2.2.2.2.2.2.2.2.2.2.2.2.2.2.1))).trans (hHeld.2.2.2.2.2.2.2.2.2.2.2.2.2.2.2.2.2.2.2.2.1)
                                  have HS21_ := (hb.cell (World.block_lt_of_cell? _ _ (hHeld.2.2.2.2.2.2.2.2.2.2.2.2.2.2.2.2.2.2.2.2.2.1))).trans (hHeld.2.2.2.2.2.2.2.2.2.2.2.2.2.2.2.2.2.2.2.2.2.1)
                                  have HS22_ := (hb.cell (World.block_lt_of_cell? _ _ (hHeld.2.2.2.2.2.2.2.2.2.2.2.2.2.2.2.2.2.2.2.2.2.2.1))).trans (hHeld.2.2.2.2.2.2.2.2.2.2.2.2.2.2.2.2.2.2.2.2.2.2.1)
                                  have HS23_ := (hb.cell (World.block_lt_of_cell? _ _ (hHeld.2.2.2.2.2.2.2.2.2.2.2.2.2.2.2.2.2.2.2.2.2.2.2.1))).trans (hHeld.2.2.2.2.2.2.2.2.2.2.2.2.2.2.2.2.2.2.2.2.2.2.2.1)
                                  have HS24_ := (hb.cell (World.block_lt_of_cell? _ _ (hHeld.2.2.2.2.2.2.2.2.2.2.2.2.2.2.2.2.2.2.2.2.2.2.2.2.1))).trans (hHeld.2.2.2.2.2.2.2.2.2.2.2.2.2.2.2.2.2.2.2.2.2.2.2.2.1)
                                  have HS25_ := (hb.cell (World.block_lt_of_cell? _ _ (hHeld.2.2.2.2.2.2.2.2.2.2.2.2.2.2.2.2.2.2.2.2.2.2.2.2.2.1))).trans (hHeld.2.2.2.2.2.2.2.2.2.2.2.2.2.2.2.2.2.2.2.2.2.2.2.2.2.1)
                                  have HS26_ := (hb.cell (World.block_lt_of_cell? _ _ (hHeld.2.2.2.2.2.2.2.2.2.2.2.2.2.2.2.2.2.2.2.2.2.2.2.2.2.2.1))).trans (hHeld.2.2.2.2.2.2.2.2.2.2.2.2.2.2.2.2.2.2.2.2.2.2.2.2.2.2.1)
                                  have HS27_ := (hb.cell (World.block_lt_of_cell? _ _ (hHeld.2.2.2.2.2.2.2.2.2.2.2.2.2.2.2.2.2.2.2.2.2.2.2.2.2.2.2.1))).trans (hHeld.2.2.2.2.2.2.2.2.2.2.2.2.2.2.2.2.2.2.2.2.2.2.2.2.2.2.2.1)
                                  have HS28_ := (hb.cell (World.block_lt_of_cell? _ _ (hHeld.2.2.2.2.2.2.2.2.2.2.2.2.2.2.2.2.2.2.2.2.2.2.2.2.2.2.2.2.1))).trans (hHeld.2.2.2.2.2.2.2.2.2.2.2.2.2.2.2.2.2.2.2.2.2.2.2.2.2.2.2.2.1)
                                  have HS29_ := (hb.cell (World.block_lt_of_cell? _ _ (hHeld.2.2.2.2.2.2.2.2.2.2.2.2.2.2.2.2.2.2.2.2.2.2.2.2.2.2.2.2.2))).trans (hHeld.2.2.2.2.2.2.2.2.2.2.2.2.2.2.2.2.2.2.2.2.2.2.2.2.2.2.2.2.2)
                                  refine ⟨_, rfl, ?_⟩
                                  have n0_ := Aside0.mk (Kd.R_below (by (with_reducible repeat (first | apply Kd.R_alloc | apply Kd.R_drewN | apply Kd.R_drew)); exact HO135.out) hb)
                                  have n1_ := Aside0.mk (Kd.R_below (by (with_reducible repeat (first | apply Kd.R_alloc | apply Kd.R_drewN | apply Kd.R_drew)); exact HO138.out) hb)
                                  have n2_ := Aside0.mk (below_step hb_ hb)
                                  clear HO135
                                  clear HO138
                                  clear HB
                                  have HO135 := n0_
                                  have HO138 := n1_
                                  have HB := n2_
                                  clear n0_ n1_ n2_
                                  (try clear hb)
                                  (try clear hb2)
                                  (try clear hk)
                                  (try clear hi)
                                  refine hK.out _ _ ⟨HS0_, HS1_, HS2_, HS3_, HS4_, HS5_, HS6_, HS7_, HS8_, HS9_, HS10_, HS11_, HS12_, HS13_, HS14_, HS15_, HS16_, HS17_, HS18_, HS19_, HS20_, HS21_, HS22_, HS23_, HS24_, HS25_, HS26_, HS27_, HS28_, HS29_⟩ (fun hHeld => ?_)
                                  clear hK K
                                  refine norm_ (a' := ?_) ?_ ?_
                                  rotate_left
                                  · show Act.put _ (some 72) _ = _
                                    simp only [Act.put, z1, z2, z3, i64_w, i32_w]
                                    rfl
                                  refine pure_ (i := 51) (N := some 73) (v := ?_) (a' := ?_) b9_52 rfl rfl (any_of HT_.out (by kernel_rfl)) (fun _ _ _ h => h) (Or.inl ⟨by rfl, ?_⟩) ?_ ?_
                                  rotate_left
                                  · intro w'
                                    go_simp
                                    with_reducible rfl
                                  rotate_left
                                  · simp only [Act.put, z1, z2, z3, i64_w, i32_w]
                                    rfl
                                  refine pure_ (i := 52) (N := some 74) (v := ?_) (a' := ?_) b9_53 rfl rfl (any_of HT_.out (by kernel_rfl)) (fun _ _ _ h => h) (Or.inl ⟨by rfl, ?_⟩) ?_ ?_
                                  rotate_left
                                  · intro w'
                                    go_simp
                                    with_reducible rfl
                                  rotate_left
                                  · simp only [Act.put, z1, z2, z3, i64_w, i32_w]
                                    rfl
                                  refine pure_ (i := 53) (N := some 75) (v := ?_) (a' := ?_) b9_54 rfl rfl (any_of HT_.out (by kernel_rfl)) (fun _ _ _ h => h) (Or.inl ⟨by rfl, ?_⟩) ?_ ?_
                                  rotate_left
                                  · intro w'
                                    go_simp
                                    with_reducible rfl
                                  rotate_left
                                  · simp only [Act.put, z1, z2, z3, i64_w, i32_w]
                                    rfl
                                  refine pure_ (i := 54) (N := some 76) (v := ?_) (a' := ?_) b9_55 rfl rfl (any_of HT_.out (by kernel_rfl)) (fun _ _ _ h => h) (Or.inl ⟨by rfl, ?_⟩) ?_ ?_
                                  rotate_left
                                  · intro w'
                                    go_simp
                                    with_reducible rfl
                                  rotate_left
                                  · simp only [Act.put, z1, z2, z3, i64_w, i32_w]
                                    rfl
                                  refine one_ (i := 55) (N := some 77) b9_56 rfl rfl (one_of HT_.out (by kernel_rfl)) (by decide) (fun K hK => ?_)
                                  refine goes_ Try.func15 (by kernel_rfl) rfl #[.slice (some ad141) t136.length co35, .int .i64 3] (by rfl) rfl rfl sl_ ?_
                                  with_reducible refine (cluster_Spread.calls k _ _ t136 3 t150 _ ?side1 ?side2 A33.out).mono ?_
                                  (case side1 => repeat (first | exact (Kd.R_reads' HO138.out).2.2 | (with_reducible refine Kd.C_alloc ?_ _) | (with_reducible refine Kd.C_drewN ?_ _) | (with_reducible refine Kd.C_drew ?_)))
                                  (case side2 => exact (Kd.R_reads' HO138.out).2.1)
                                  rintro e w39 ⟨rfl, hb⟩
                                  have HS0_ := (hb.cell (World.block_lt_of_cell? _ _ (hHeld.1))).trans (hHeld.1)
                                  have HS1_ := (hb.cell (World.block_lt_of_cell? _ _ (hHeld.2.1))).trans (hHeld.2.1)
                                  have HS2_ := (hb.cell (World.block_lt_of_cell? _ _ (hHeld.2.2.1))).trans (hHeld.2.2.1)
                                  have HS3_ := (hb.cell (World.block_lt_of_cell? _ _ (hHeld.2.2.2.1))).trans (hHeld.2.2.2.1)
                                  have HS4_ := (hb.cell (World.block_lt_of_cell? _ _ (hHeld.2.2.2.2.1))).trans (hHeld.2.2.2.2.1)
                                  have HS5_ := (hb.cell (World.block_lt_of_cell? _ _ (hHeld.2.2.2.2.2.1))).trans (hHeld.2.2.2.2.2.1)
                                  have HS6_ := (hb.cell (World.block_lt_of_cell? _ _ (hHeld.2.2.2.2.2.2.1))).trans (hHeld.2.2.2.2.2.2.1)
                                  have HS7_ := (hb.cell (World.block_lt_of_cell? _ _ (hHeld.2.2.2.2.2.2.2.1))).trans (hHeld.2.2.2.2.2.2.2.1)
                                  have HS8_ := (hb.cell (World.block_lt_of_cell? _ _ (hHeld.2.2.2.2.2.2.2.2.1))).trans (hHeld.2.2.2.2.2.2.2.2.1)
                                  have HS9_ := (hb.cell (World.block_lt_of_cell? _ _ (hHeld.2.2.2.2.2.2.2.2.2.1))).trans (hHeld.2.2.2.2.2.2.2.2.2.1)
                                  have HS10_ := (hb.cell (World.block_lt_of_cell? _ _ (hHeld.2.2.2.2.2.2.2.2.2.2.1))).trans (hHeld.2.2.2.2.2.2.2.2.2.2.1)
                                  have HS11_ := (hb.cell (World.block_lt_of_cell? _ _ (hHeld.2.2.2.2.2.2.2.2.2.2.2.1))).trans (hHeld.2.2.2.2.2.2.2.2.2.2.2.1)
                                  have HS12_ := (hb.cell (World.block_lt_of_cell? _ _ (hHeld.2.2.2.2.2.2.2.2.2.2.2.2.1))).trans (hHeld.2.2.2.2.2.2.2.2.2.2.2.2.1)
                                  have HS13_ := (hb.cell (World.block_lt_of_cell? _ _ (hHeld.2.2.2.2.2.2.2.2.2.2.2.2.2.1))).trans (hHeld.2.2.2.2.2.2.2.2.2.2.2.2.2.1)
                                  have HS14_ := (hb.cell (World.block_lt_of_cell? _ _ (hHeld.2.2.2.2.2.2.2.2.2.2.2.2.2.2.1))).trans (hHeld.2.2.2.2.2.2.2.2.2.2.2.2.2.2.1)
                                  have HS15_ := (hb.cell (World.block_lt_of_cell? _ _ (hHeld.2.2.2.2.2.2.2.2.2.2.2.2.2.2.2.1))).trans (hHeld.2.2.2.2.2.2.2.2.2.2.2.2.2.2.2.1)
                                  have HS16_ := (hb.cell (World.block_lt_of_cell? _ _ (hHeld.2.2.2.2.2.2.2.2.2.2.2.2.2.2.2.2.1))).trans (hHeld.2.2.2.2.2.2.2.2.2.2.2.2.2.2.2.2.1)
                                  have HS17_ := (hb.cell (World.block_lt_of_cell? _ _ (hHeld.2.2.2.2.2.2.2.2.2.2.2.2.2.2.2.2.2.1))).trans (hHeld.2.2.2.2.2.2.2.2.2.2.2.2.2.2.2.2.2.1)
                                  have HS18_ := (hb.cell (World.block_lt_of_cell? _ _ (hHeld.2.2.2.2.2.2.2.2.2.2.2.2.2.2.2.2.2.2.1))).trans (hHeld.2.2.2.2.2.2.2.2.2.2.2.2.2.2.2.2.2.2.1)
                                  have HS19_ := (hb.cell (World.block_lt_of_cell? _ _ (hHeld.2.2.2.2.2.2.2.2.2.2.2.2.2.2.2.2.2.2.2.1))).trans (hHeld.2.2.2.2.2.2.2.2.2.2.2.2.2.2.2.2.2.2.2.1)
                                  have HS20_ := (hb.cell (World.block_lt_of_cell? _ _ (hHeld.2.2.2.2.2.2.2.2.2.2.2.2.2.2.2.2.2.2.2.2.1))).trans (hHeld.2.2.2.2.2.2.2.2.2.2.2.2.2.2.2.2.2.2.2.2.1)
                                  have HS21_ := (hb.cell (World.block_lt_of_cell? _ _ (hHeld.2.2.2.2.2.2.2.2.2.2.2.2.2.2.2.2.2.2.2.2.2.1))).trans (hHeld.2.2.2.2.2.2.2.2.2.2.2.2.2.2.2.2.2.2.2.2.2.1)
                                  have HS22_ := (hb.cell (World.block_lt_of_cell? _ _ (hHeld.2.2.2.2.2.2.2.2.2.2.2.2.2.2.2.2.2.2.2.2.2.2.1))).trans (hHeld.2.2.2.2.2.2.2.2.2.2.2.2.2.2.2.2.2.2.2.2.2.2.1)
                                  have HS23_ := (hb.cell (World.block_lt_of_cell? _ _ (hHeld.2.2.2.2.2.2.2.2.2.2.2.2.2.2.2.2.2.2.2.2.2.2.2.1))).trans (hHeld.2.2.2.2.2.2.2.2.2.2.2.2.2.2.2.2.2.2.2.2.2.2.2.1)
                                  have HS24_ := (hb.cell (World.block_lt_of_cell? _ _ (hHeld.2.2.2.2.2.2.2.2.2.2.2.2.2.2.2.2.2.2.2.2.2.2.2.2.1))).trans (hHeld.2.2.2.2.2.2.2.2.2.2.2.2.2.2.2.2.2.2.2.2.2.2.2.2.1)
                                  have HS25_ := (hb.cell (World.block_lt_of_cell? _ _ (hHeld.2.2.2.2.2.2.2.2.2.2.2.2.2.2.2.2.2.2.2.2.2.2.2.2.2.1))).trans (hHeld.2.2.2.2.2.2.2.2.2.2.2.2.2.2.2.2.2.2.2.2.2.2.2.2.2.1)
                                  have HS26_ := (hb.cell (World.block_lt_of_cell? _ _ (hHeld.2.2.2.2.2.2.2.2.2.2.2.2.2.2.2.2.2.2.2.2.2.2.2.2.2.2.1))).trans (hHeld.2.2.2.2.2.2.2.2.2.2.2.2.2.2.2.2.2.2.2.2.2.2.2.2.2.2.1)
                                  have HS27_ := (hb.cell (World.block_lt_of_cell? _ _ (hHeld.2.2.2.2.2.2.2.2.2.2.2.2.2.2.2.2.2.2.2.2.2.2.2.2.2.2.2.1))).trans (hHeld.2.2.2.2.2.2.2.2.2.2.2.2.2.2.2.2.2.2.2.2.2.2.2.2.2.2.2.1)
                                  have HS28_ := (hb.cell (World.block_lt_of_cell? _ _ (hHeld.2.2.2.2.2.2.2.2.2.2.2.2.2.2.2.2.2.2.2.2.2.2.2.2.2.2.2.2.1))).trans (hHeld.2.2.2.2.2.2.2.2.2.2.2.2.2.2.2.2.2.2.2.2.2.2.2.2.2.2.2.2.1)
                                  have HS29_ := (hb.cell (World.block_lt_of_cell? _ _ (hHeld.2.2.2.2.2.2.2.2.2.2.2.2.2.2.2.2.2.2.2.2.2.2.2.2.2.2.2.2.2))).trans (hHeld.2.2.2.2.2.2.2.2.2.2.2.2.2.2.2.2.2.2.2.2.2.2.2.2.2.2.2.2.2)
                                  refine ⟨_, rfl, ?_⟩
                                  have n0_ := Aside0.mk (Kd.R_below (by (with_reducible repeat (first | apply Kd.R_alloc | apply Kd.R_drewN | apply Kd.R_drew)); exact HO135.out) hb)
                                  have n1_ := Aside0.mk (Kd.R_below (by (with_reducible repeat (first | apply Kd.R_alloc | apply Kd.R_drewN | apply Kd.R_drew)); exact HO138.out) hb)
                                  have n2_ := Aside0.mk (below_step hb_ hb)
                                  clear HO135
                                  clear HO138
                                  clear HB
                                  have HO135 := n0_
                                  have HO138 := n1_
                                  have HB := n2_
                                  clear n0_ n1_ n2_
                                  (try clear hb)
                                  (try clear hb2)
                                  (try clear hk)
                                  (try clear hi)
                                  refine hK.out _ _ ⟨HS0_, HS1_, HS2_, HS3_, HS4_, HS5_, HS6_, HS7_, HS8_, HS9_, HS10_, HS11_, HS12_, HS13_, HS14_, HS15_, HS16_, HS17_, HS18_, HS19_, HS20_, HS21_, HS22_, HS23_, HS24_, HS25_, HS26_, HS27_, HS28_, HS29_⟩ (fun hHeld => ?_)
                                  clear hK K
                                  refine norm_ (a' := ?_) ?_ ?_
                                  rotate_left
                                  · show Act.put _ (some 77) _ = _
                                    simp only [Act.put, z1, z2, z3, i64_w, i32_w]
                                    rfl
                                  refine pure_ (i := 56) (N := some 78) (v := ?_) (a' := ?_) b9_57 rfl rfl (any_of HT_.out (by kernel_rfl)) (fun _ _ _ h => h) (Or.inl ⟨by rfl, ?_⟩) ?_ ?_
                                  rotate_left
                                  · intro w'
                                    go_simp
                                    with_reducible rfl
                                  rotate_left
                                  · simp only [Act.put, z1, z2, z3, i64_w, i32_w]
                                    rfl
                                  refine pure_ (i := 57) (N := some 79) (v := ?_) (a' := ?_) b9_58 rfl rfl (any_of HT_.out (by kernel_rfl)) (fun _ _ _ h => h) (Or.inl ⟨by rfl, ?_⟩) ?_ ?_
                                  rotate_left
                                  · intro w'
                                    go_simp
                                    with_reducible rfl
                                  rotate_left
                                  · simp only [Act.put, z1, z2, z3, i64_w, i32_w]
                                    rfl
                                  refine done_ (done_of HT_.out (by kernel_rfl)) ?_
                                  try go_wp2
                                  go_meet
                                  case rel => exact ⟨_, ((t150 != 0)), (by first | rfl | (simp; done) | (simp [*]; done)), H', ⟨by first | omega | exact Nat.le_refl _⟩, ⟨by (with_reducible repeat (first | apply Kd.R_alloc | apply Kd.R_drewN | apply Kd.R_drew)); exact Kd.R_mono HO135.out (fun _ hk => trivial)⟩, ⟨hb_⟩⟩
  case rest =>
    clear HC3
    try clear c1
    try clear c2
    try clear p2
    try clear c9
    try clear c9b0
    try clear c9b1
    try clear c10
    try clear c11
    try clear c15
    try clear c16
    try clear c20
    try clear c21
    obtain ⟨kq, x79_2, rfl, HA, HJ2, HO_1, HB⟩ := hcut
    cases kq with
    | zero => exact absurd HA.out (by simp [timesynclaw25_awake.j0])
    | succ kj2 =>
      have H := HA.out
      clear HA
      simp only [timesynclaw25_awake.j0] at H
      have c58 : ¬ x79_2 = true := fun hx_ => by rw [if_pos hx_, hr.out] at H; simp at H
      · replace c58 := Bool.eq_false_iff.mpr c58
        subst c58
        have H1 : ((cluster_Prune.f kj2 y133 1).bind fun bt151 => ((cluster_Prune.f kj2 y133 2).bind fun bt155 => ((cluster_Prune.f kj2 y133 0).bind fun bt159 => (if (bt151.1.length : Int) = 1 then (if 0 < (bt151.1.length : Int) then (if 1 < (y133.length : Int) then (if (((rd_T34 bt151.1 0).f0) == ((rd_T34 y133 1).f0) && (((rd_T34 bt151.1 0).f1) == ((rd_T34 y133 1).f1) && (((rd_T34 bt151.1 0).f2) == ((rd_T34 y133 1).f2) && (((rd_T34 bt151.1 0).f3) == ((rd_T34 y133 1).f3) && (((rd_T34 bt151.1 0).f4) == ((rd_T34 y133 1).f4)))))) = true then (if bt151.2 = 0 then (if (bt155.1.length : Int) = 2 then (if 0 < (bt155.1.length : Int) then (if (((rd_T34 bt155.1 0).f0) == ((rd_T34 y133 1).f0) && (((rd_T34 bt155.1 0).f1) == ((rd_T34 y133 1).f1) && (((rd_T34 bt155.1 0).f2) == ((rd_T34 y133 1).f2) && (((rd_T34 bt155.1 0).f3) == ((rd_T34 y133 1).f3) && (((rd_T34 bt155.1 0).f4) == ((rd_T34 y133 1).f4)))))) = true then (if 1 < (bt155.1.length : Int) then (if 0 < (y133.length : Int) then (if (((rd_T34 bt155.1 1).f0) == ((rd_T34 y133 0).f0) && (((rd_T34 bt155.1 1).f1) == ((rd_T34 y133 0).f1) && (((rd_T34 bt155.1 1).f2) == ((rd_T34 y133 0).f2) && (((rd_T34 bt155.1 1).f3) == ((rd_T34 y133 0).f3) && (((rd_T34 bt155.1 1).f4) == ((rd_T34 y133 0).f4)))))) = true then (if bt155.2 = 0 then (some (bt159.2 == 3)) else (some false)) else (some false)) else (none)) else (none)) else (some false)) else (none)) else (some false)) else (some false)) else (some false)) else (none)) else (none)) else (some false))))) = some r := by rw [if_neg (show ¬ (false = true) by decide)] at H; exact H
        clear H
        have H := H1
        clear H1
        replace H := Option.bind_eq_some_iff.mp H
        obtain ⟨⟨t151, t152⟩, A590, H⟩ := H
        have fa_ := agree (fun k_ => cluster_Prune.mono _ _ k_) (by rw [Ny133.out] at A590; exact A590) aw_P1
        have et151 : Aside0 (t151 = ([⟨3, 6, 10, 5, 2⟩] : List S34)) := ⟨(Prod.mk.inj fa_).1⟩
        have et152 : Aside0 (t152 = 0) := ⟨(Prod.mk.inj fa_).2⟩
        clear fa_
        replace H : ((cluster_Prune.f kj2 y133 2).bind fun bt155 => ((cluster_Prune.f kj2 y133 0).bind fun bt159 => (if (t151.length : Int) = 1 then (if 0 < (t151.length : Int) then (if 1 < (y133.length : Int) then (if (((rd_T34 t151 0).f0) == ((rd_T34 y133 1).f0) && (((rd_T34 t151 0).f1) == ((rd_T34 y133 1).f1) && (((rd_T34 t151 0).f2) == ((rd_T34 y133 1).f2) && (((rd_T34 t151 0).f3) == ((rd_T34 y133 1).f3) && (((rd_T34 t151 0).f4) == ((rd_T34 y133 1).f4)))))) = true then (if t152 = 0 then (if (bt155.1.length : Int) = 2 then (if 0 < (bt155.1.length : Int) then (if (((rd_T34 bt155.1 0).f0) == ((rd_T34 y133 1).f0) && (((rd_T34 bt155.1 0).f1) == ((rd_T34 y133 1).f1) && (((rd_T34 bt155.1 0).f2) == ((rd_T34 y133 1).f2) && (((rd_T34 bt155.1 0).f3) == ((rd_T34 y133 1).f3) && (((rd_T34 bt155.1 0).f4) == ((rd_T34 y133 1).f4)))))) = true then (if 1 < (bt155.1.length : Int) then (if 0 < (y133.length : Int) then (if (((rd_T34 bt155.1 1).f0) == ((rd_T34 y133 0).f0) && (((rd_T34 bt155.1 1).f1) == ((rd_T34 y133 0).f1) && (((rd_T34 bt155.1 1).f2) == ((rd_T34 y133 0).f2) && (((rd_T34 bt155.1 1).f3) == ((rd_T34 y133 0).f3) && (((rd_T34 bt155.1 1).f4) == ((rd_T34 y133 0).f4)))))) = true then (if bt155.2 = 0 then (some (bt159.2 == 3)) else (some false)) else (some false)) else (none)) else (none)) else (some false)) else (none)) else (some false)) else (some false)) else (some false)) else (none)) else (none)) else (some false)))) = some r := H
        have A59 := Aside0.mk A590
        clear A590
        replace H := Option.bind_eq_some_iff.mp H
        obtain ⟨⟨t155, t156⟩, A600, H⟩ := H
        have fa_ := agree (fun k_ => cluster_Prune.mono _ _ k_) (by rw [Ny133.out] at A600; exact A600) aw_P2
        have et155 : Aside0 (t155 = ([⟨3, 6, 10, 5, 2⟩, ⟨7, 0, 10, 5, 2⟩] : List S34)) := ⟨(Prod.mk.inj fa_).1⟩
        have et156 : Aside0 (t156 = 0) := ⟨(Prod.mk.inj fa_).2⟩
        clear fa_
        replace H : ((cluster_Prune.f kj2 y133 0).bind fun bt159 => (if (t151.length : Int) = 1 then (if 0 < (t151.length : Int) then (if 1 < (y133.length : Int) then (if (((rd_T34 t151 0).f0) == ((rd_T34 y133 1).f0) && (((rd_T34 t151 0).f1) == ((rd_T34 y133 1).f1) && (((rd_T34 t151 0).f2) == ((rd_T34 y133 1).f2) && (((rd_T34 t151 0).f3) == ((rd_T34 y133 1).f3) && (((rd_T34 t151 0).f4) == ((rd_T34 y133 1).f4)))))) = true then (if t152 = 0 then (if (t155.length : Int) = 2 then (if 0 < (t155.length : Int) then (if (((rd_T34 t155 0).f0) == ((rd_T34 y133 1).f0) && (((rd_T34 t155 0).f1) == ((rd_T34 y133 1).f1) && (((rd_T34 t155 0).f2) == ((rd_T34 y133 1).f2) && (((rd_T34 t155 0).f3) == ((rd_T34 y133 1).f3) && (((rd_T34 t155 0).f4) == ((rd_T34 y133 1).f4)))))) = true then (if 1 < (t155.length : Int) then (if 0 < (y133.length : Int) then (if (((rd_T34 t155 1).f0) == ((rd_T34 y133 0).f0) && (((rd_T34 t155 1).f1) == ((rd_T34 y133 0).f1) && (((rd_T34 t155 1).f2) == ((rd_T34 y133 0).f2) && (((rd_T34 t155 1).f3) == ((rd_T34 y133 0).f3) && (((rd_T34 t155 1).f4) == ((rd_T34 y133 0).f4)))))) = true then (if t156 = 0 then (some (bt159.2 == 3)) else (some false)) else (some false)) else (none)) else (none)) else (some false)) else (none)) else (some false)) else (some false)) else (some false)) else (none)) else (none)) else (some false))) = some r := H
        have A60 := Aside0.mk A600
        clear A600
        replace H := Option.bind_eq_some_iff.mp H
        obtain ⟨⟨t159, t160⟩, A610, H⟩ := H
        have fa_ := agree (fun k_ => cluster_Prune.mono _ _ k_) (by rw [Ny133.out] at A610; exact A610) aw_P0
        have et159 : Aside0 (t159 = ([] : List S34)) := ⟨(Prod.mk.inj fa_).1⟩
        have et160 : Aside0 (t160 = 3) := ⟨(Prod.mk.inj fa_).2⟩
        clear fa_
        replace H : (if (t151.length : Int) = 1 then (if 0 < (t151.length : Int) then (if 1 < (y133.length : Int) then (if (((rd_T34 t151 0).f0) == ((rd_T34 y133 1).f0) && (((rd_T34 t151 0).f1) == ((rd_T34 y133 1).f1) && (((rd_T34 t151 0).f2) == ((rd_T34 y133 1).f2) && (((rd_T34 t151 0).f3) == ((rd_T34 y133 1).f3) && (((rd_T34 t151 0).f4) == ((rd_T34 y133 1).f4)))))) = true then (if t152 = 0 then (if (t155.length : Int) = 2 then (if 0 < (t155.length : Int) then (if (((rd_T34 t155 0).f0) == ((rd_T34 y133 1).f0) && (((rd_T34 t155 0).f1) == ((rd_T34 y133 1).f1) && (((rd_T34 t155 0).f2) == ((rd_T34 y133 1).f2) && (((rd_T34 t155 0).f3) == ((rd_T34 y133 1).f3) && (((rd_T34 t155 0).f4) == ((rd_T34 y133 1).f4)))))) = true then (if 1 < (t155.length : Int) then (if 0 < (y133.length : Int) then (if (((rd_T34 t155 1).f0) == ((rd_T34 y133 0).f0) && (((rd_T34 t155 1).f1) == ((rd_T34 y133 0).f1) && (((rd_T34 t155 1).f2) == ((rd_T34 y133 0).f2) && (((rd_T34 t155 1).f3) == ((rd_T34 y133 0).f3) && (((rd_T34 t155 1).f4) == ((rd_T34 y133 0).f4)))))) = true then (if t156 = 0 then (some (t160 == 3)) else (some false)) else (some false)) else (none)) else (none)) else (some false)) else (none)) else (some false)) else (some false)) else (some false)) else (none)) else (none)) else (some false)) = some r := H
        have A61 := Aside0.mk A610
        clear A610
        have c62 : (t151.length : Int) = 1 := by simp only [et151.out]; first | done | decide
        · rw [if_pos c62] at H
          have c62b0 : ((t151.length : Int) == 1) = true := beq_iff_eq.mpr c62
          have c62b1 : ((t151.length : Int) != 1) = false := bne_eq_false_iff_eq.mpr c62
          clear c62
          have c63 : 0 < (t151.length : Int) := by simp only [et151.out]; first | done | decide
          · rw [if_pos c63] at H
            have c63b0 : decide (0 < (t151.length : Int)) = true := decide_eq_true c63
            have c63b1 : decide (0 < t151.length) = true := decide_eq_true (by omega)
            clear c63
            have c64 : 1 < (y133.length : Int) := by simp only [Ny133.out]; first | done | decide
            · rw [if_pos c64] at H
              have c64b0 : decide (1 < (y133.length : Int)) = true := decide_eq_true c64
              have c64b1 : decide (1 < y133.length) = true := decide_eq_true (by omega)
              clear c64
              have c65 : (((rd_T34 t151 0).f0) == ((rd_T34 y133 1).f0) && (((rd_T34 t151 0).f1) == ((rd_T34 y133 1).f1) && (((rd_T34 t151 0).f2) == ((rd_T34 y133 1).f2) && (((rd_T34 t151 0).f3) == ((rd_T34 y133 1).f3) && (((rd_T34 t151 0).f4) == ((rd_T34 y133 1).f4)))))) = true := by simp only [et151.out, Ny133.out]; first | done | decide
              · rw [if_pos c65] at H
                have c65b0 : (((rd_T34 t151 0).f0) == ((rd_T34 y133 1).f0) && (((rd_T34 t151 0).f1) == ((rd_T34 y133 1).f1) && (((rd_T34 t151 0).f2) == ((rd_T34 y133 1).f2) && (((rd_T34 t151 0).f3) == ((rd_T34 y133 1).f3) && (((rd_T34 t151 0).f4) == ((rd_T34 y133 1).f4)))))) = true := c65
                (try (have c65b1 : decide (((rd_T34 t151 0).f0) = ((rd_T34 y133 1).f0) && (((rd_T34 t151 0).f1) == ((rd_T34 y133 1).f1) && (((rd_T34 t151 0).f2) == ((rd_T34 y133 1).f2) && (((rd_T34 t151 0).f3) == ((rd_T34 y133 1).f3) && (((rd_T34 t151 0).f4) == ((rd_T34 y133 1).f4)))))) = true := by simpa using c65))
                (try (have c65b2 : (((rd_T34 t151 0).f0) == ((rd_T34 y133 1).f0) && (((rd_T34 t151 0).f1) == ((rd_T34 y133 1).f1) && (((rd_T34 t151 0).f2) == ((rd_T34 y133 1).f2) && (((rd_T34 t151 0).f3) == ((rd_T34 y133 1).f3) && (((rd_T34 t151 0).f4) == ((rd_T34 y133 1).f4)))))) = true := by simpa using c65))
                clear c65
                have c66 : t152 = 0 := by simp only [et152.out]; first | done | decide
                · rw [if_pos c66] at H
                  have c66b0 : (t152 == 0) = true := beq_iff_eq.mpr c66
                  have c66b1 : (t152 != 0) = false := bne_eq_false_iff_eq.mpr c66
                  clear c66
                  have c67 : (t155.length : Int) = 2 := by simp only [et155.out]; first | done | decide
                  · rw [if_pos c67] at H
                    have c67b0 : ((t155.length : Int) == 2) = true := beq_iff_eq.mpr c67
                    have c67b1 : ((t155.length : Int) != 2) = false := bne_eq_false_iff_eq.mpr c67
                    clear c67
                    have c68 : 0 < (t155.length : Int) := by simp only [et155.out]; first | done | decide
                    · rw [if_pos c68] at H
                      have c68b0 : decide (0 < (t155.length : Int)) = true := decide_eq_true c68
                      have c68b1 : decide (0 < t155.length) = true := decide_eq_true (by omega)
                      clear c68
                      have c69 : (((rd_T34 t155 0).f0) == ((rd_T34 y133 1).f0) && (((rd_T34 t155 0).f1) == ((rd_T34 y133 1).f1) && (((rd_T34 t155 0).f2) == ((rd_T34 y133 1).f2) && (((rd_T34 t155 0).f3) == ((rd_T34 y133 1).f3) && (((rd_T34 t155 0).f4) == ((rd_T34 y133 1).f4)))))) = true := by simp only [et155.out, Ny133.out]; first | done | decide
                      · rw [if_pos c69] at H
                        have c69b0 : (((rd_T34 t155 0).f0) == ((rd_T34 y133 1).f0) && (((rd_T34 t155 0).f1) == ((rd_T34 y133 1).f1) && (((rd_T34 t155 0).f2) == ((rd_T34 y133 1).f2) && (((rd_T34 t155 0).f3) == ((rd_T34 y133 1).f3) && (((rd_T34 t155 0).f4) == ((rd_T34 y133 1).f4)))))) = true := c69
                        (try (have c69b1 : decide (((rd_T34 t155 0).f0) = ((rd_T34 y133 1).f0) && (((rd_T34 t155 0).f1) == ((rd_T34 y133 1).f1) && (((rd_T34 t155 0).f2) == ((rd_T34 y133 1).f2) && (((rd_T34 t155 0).f3) == ((rd_T34 y133 1).f3) && (((rd_T34 t155 0).f4) == ((rd_T34 y133 1).f4)))))) = true := by simpa using c69))
                        (try (have c69b2 : (((rd_T34 t155 0).f0) == ((rd_T34 y133 1).f0) && (((rd_T34 t155 0).f1) == ((rd_T34 y133 1).f1) && (((rd_T34 t155 0).f2) == ((rd_T34 y133 1).f2) && (((rd_T34 t155 0).f3) == ((rd_T34 y133 1).f3) && (((rd_T34 t155 0).f4) == ((rd_T34 y133 1).f4)))))) = true := by simpa using c69))
                        clear c69
                        have c70 : 1 < (t155.length : Int) := by simp only [et155.out]; first | done | decide
                        · rw [if_pos c70] at H
                          have c70b0 : decide (1 < (t155.length : Int)) = true := decide_eq_true c70
                          have c70b1 : decide (1 < t155.length) = true := decide_eq_true (by omega)
                          clear c70
                          have c71 : 0 < (y133.length : Int) := by simp only [Ny133.out]; first | done | decide
                          · rw [if_pos c71] at H
                            have c71b0 : decide (0 < (y133.length : Int)) = true := decide_eq_true c71
                            have c71b1 : decide (0 < y133.length) = true := decide_eq_true (by omega)
                            clear c71
                            have c72 : (((rd_T34 t155 1).f0) == ((rd_T34 y133 0).f0) && (((rd_T34 t155 1).f1) == ((rd_T34 y133 0).f1) && (((rd_T34 t155 1).f2) == ((rd_T34 y133 0).f2) && (((rd_T34 t155 1).f3) == ((rd_T34 y133 0).f3) && (((rd_T34 t155 1).f4) == ((rd_T34 y133 0).f4)))))) = true := by simp only [et155.out, Ny133.out]; first | done | decide
                            · rw [if_pos c72] at H
                              have c72b0 : (((rd_T34 t155 1).f0) == ((rd_T34 y133 0).f0) && (((rd_T34 t155 1).f1) == ((rd_T34 y133 0).f1) && (((rd_T34 t155 1).f2) == ((rd_T34 y133 0).f2) && (((rd_T34 t155 1).f3) == ((rd_T34 y133 0).f3) && (((rd_T34 t155 1).f4) == ((rd_T34 y133 0).f4)))))) = true := c72
                              (try (have c72b1 : decide (((rd_T34 t155 1).f0) = ((rd_T34 y133 0).f0) && (((rd_T34 t155 1).f1) == ((rd_T34 y133 0).f1) && (((rd_T34 t155 1).f2) == ((rd_T34 y133 0).f2) && (((rd_T34 t155 1).f3) == ((rd_T34 y133 0).f3) && (((rd_T34 t155 1).f4) == ((rd_T34 y133 0).f4)))))) = true := by simpa using c72))
                              (try (have c72b2 : (((rd_T34 t155 1).f0) == ((rd_T34 y133 0).f0) && (((rd_T34 t155 1).f1) == ((rd_T34 y133 0).f1) && (((rd_T34 t155 1).f2) == ((rd_T34 y133 0).f2) && (((rd_T34 t155 1).f3) == ((rd_T34 y133 0).f3) && (((rd_T34 t155 1).f4) == ((rd_T34 y133 0).f4)))))) = true := by simpa using c72))
                              clear c72
                              have c73 : t156 = 0 := by simp only [et156.out]; first | done | decide
                              · rw [if_pos c73] at H
                                have c73b0 : (t156 == 0) = true := beq_iff_eq.mpr c73
                                have c73b1 : (t156 != 0) = false := bne_eq_false_iff_eq.mpr c73
                                clear c73
                                obtain rfl := Option.some.inj H
                                try go_wp2_with (first | ((with_reducible refine gate_callee (f := 19) rfl ?_); refine goesL_ (some 82) rfl rfl Try.func19 (by kernel_rfl) rfl #[.slice Ao6 y133.length co6, .int .i64 1] rfl sl_ ?_; (with_reducible refine (cluster_Prune.calls kj2 _ _ y133 1 t151 t152 _ ?side1 ?side2 A59.out).mono ?_); (case side1 => repeat (first | exact (Kd.R_reads' HO_1.out).2.2 | (with_reducible refine Kd.C_alloc ?_ _) | (with_reducible refine Kd.C_drewN ?_ _) | (with_reducible refine Kd.C_drew ?_))); (case side2 => exact (Kd.R_reads' HO_1.out).2.1); rintro e w74 ⟨v153, rfl, ho0, hb⟩; refine ⟨_, rfl, ?_⟩; have n0_ := Aside0.mk (Kd.R_elder' (by (with_reducible repeat (first | apply Kd.R_alloc | apply Kd.R_drewN | apply Kd.R_drew)); exact HO_1.out) (Kd.R_base ho0) hb); have n1_ := Aside0.mk (Kd.R_lower (Kd.R_new' ho0 (Kd.R_lt (by (with_reducible repeat (first | apply Kd.R_alloc | apply Kd.R_drewN | apply Kd.R_drew)); exact HO_1.out))) (below_size hb_)); have n2_ := Aside0.mk (below_step hb_ hb); clear HO_1; clear HB; have HO_1 := n0_; have HO154 := n1_; have HB := n2_; clear n0_ n1_ n2_; (try clear hb); (try clear hb2); (try clear hk); (try clear hi); (try clear ho0)) | ((with_reducible refine gate_callee (f := 19) rfl ?_); refine goesL_ (some 87) rfl rfl Try.func19 (by kernel_rfl) rfl #[.slice Ao6 y133.length co6, .int .i64 2] rfl sl_ ?_; (with_reducible refine (cluster_Prune.calls kj2 _ _ y133 2 t155 t156 _ ?side1 ?side2 A60.out).mono ?_); (case side1 => repeat (first | exact (Kd.R_reads' HO_1.out).2.2 | (with_reducible refine Kd.C_alloc ?_ _) | (with_reducible refine Kd.C_drewN ?_ _) | (with_reducible refine Kd.C_drew ?_))); (case side2 => exact (Kd.R_reads' HO_1.out).2.1); rintro e w75 ⟨v157, rfl, ho0, hb⟩; refine ⟨_, rfl, ?_⟩; have n0_ := Aside0.mk (Kd.R_elder' (by (with_reducible repeat (first | apply Kd.R_alloc | apply Kd.R_drewN | apply Kd.R_drew)); exact HO_1.out) (Kd.R_base ho0) hb); have n1_ := Aside0.mk (Kd.R_elder' (by (with_reducible repeat (first | apply Kd.R_alloc | apply Kd.R_drewN | apply Kd.R_drew)); exact HO154.out) (Kd.R_base ho0) hb); have n2_ := Aside0.mk (Kd.R_lower (Kd.R_new' (Kd.R_new' ho0 (Kd.R_lt (by (with_reducible repeat (first | apply Kd.R_alloc | apply Kd.R_drewN | apply Kd.R_drew)); exact HO_1.out))) (Kd.R_lt (by (with_reducible repeat (first | apply Kd.R_alloc | apply Kd.R_drewN | apply Kd.R_drew)); exact HO154.out))) (below_size hb_)); have n3_ := Aside0.mk (below_step hb_ hb); clear HO_1; clear HO154; clear HB; have HO_1 := n0_; have HO154 := n1_; have HO158 := n2_; have HB := n3_; clear n0_ n1_ n2_ n3_; (try clear hb); (try clear hb2); (try clear hk); (try clear hi); (try clear ho0)) | ((with_reducible refine gate_callee (f := 19) rfl ?_); refine goesL_ (some 92) rfl rfl Try.func19 (by kernel_rfl) rfl #[.slice Ao6 y133.length co6, .int .i64 0] rfl sl_ ?_; (with_reducible refine (cluster_Prune.calls kj2 _ _ y133 0 t159 t160 _ ?side1 ?side2 A61.out).mono ?_); (case side1 => repeat (first | exact (Kd.R_reads' HO_1.out).2.2 | (with_reducible refine Kd.C_alloc ?_ _) | (with_reducible refine Kd.C_drewN ?_ _) | (with_reducible refine Kd.C_drew ?_))); (case side2 => exact (Kd.R_reads' HO_1.out).2.1); rintro e w76 ⟨v161, rfl, ho0, hb⟩; refine ⟨_, rfl, ?_⟩; have n0_ := Aside0.mk (Kd.R_elder' (by (with_reducible repeat (first | apply Kd.R_alloc | apply Kd.R_drewN | apply Kd.R_drew)); exact HO_1.out) (Kd.R_base ho0) hb); have n1_ := Aside0.mk (Kd.R_elder' (by (with_reducible repeat (first | apply Kd.R_alloc | apply Kd.R_drewN | apply Kd.R_drew)); exact HO154.out) (Kd.R_base ho0) hb); have n2_ := Aside0.mk (Kd.R_elder' (by (with_reducible repeat (first | apply Kd.R_alloc | apply Kd.R_drewN | apply Kd.R_drew)); exact HO158.out) (Kd.R_base ho0) hb); have n3_ := Aside0.mk (Kd.R_lower (Kd.R_new' (Kd.R_new' (Kd.R_new' ho0 (Kd.R_lt (by (with_reducible repeat (first | apply Kd.R_alloc | apply Kd.R_drewN | apply Kd.R_drew)); exact HO_1.out))) (Kd.R_lt (by (with_reducible repeat (first | apply Kd.R_alloc | apply Kd.R_drewN | apply Kd.R_drew)); exact HO154.out))) (Kd.R_lt (by (with_reducible repeat (first | apply Kd.R_alloc | apply Kd.R_drewN | apply Kd.R_drew)); exact HO158.out))) (below_size hb_)); have n4_ := Aside0.mk (below_step hb_ hb); clear HO_1; clear HO154; clear HO158; clear HB; have HO_1 := n0_; have HO154 := n1_; have HO158 := n2_; have HO162 := n3_; have HB := n4_; clear n0_ n1_ n2_ n3_ n4_; (try clear hb); (try clear hb2); (try clear hk); (try clear hi); (try clear ho0)))
                                have n0_ := Aside0.mk (Kd.R_drew HO_1.out)
                                have n1_ := Aside0.mk (Kd.R_drew HO154.out)
                                have n2_ := Aside0.mk (Kd.R_drew HO158.out)
                                have n3_ := Aside0.mk (Kd.R_drew HO162.out)
                                have n4_ := Aside0.mk (below_drew1 HB.out)
                                clear HO_1
                                clear HO154
                                clear HO158
                                clear HO162
                                clear HB
                                have HO_1 := n0_
                                have HO154 := n1_
                                have HO158 := n2_
                                have HO162 := n3_
                                have HB := n4_
                                clear n0_ n1_ n2_ n3_ n4_
                                obtain ⟨Ao78, co78, eo78⟩ := Kd.R_slice HO154.out
                                (first | subst eo78 | (injection eo78 with f1_ f2_ f3_; have f4_ := f1_.symm; have f5_ := f3_.symm; clear f1_ f2_ f3_; subst f4_; subst f5_))
                                have p163 : 0 ≤ (0 : Int) := (by omega)
                                have q163 : 0 < (t151.length : Int) := of_decide_eq_true (by first | (with_reducible assumption) | assumption)
                                obtain ⟨ad163, e163, hx163_0, hx163_1, hx163_2, hx163_3, hx163_4⟩ := at_T34 (Kd.R_reads' HO154.out).2.2 0 p163 q163
                                cases e163
                                have qi163 : (0 < t151.length) = True := eq_true (by omega)
                                (try rw [show ((0 : Int)).toNat = 0 from rfl] at hx163_0)
                                (try rw [show 0 * 5 = 0 from rfl] at hx163_0)
                                (try rw [Addr.add_zero'] at hx163_0)
                                (try rw [show ((0 : Int)).toNat = 0 from rfl] at hx163_1)
                                (try rw [show 0 * 5 = 0 from rfl] at hx163_1)
                                (try rw [Addr.add_zero'] at hx163_1)
                                (try rw [show ((0 : Int)).toNat = 0 from rfl] at hx163_2)
                                (try rw [show 0 * 5 = 0 from rfl] at hx163_2)
                                (try rw [Addr.add_zero'] at hx163_2)
                                (try rw [show ((0 : Int)).toNat = 0 from rfl] at hx163_3)
                                (try rw [show 0 * 5 = 0 from rfl] at hx163_3)
                                (try rw [Addr.add_zero'] at hx163_3)
                                (try rw [show ((0 : Int)).toNat = 0 from rfl] at hx163_4)
                                (try rw [show 0 * 5 = 0 from rfl] at hx163_4)
                                (try rw [Addr.add_zero'] at hx163_4)
                                replace p163 := eq_true p163
                                replace q163 := eq_true q163
                                have p164 : 0 ≤ (1 : Int) := (by omega)
                                have q164 : 1 < (y133.length : Int) := of_decide_eq_true (by first | (with_reducible assumption) | assumption)
                                obtain ⟨ad164, e164, hx164_0, hx164_1, hx164_2, hx164_3, hx164_4⟩ := at_T34 (Kd.R_reads' HO_1.out).2.2 1 p164 q164
                                cases e164
                                (try simp only [show (1 : Int).toNat = 1 from rfl, Nat.reduceMul, Nat.reduceEqDiff, Go.Addr.add, ↓reduceIte] at hx164_0)
                                (try simp only [show (1 : Int).toNat = 1 from rfl, Nat.reduceMul, Nat.reduceEqDiff, Go.Addr.add, ↓reduceIte] at hx164_1)
                                (try simp only [show (1 : Int).toNat = 1 from rfl, Nat.reduceMul, Nat.reduceEqDiff, Go.Addr.add, ↓reduceIte] at hx164_2)
                                (try simp only [show (1 : Int).toNat = 1 from rfl, Nat.reduceMul, Nat.reduceEqDiff, Go.Addr.add, ↓reduceIte] at hx164_3)
                                (try simp only [show (1 : Int).toNat = 1 from rfl, Nat.reduceMul, Nat.reduceEqDiff, Go.Addr.add, ↓reduceIte] at hx164_4)
                                have qi164 : (1 < y133.length) = True := eq_true (by omega)
                                (try rw [show ((1 : Int)).toNat = 1 from rfl] at hx164_0)
                                (try rw [show 1 * 5 = 5 from rfl] at hx164_0)
                                (try rw [show ((1 : Int)).toNat = 1 from rfl] at hx164_1)
                                (try rw [show 1 * 5 = 5 from rfl] at hx164_1)
                                (try rw [show ((1 : Int)).toNat = 1 from rfl] at hx164_2)
                                (try rw [show 1 * 5 = 5 from rfl] at hx164_2)
                                (try rw [show ((1 : Int)).toNat = 1 from rfl] at hx164_3)
                                (try rw [show 1 * 5 = 5 from rfl] at hx164_3)
                                (try rw [show ((1 : Int)).toNat = 1 from rfl] at hx164_4)
                                (try rw [show 1 * 5 = 5 from rfl] at hx164_4)
                                replace p164 := eq_true p164
                                replace q164 := eq_true q164
                                obtain ⟨Ao79, co79, eo79⟩ := Kd.R_slice HO158.out
                                (first | subst eo79 | (injection eo79 with f1_ f2_ f3_; have f4_ := f1_.symm; have f5_ := f3_.symm; clear f1_ f2_ f3_; subst f4_; subst f5_))
                                have p165 : 0 ≤ (0 : Int) := (by omega)
                                have q165 : 0 < (t155.length : Int) := of_decide_eq_true (by first | (with_reducible assumption) | assumption)
                                obtain ⟨ad165, e165, hx165_0, hx165_1, hx165_2, hx165_3, hx165_4⟩ := at_T34 (Kd.R_reads' HO158.out).2.2 0 p165 q165
                                cases e165
                                have qi165 : (0 < t155.length) = True := eq_true (by omega)
                                (try rw [show ((0 : Int)).toNat = 0 from rfl] at hx165_0)
                                (try rw [show 0 * 5 = 0 from rfl] at hx165_0)
                                (try rw [Addr.add_zero'] at hx165_0)
                                (try rw [show ((0 : Int)).toNat = 0 from rfl] at hx165_1)
                                (try rw [show 0 * 5 = 0 from rfl] at hx165_1)
                                (try rw [Addr.add_zero'] at hx165_1)
                                (try rw [show ((0 : Int)).toNat = 0 from rfl] at hx165_2)
                                (try rw [show 0 * 5 = 0 from rfl] at hx165_2)
                                (try rw [Addr.add_zero'] at hx165_2)
                                (try rw [show ((0 : Int)).toNat = 0 from rfl] at hx165_3)
                                (try rw [show 0 * 5 = 0 from rfl] at hx165_3)
                                (try rw [Addr.add_zero'] at hx165_3)
                                (try rw [show ((0 : Int)).toNat = 0 from rfl] at hx165_4)
                                (try rw [show 0 * 5 = 0 from rfl] at hx165_4)
                                (try rw [Addr.add_zero'] at hx165_4)
                                replace p165 := eq_true p165
                                replace q165 := eq_true q165
                                have p166 : 0 ≤ (1 : Int) := (by omega)
                                have q166 : 1 < (y133.length : Int) := of_decide_eq_true (by first | (with_reducible assumption) | assumption)
                                obtain ⟨ad166, e166, hx166_0, hx166_1, hx166_2, hx166_3, hx166_4⟩ := at_T34 (Kd.R_reads' HO_1.out).2.2 1 p166 q166
                                obtain rfl : ad164 = ad166 := (by injection e166)
                                (try simp only [show (1 : Int).toNat = 1 from rfl, Nat.reduceMul, Nat.reduceEqDiff, Go.Addr.add, ↓reduceIte] at hx166_0)
                                (try simp only [show (1 : Int).toNat = 1 from rfl, Nat.reduceMul, Nat.reduceEqDiff, Go.Addr.add, ↓reduceIte] at hx166_1)
                                (try simp only [show (1 : Int).toNat = 1 from rfl, Nat.reduceMul, Nat.reduceEqDiff, Go.Addr.add, ↓reduceIte] at hx166_2)
                                (try simp only [show (1 : Int).toNat = 1 from rfl, Nat.reduceMul, Nat.reduceEqDiff, Go.Addr.add, ↓reduceIte] at hx166_3)
                                (try simp only [show (1 : Int).toNat = 1 from rfl, Nat.reduceMul, Nat.reduceEqDiff, Go.Addr.add, ↓reduceIte] at hx166_4)
                                have qi166 : (1 < y133.length) = True := eq_true (by omega)
                                (try rw [show ((1 : Int)).toNat = 1 from rfl] at hx166_0)
                                (try rw [show 1 * 5 = 5 from rfl] at hx166_0)
                                (try rw [show ((1 : Int)).toNat = 1 from rfl] at hx166_1)
                                (try rw [show 1 * 5 = 5 from rfl] at hx166_1)
                                (try rw [show ((1 : Int)).toNat = 1 from rfl] at hx166_2)
                                (try rw [show 1 * 5 = 5 from rfl] at hx166_2)
                                (try rw [show ((1 : Int)).toNat = 1 from rfl] at hx166_3)
                                (try rw [show 1 * 5 = 5 from rfl] at hx166_3)
                                (try rw [show ((1 : Int)).toNat = 1 from rfl] at hx166_4)
                                (try rw [show 1 * 5 = 5 from rfl] at hx166_4)
                                replace p166 := eq_true p166
                                replace q166 := eq_true q166
                                have p167 : 0 ≤ (1 : Int) := (by omega)
                                have q167 : 1 < (t155.length : Int) := of_decide_eq_true (by first | (with_reducible assumption) | assumption)
                                obtain ⟨ad167, e167, hx167_0, hx167_1, hx167_2, hx167_3, hx167_4⟩ := at_T34 (Kd.R_reads' HO158.out).2.2 1 p167 q167
                                obtain rfl : ad165 = ad167 := (by injection e167)
                                (try simp only [show (1 : Int).toNat = 1 from rfl, Nat.reduceMul, Nat.reduceEqDiff, Go.Addr.add, ↓reduceIte] at hx167_0)
                                (try simp only [show (1 : Int).toNat = 1 from rfl, Nat.reduceMul, Nat.reduceEqDiff, Go.Addr.add, ↓reduceIte] at hx167_1)
                                (try simp only [show (1 : Int).toNat = 1 from rfl, Nat.reduceMul, Nat.reduceEqDiff, Go.Addr.add, ↓reduceIte] at hx167_2)
                                (try simp only [show (1 : Int).toNat = 1 from rfl, Nat.reduceMul, Nat.reduceEqDiff, Go.Addr.add, ↓reduceIte] at hx167_3)
                                (try simp only [show (1 : Int).toNat = 1 from rfl, Nat.reduceMul, Nat.reduceEqDiff, Go.Addr.add, ↓reduceIte] at hx167_4)
                                have qi167 : (1 < t155.length) = True := eq_true (by omega)
                                (try rw [show ((1 : Int)).toNat = 1 from rfl] at hx167_0)
                                (try rw [show 1 * 5 = 5 from rfl] at hx167_0)
                                (try rw [show ((1 : Int)).toNat = 1 from rfl] at hx167_1)
                                (try rw [show 1 * 5 = 5 from rfl] at hx167_1)
                                (try rw [show ((1 : Int)).toNat = 1 from rfl] at hx167_2)
                                (try rw [show 1 * 5 = 5 from rfl] at hx167_2)
                                (try rw [show ((1 : Int)).toNat = 1 from rfl] at hx167_3)
                                (try rw [show 1 * 5 = 5 from rfl] at hx167_3)
                                (try rw [show ((1 : Int)).toNat = 1 from rfl] at hx167_4)
                                (try rw [show 1 * 5 = 5 from rfl] at hx167_4)
                                replace p167 := eq_true p167
                                replace q167 := eq_true q167
                                have p168 : 0 ≤ (0 : Int) := (by omega)
                                have q168 : 0 < (y133.length : Int) := of_decide_eq_true (by first | (with_reducible assumption) | assumption)
                                obtain ⟨ad168, e168, hx168_0, hx168_1, hx168_2, hx168_3, hx168_4⟩ := at_T34 (Kd.R_reads' HO_1.out).2.2 0 p168 q168
                                obtain rfl : ad164 = ad168 := (by injection e168)
                                have qi168 : (0 < y133.length) = True := eq_true (by omega)
                                (try rw [show ((0 : Int)).toNat = 0 from rfl] at hx168_0)
                                (try rw [show 0 * 5 = 0 from rfl] at hx168_0)
                                (try rw [Addr.add_zero'] at hx168_0)
                                (try rw [show ((0 : Int)).toNat = 0 from rfl] at hx168_1)
                                (try rw [show 0 * 5 = 0 from rfl] at hx168_1)
                                (try rw [Addr.add_zero'] at hx168_1)
                                (try rw [show ((0 : Int)).toNat = 0 from rfl] at hx168_2)
                                (try rw [show 0 * 5 = 0 from rfl] at hx168_2)
                                (try rw [Addr.add_zero'] at hx168_2)
                                (try rw [show ((0 : Int)).toNat = 0 from rfl] at hx168_3)
                                (try rw [show 0 * 5 = 0 from rfl] at hx168_3)
                                (try rw [Addr.add_zero'] at hx168_3)
                                (try rw [show ((0 : Int)).toNat = 0 from rfl] at hx168_4)
                                (try rw [show 0 * 5 = 0 from rfl] at hx168_4)
                                (try rw [Addr.add_zero'] at hx168_4)
                                replace p168 := eq_true p168
                                replace q168 := eq_true q168
                                refine start_ (n := 48) (S := fun w' => w'.cell? ad163 = some (.int .i64 ((rd_T34 t151 0).f0)) ∧ w'.cell? ⟨ad163.block, ad163.off + 1, none⟩ = some (.int .i64 ((rd_T34 t151 0).f1)) ∧ w'.cell? ⟨ad163.block, ad163.off + 2, none⟩ = some (.int .i64 ((rd_T34 t151 0).f2)) ∧ w'.cell? ⟨ad163.block, ad163.off + 3, none⟩ = some (.int .i64 ((rd_T34 t151 0).f3)) ∧ w'.cell? ⟨ad163.block, ad163.off + 4, none⟩ = some (.int .i64 ((rd_T34 t151 0).f4)) ∧ w'.cell? ⟨ad164.block, ad164.off + 5, none⟩ = some (.int .i64 ((rd_T34 y133 1).f0)) ∧ w'.cell? ⟨ad164.block, ad164.off + 5 + 1, none⟩ = some (.int .i64 ((rd_T34 y133 1).f1)) ∧ w'.cell? ⟨ad164.block, ad164.off + 5 + 2, none⟩ = some (.int .i64 ((rd_T34 y133 1).f2)) ∧ w'.cell? ⟨ad164.block, ad164.off + 5 + 3, none⟩ = some (.int .i64 ((rd_T34 y133 1).f3)) ∧ w'.cell? ⟨ad164.block, ad164.off + 5 + 4, none⟩ = some (.int .i64 ((rd_T34 y133 1).f4)) ∧ w'.cell? ad165 = some (.int .i64 ((rd_T34 t155 0).f0)) ∧ w'.cell? ⟨ad165.block, ad165.off + 1, none⟩ = some (.int .i64 ((rd_T34 t155 0).f1)) ∧ w'.cell? ⟨ad165.block, ad165.off + 2, none⟩ = some (.int .i64 ((rd_T34 t155 0).f2)) ∧ w'.cell? ⟨ad165.block, ad165.off + 3, none⟩ = some (.int .i64 ((rd_T34 t155 0).f3)) ∧ w'.cell? ⟨ad165.block, ad165.off + 4, none⟩ = some (.int .i64 ((rd_T34 t155 0).f4)) ∧ w'.cell? ⟨ad164.block, ad164.off + 5, none⟩ = some (.int .i64 ((rd_T34 y133 1).f0)) ∧ w'.cell? ⟨ad164.block, ad164.off + 5 + 1, none⟩ = some (.int .i64 ((rd_T34 y133 1).f1)) ∧ w'.cell? ⟨ad164.block, ad164.off + 5 + 2, none⟩ = some (.int .i64 ((rd_T34 y133 1).f2)) ∧ w'.cell? ⟨ad164.block, ad164.off + 5 + 3, none⟩ = some (.int .i64 ((rd_T34 y133 1).f3)) ∧ w'.cell? ⟨ad164.block, ad164.off + 5 + 4, none⟩ = some (.int .i64 ((rd_T34 y133 1).f4)) ∧ w'.cell? ⟨ad165.block, ad165.off + 5, none⟩ = some (.int .i64 ((rd_T34 t155 1).f0)) ∧ w'.cell? ⟨ad165.block, ad165.off + 5 + 1, none⟩ = some (.int .i64 ((rd_T34 t155 1).f1)) ∧ w'.cell? ⟨ad165.block, ad165.off + 5 + 2, none⟩ = some (.int .i64 ((rd_T34 t155 1).f2)) ∧ w'.cell? ⟨ad165.block, ad165.off + 5 + 3, none⟩ = some (.int .i64 ((rd_T34 t155 1).f3)) ∧ w'.cell? ⟨ad165.block, ad165.off + 5 + 4, none⟩ = some (.int .i64 ((rd_T34 t155 1).f4)) ∧ w'.cell? ad164 = some (.int .i64 ((rd_T34 y133 0).f0)) ∧ w'.cell? ⟨ad164.block, ad164.off + 1, none⟩ = some (.int .i64 ((rd_T34 y133 0).f1)) ∧ w'.cell? ⟨ad164.block, ad164.off + 2, none⟩ = some (.int .i64 ((rd_T34 y133 0).f2)) ∧ w'.cell? ⟨ad164.block, ad164.off + 3, none⟩ = some (.int .i64 ((rd_T34 y133 0).f3)) ∧ w'.cell? ⟨ad164.block, ad164.off + 4, none⟩ = some (.int .i64 ((rd_T34 y133 0).f4))) (ds := []) b9_65 (by kernel_rfl) rfl rfl ⟨hx163_0, hx163_1, hx163_2, hx163_3, hx163_4, hx164_0, hx164_1, hx164_2, hx164_3, hx164_4, hx165_0, hx165_1, hx165_2, hx165_3, hx165_4, hx166_0, hx166_1, hx166_2, hx166_3, hx166_4, hx167_0, hx167_1, hx167_2, hx167_3, hx167_4, hx168_0, hx168_1, hx168_2, hx168_3, hx168_4⟩ (fun hHeld => ?_); refine with_tabW timesynclaw25_awake.tab9 timesynclaw25_awake.bits9 (fun HT_ HW_ => ?_)
                                generalize w76.drew = w77 at HO_1 HO154 HO158 HO162 HB hx163_0 hx163_1 hx163_2 hx163_3 hx163_4 hx164_0 hx164_1 hx164_2 hx164_3 hx164_4 hx165_0 hx165_1 hx165_2 hx165_3 hx165_4 hx166_0 hx166_1 hx166_2 hx166_3 hx166_4 hx167_0 hx167_1 hx167_2 hx167_3 hx167_4 hx168_0 hx168_1 hx168_2 hx168_3 hx168_4 hHeld ⊢
                                refine pure_ (i := 0) (N := some 95) (v := ?_) (a' := ?_) b9_66 rfl rfl (any_of HT_.out (by kernel_rfl)) (fun _ _ _ h => h) (Or.inl ⟨by rfl, ?_⟩) ?_ ?_
                                rotate_left
                                · intro w'
                                  go_simp
                                  with_reducible rfl
                                rotate_left
                                · simp only [Act.put, z1, z2, z3, i64_w, i32_w]
                                  rfl
                                refine pure_ (i := 1) (N := some 96) (v := ?_) (a' := ?_) b9_67 rfl rfl (any_of HT_.out (by kernel_rfl)) (fun _ _ _ h => h) (Or.inl ⟨by rfl, ?_⟩) ?_ ?_
                                rotate_left
                                · intro w'
                                  go_simp
                                  with_reducible rfl
                                rotate_left
                                · simp only [Act.put, z1, z2, z3, i64_w, i32_w]
                                  rfl
                                refine pure_ (i := 2) (N := some 97) (v := ?_) (a' := ?_) b9_68 rfl rfl (any_of HT_.out (by kernel_rfl)) (fun _ _ _ h => h) (Or.inl ⟨by rfl, ?_⟩) ?_ ?_
                                rotate_left
                                · intro w'
                                  go_simp
                                  with_reducible rfl
                                rotate_left
                                · simp only [Act.put, z1, z2, z3, i64_w, i32_w]
                                  rfl
                                refine pure_ (i := 3) (N := some 98) (v := ?_) (a' := ?_) b9_69 rfl rfl (any_of HT_.out (by kernel_rfl)) (fun _ _ _ h => h) (Or.inl ⟨by rfl, ?_⟩) ?_ ?_
                                rotate_left
                                · intro w'
                                  go_simp
                                  with_reducible rfl
                                rotate_left
                                · simp only [Act.put, z1, z2, z3, i64_w, i32_w]
                                  rfl
                                refine pure_ (i := 4) (N := some 99) (v := ?_) (a' := ?_) b9_70 rfl rfl (any_of HT_.out (by kernel_rfl)) (fun _ _ _ h => h) (Or.inl ⟨by rfl, ?_⟩) ?_ ?_
                                rotate_left
                                · intro w'
                                  go_simp
                                  with_reducible rfl
                                rotate_left
                                · simp only [Act.put, z1, z2, z3, i64_w, i32_w]
                                  rfl
                                refine pure_ (i := 5) (N := some 100) (v := ?_) (a' := ?_) b9_71 rfl rfl (any_of HT_.out (by kernel_rfl)) (fun _ _ _ h => h) (Or.inl ⟨by rfl, ?_⟩) ?_ ?_
                                rotate_left
                                · intro w'
                                  go_simp
                                  with_reducible rfl
                                rotate_left
                                · simp only [Act.put, z1, z2, z3, i64_w, i32_w]
                                  rfl
                                refine pure_ (i := 7) (N := some 102) (v := ?_) (a' := ?_) b9_72 rfl rfl (any_of HT_.out (by kernel_rfl)) (fun _ _ _ h => h) (Or.inl ⟨by rfl, ?_⟩) ?_ ?_
                                rotate_left
                                · intro w'
                                  go_simp
                                  with_reducible rfl
                                rotate_left
                                · simp only [Act.put, z1, z2, z3, i64_w, i32_w]
                                  rfl
                                refine pure_ (i := 8) (N := some 103) (v := ?_) (a' := ?_) b9_73 rfl rfl (any_of HT_.out (by kernel_rfl)) (fun _ _ _ h => h) (Or.inl ⟨by rfl, ?_⟩) ?_ ?_
                                rotate_left
                                · intro w'
                                  go_simp
                                  with_reducible rfl
                                rotate_left
                                · simp only [Act.put, z1, z2, z3, i64_w, i32_w]
                                  rfl
                                refine take_ (i := 6) (N := some 101) (v := ?_) (a' := ?_) b9_74 rfl rfl (take_ofW HT_.out HW_.out (by kernel_rfl)) (fun _ _ _ h => h) (Or.inl ⟨by rfl, ?_⟩) hHeld ?_ ?_
                                rotate_left
                                · rintro w' ⟨s0, s1, s2, s3, s4, s5, s6, s7, s8, s9, s10, s11, s12, s13, s14, s15, s16, s17, s18, s19, s20, s21, s22, s23, s24, s25, s26, s27, s28, s29⟩
                                  go_simp
                                  with_reducible rfl
                                rotate_left
                                · simp only [Act.put, z1, z2, z3, i64_w, i32_w]
                                  rfl
                                refine take_ (i := 9) (N := some 104) (v := ?_) (a' := ?_) b9_75 rfl rfl (take_ofW HT_.out HW_.out (by kernel_rfl)) (fun _ _ _ h => h) (Or.inl ⟨by rfl, ?_⟩) hHeld ?_ ?_
                                rotate_left
                                · rintro w' ⟨s0, s1, s2, s3, s4, s5, s6, s7, s8, s9, s10, s11, s12, s13, s14, s15, s16, s17, s18, s19, s20, s21, s22, s23, s24, s25, s26, s27, s28, s29⟩
                                  go_simp
                                  with_reducible rfl
                                rotate_left
                                · simp only [Act.put, z1, z2, z3, i64_w, i32_w]
                                  rfl
                                refine pure_ (i := 10) (N := some 105) (v := ?_) (a' := ?_) b9_76 rfl rfl (any_of HT_.out (by kernel_rfl)) (fun _ _ _ h => h) (Or.inl ⟨by rfl, ?_⟩) ?_ ?_
                                rotate_left
                                · intro w'
                                  go_simp
                                  with_reducible rfl
                                rotate_left
                                · simp only [Act.put, z1, z2, z3, i64_w, i32_w]
                                  rfl
                                refine pure_ (i := 11) (N := some 106) (v := ?_) (a' := ?_) b9_77 rfl rfl (any_of HT_.out (by kernel_rfl)) (fun _ _ _ h => h) (Or.inl ⟨by rfl, ?_⟩) ?_ ?_
                                rotate_left
                                · intro w'
                                  go_simp
                                  with_reducible rfl
                                rotate_left
                                · simp only [Act.put, z1, z2, z3, i64_w, i32_w]
                                  rfl
                                refine pure_ (i := 12) (N := some 107) (v := ?_) (a' := ?_) b9_78 rfl rfl (any_of HT_.out (by kernel_rfl)) (fun _ _ _ h => h) (Or.inl ⟨by rfl, ?_⟩) ?_ ?_
                                rotate_left
                                · intro w'
                                  go_simp
                                  with_reducible rfl
                                rotate_left
                                · simp only [Act.put, z1, z2, z3, i64_w, i32_w]
                                  rfl
                                refine pure_ (i := 13) (N := some 108) (v := ?_) (a' := ?_) b9_79 rfl rfl (any_of HT_.out (by kernel_rfl)) (fun _ _ _ h => h) (Or.inl ⟨by rfl, ?_⟩) ?_ ?_
                                rotate_left
                                · intro w'
                                  go_simp
                                  with_reducible rfl
                                rotate_left
                                · simp only [Act.put, z1, z2, z3, i64_w, i32_w]
                                  rfl
                                refine pure_ (i := 14) (N := some 109) (v := ?_) (a' := ?_) b9_80 rfl rfl (any_of HT_.out (by kernel_rfl)) (fun _ _ _ h => h) (Or.inl ⟨by rfl, ?_⟩) ?_ ?_
                                rotate_left
                                · intro w'
                                  go_simp
                                  with_reducible rfl
                                rotate_left
                                · simp only [Act.put, z1, z2, z3, i64_w, i32_w]
                                  rfl
                                refine pure_ (i := 15) (N := some 110) (v := ?_) (a' := ?_) b9_81 rfl rfl (any_of HT_.out (by kernel_rfl)) (fun _ _ _ h => h) (Or.inl ⟨by rfl, ?_⟩) ?_ ?_
                                rotate_left
                                · intro w'
                                  go_simp
                                  with_reducible rfl
                                rotate_left
                                · simp only [Act.put, z1, z2, z3, i64_w, i32_w]
                                  rfl
                                refine pure_ (i := 16) (N := some 111) (v := ?_) (a' := ?_) b9_82 rfl rfl (any_of HT_.out (by kernel_rfl)) (fun _ _ _ h => h) (Or.inl ⟨by rfl, ?_⟩) ?_ ?_
                                rotate_left
                                · intro w'
                                  go_simp
                                  with_reducible rfl
                                rotate_left
                                · simp only [Act.put, z1, z2, z3, i64_w, i32_w]
                                  rfl
                                refine pure_ (i := 17) (N := some 112) (v := ?_) (a' := ?_) b9_83 rfl rfl (any_of HT_.out (by kernel_rfl)) (fun _ _ _ h => h) (Or.inl ⟨by rfl, ?_⟩) ?_ ?_
                                rotate_left
                                · intro w'
                                  go_simp
                                  with_reducible rfl
                                rotate_left
                                · simp only [Act.put, z1, z2, z3, i64_w, i32_w]
                                  rfl
                                refine pure_ (i := 18) (N := some 113) (v := ?_) (a' := ?_) b9_84 rfl rfl (any_of HT_.out (by kernel_rfl)) (fun _ _ _ h => h) (Or.inl ⟨by rfl, ?_⟩) ?_ ?_
                                rotate_left
                                · intro w'
                                  go_simp
                                  with_reducible rfl
                                rotate_left
                                · simp only [Act.put, z1, z2, z3, i64_w, i32_w]
                                  rfl
                                refine pure_ (i := 19) (N := some 114) (v := ?_) (a' := ?_) b9_85 rfl rfl (any_of HT_.out (by kernel_rfl)) (fun _ _ _ h => h) (Or.inl ⟨by rfl, ?_⟩) ?_ ?_
                                rotate_left
                                · intro w'
                                  go_simp
                                  with_reducible rfl
                                rotate_left
                                · simp only [Act.put, z1, z2, z3, i64_w, i32_w]
                                  rfl
                                refine pure_ (i := 20) (N := some 115) (v := ?_) (a' := ?_) b9_86 rfl rfl (any_of HT_.out (by kernel_rfl)) (fun _ _ _ h => h) (Or.inl ⟨by rfl, ?_⟩) ?_ ?_
                                rotate_left
                                · intro w'
                                  go_simp
                                  with_reducible rfl
                                rotate_left
                                · simp only [Act.put, z1, z2, z3, i64_w, i32_w]
                                  rfl
                                refine pure_ (i := 21) (N := some 116) (v := ?_) (a' := ?_) b9_87 rfl rfl (any_of HT_.out (by kernel_rfl)) (fun _ _ _ h => h) (Or.inl ⟨by rfl, ?_⟩) ?_ ?_
                                rotate_left
                                · intro w'
                                  go_simp
                                  with_reducible rfl
                                rotate_left
                                · simp only [Act.put, z1, z2, z3, i64_w, i32_w]
                                  rfl
                                refine pure_ (i := 22) (N := some 117) (v := ?_) (a' := ?_) b9_88 rfl rfl (any_of HT_.out (by kernel_rfl)) (fun _ _ _ h => h) (Or.inl ⟨by rfl, ?_⟩) ?_ ?_
                                rotate_left
                                · intro w'
                                  go_simp
                                  with_reducible rfl
                                rotate_left
                                · simp only [Act.put, z1, z2, z3, i64_w, i32_w]
                                  rfl
                                refine pure_ (i := 23) (N := some 118) (v := ?_) (a' := ?_) b9_89 rfl rfl (any_of HT_.out (by kernel_rfl)) (fun _ _ _ h => h) (Or.inl ⟨by rfl, ?_⟩) ?_ ?_
                                rotate_left
                                · intro w'
                                  go_simp
                                  with_reducible rfl
                                rotate_left
                                · simp only [Act.put, z1, z2, z3, i64_w, i32_w]
                                  rfl
                                refine pure_ (i := 25) (N := some 120) (v := ?_) (a' := ?_) b9_90 rfl rfl (any_of HT_.out (by kernel_rfl)) (fun _ _ _ h => h) (Or.inl ⟨by rfl, ?_⟩) ?_ ?_
                                rotate_left
                                · intro w'
                                  go_simp
                                  with_reducible rfl
                                rotate_left
                                · simp only [Act.put, z1, z2, z3, i64_w, i32_w]
                                  rfl
                                refine pure_ (i := 26) (N := some 121) (v := ?_) (a' := ?_) b9_91 rfl rfl (any_of HT_.out (by kernel_rfl)) (fun _ _ _ h => h) (Or.inl ⟨by rfl, ?_⟩) ?_ ?_
                                rotate_left
                                · intro w'
                                  go_simp
                                  with_reducible rfl
                                rotate_left
                                · simp only [Act.put, z1, z2, z3, i64_w, i32_w]
                                  rfl
                                refine take_ (i := 24) (N := some 119) (v := ?_) (a' := ?_) b9_92 rfl rfl (take_ofW HT_.out HW_.out (by kernel_rfl)) (fun _ _ _ h => h) (Or.inl ⟨by rfl, ?_⟩) hHeld ?_ ?_
                                rotate_left
                                · rintro w' ⟨s0, s1, s2, s3, s4, s5, s6, s7, s8, s9, s10, s11, s12, s13, s14, s15, s16, s17, s18, s19, s20, s21, s22, s23, s24, s25, s26, s27, s28, s29⟩
                                  go_simp
                                  with_reducible rfl
                                rotate_left
                                · simp only [Act.put, z1, z2, z3, i64_w, i32_w]
                                  rfl
                                refine take_ (i := 27) (N := some 122) (v := ?_) (a' := ?_) b9_93 rfl rfl (take_ofW HT_.out HW_.out (by kernel_rfl)) (fun _ _ _ h => h) (Or.inl ⟨by rfl, ?_⟩) hHeld ?_ ?_
                                rotate_left
                                · rintro w' ⟨s0, s1, s2, s3, s4, s5, s6, s7, s8, s9, s10, s11, s12, s13, s14, s15, s16, s17, s18, s19, s20, s21, s22, s23, s24, s25, s26, s27, s28, s29⟩
                                  go_simp
                                  with_reducible rfl
                                rotate_left
                                · simp only [Act.put, z1, z2, z3, i64_w, i32_w]
                                  rfl
                                refine pure_ (i := 28) (N := some 123) (v := ?_) (a' := ?_) b9_94 rfl rfl (any_of HT_.out (by kernel_rfl)) (fun _ _ _ h => h) (Or.inl ⟨by rfl, ?_⟩) ?_ ?_
                                rotate_left
                                · intro w'
                                  go_simp
                                  with_reducible rfl
                                rotate_left
                                · simp only [Act.put, z1, z2, z3, i64_w, i32_w]
                                  rfl
                                refine pure_ (i := 29) (N := some 124) (v := ?_) (a' := ?_) b9_95 rfl rfl (any_of HT_.out (by kernel_rfl)) (fun _ _ _ h => h) (Or.inl ⟨by rfl, ?_⟩) ?_ ?_
                                rotate_left
                                · intro w'
                                  go_simp
                                  with_reducible rfl
                                rotate_left
                                · simp only [Act.put, z1, z2, z3, i64_w, i32_w]
                                  rfl
                                refine pure_ (i := 30) (N := some 125) (v := ?_) (a' := ?_) b9_96 rfl rfl (any_of HT_.out (by kernel_rfl)) (fun _ _ _ h => h) (Or.inl ⟨by rfl, ?_⟩) ?_ ?_
                                rotate_left
                                · intro w'
                                  go_simp
                                  with_reducible rfl
                                rotate_left
                                · simp only [Act.put, z1, z2, z3, i64_w, i32_w]
                                  rfl
                                refine pure_ (i := 31) (N := some 126) (v := ?_) (a' := ?_) b9_97 rfl rfl (any_of HT_.out (by kernel_rfl)) (fun _ _ _ h => h) (Or.inl ⟨by rfl, ?_⟩) ?_ ?_
                                rotate_left
                                · intro w'
                                  go_simp
                                  with_reducible rfl
                                rotate_left
                                · simp only [Act.put, z1, z2, z3, i64_w, i32_w]
                                  rfl
                                refine pure_ (i := 32) (N := some 127) (v := ?_) (a' := ?_) b9_98 rfl rfl (any_of HT_.out (by kernel_rfl)) (fun _ _ _ h => h) (Or.inl ⟨by rfl, ?_⟩) ?_ ?_
                                rotate_left
                                · intro w'
                                  go_simp
                                  with_reducible rfl
                                rotate_left
                                · simp only [Act.put, z1, z2, z3, i64_w, i32_w]
                                  rfl
                                refine pure_ (i := 34) (N := some 129) (v := ?_) (a' := ?_) b9_99 rfl rfl (any_of HT_.out (by kernel_rfl)) (fun _ _ _ h => h) (Or.inl ⟨by rfl, ?_⟩) ?_ ?_
                                rotate_left
                                · intro w'
                                  go_simp
                                  with_reducible rfl
                                rotate_left
                                · simp only [Act.put, z1, z2, z3, i64_w, i32_w]
                                  rfl
                                refine pure_ (i := 35) (N := some 130) (v := ?_) (a' := ?_) b9_100 rfl rfl (any_of HT_.out (by kernel_rfl)) (fun _ _ _ h => h) (Or.inl ⟨by rfl, ?_⟩) ?_ ?_
                                rotate_left
                                · intro w'
                                  go_simp
                                  with_reducible rfl
                                rotate_left
                                · simp only [Act.put, z1, z2, z3, i64_w, i32_w]
                                  rfl
                                refine take_ (i := 33) (N := some 128) (v := ?_) (a' := ?_) b9_101 rfl rfl (take_ofW HT_.out HW_.out (by kernel_rfl)) (fun _ _ _ h => h) (Or.inl ⟨by rfl, ?_⟩) hHeld ?_ ?_
                                rotate_left
                                · rintro w' ⟨s0, s1, s2, s3, s4, s5, s6, s7, s8, s9, s10, s11, s12, s13, s14, s15, s16, s17, s18, s19, s20, s21, s22, s23, s24, s25, s26, s27, s28, s29⟩
                                  go_simp
                                  with_reducible rfl
                                rotate_left
                                · simp only [Act.put, z1, z2, z3, i64_w, i32_w]
                                  rfl
                                refine take_ (i := 36) (N := some 131) (v := ?_) (a' := ?_) b9_102 rfl rfl (take_ofW HT_.out HW_.out (by kernel_rfl)) (fun _ _ _ h => h) (Or.inl ⟨by rfl, ?_⟩) hHeld ?_ ?_
                                rotate_left
                                · rintro w' ⟨s0, s1, s2, s3, s4, s5, s6, s7, s8, s9, s10, s11, s12, s13, s14, s15, s16, s17, s18, s19, s20, s21, s22, s23, s24, s25, s26, s27, s28, s29⟩
                                  go_simp
                                  with_reducible rfl
                                rotate_left
                                · simp only [Act.put, z1, z2, z3, i64_w, i32_w]
                                  rfl
                                refine pure_ (i := 37) (N := some 132) (v := ?_) (a' := ?_) b9_103 rfl rfl (any_of HT_.out (by kernel_rfl)) (fun _ _ _ h => h) (Or.inl ⟨by rfl, ?_⟩) ?_ ?_
                                rotate_left
                                · intro w'
                                  go_simp
                                  with_reducible rfl
                                rotate_left
                                · simp only [Act.put, z1, z2, z3, i64_w, i32_w]
                                  rfl
                                refine pure_ (i := 38) (N := some 133) (v := ?_) (a' := ?_) b9_104 rfl rfl (any_of HT_.out (by kernel_rfl)) (fun _ _ _ h => h) (Or.inl ⟨by rfl, ?_⟩) ?_ ?_
                                rotate_left
                                · intro w'
                                  go_simp
                                  with_reducible rfl
                                rotate_left
                                · simp only [Act.put, z1, z2, z3, i64_w, i32_w]
                                  rfl
                                refine pure_ (i := 39) (N := some 134) (v := ?_) (a' := ?_) b9_105 rfl rfl (any_of HT_.out (by kernel_rfl)) (fun _ _ _ h => h) (Or.inl ⟨by rfl, ?_⟩) ?_ ?_
                                rotate_left
                                · intro w'
                                  go_simp
                                  with_reducible rfl
                                rotate_left
                                · simp only [Act.put, z1, z2, z3, i64_w, i32_w]
                                  rfl
                                refine pure_ (i := 40) (N := some 135) (v := ?_) (a' := ?_) b9_106 rfl rfl (any_of HT_.out (by kernel_rfl)) (fun _ _ _ h => h) (Or.inl ⟨by rfl, ?_⟩) ?_ ?_
                                rotate_left
                                · intro w'
                                  go_simp
                                  with_reducible rfl
                                rotate_left
                                · simp only [Act.put, z1, z2, z3, i64_w, i32_w]
                                  rfl
                                refine pure_ (i := 41) (N := some 136) (v := ?_) (a' := ?_) b9_107 rfl rfl (any_of HT_.out (by kernel_rfl)) (fun _ _ _ h => h) (Or.inl ⟨by rfl, ?_⟩) ?_ ?_
                                rotate_left
                                · intro w'
                                  go_simp
                                  with_reducible rfl
                                rotate_left
                                · simp only [Act.put, z1, z2, z3, i64_w, i32_w]
                                  rfl
                                refine pure_ (i := 42) (N := some 137) (v := ?_) (a' := ?_) b9_108 rfl rfl (any_of HT_.out (by kernel_rfl)) (fun _ _ _ h => h) (Or.inl ⟨by rfl, ?_⟩) ?_ ?_
                                rotate_left
                                · intro w'
                                  go_simp
                                  with_reducible rfl
                                rotate_left
                                · simp only [Act.put, z1, z2, z3, i64_w, i32_w]
                                  rfl
                                refine pure_ (i := 43) (N := some 138) (v := ?_) (a' := ?_) b9_109 rfl rfl (any_of HT_.out (by kernel_rfl)) (fun _ _ _ h => h) (Or.inl ⟨by rfl, ?_⟩) ?_ ?_
                                rotate_left
                                · intro w'
                                  go_simp
                                  with_reducible rfl
                                rotate_left
                                · simp only [Act.put, z1, z2, z3, i64_w, i32_w]
                                  rfl
                                refine pure_ (i := 44) (N := some 139) (v := ?_) (a' := ?_) b9_110 rfl rfl (any_of HT_.out (by kernel_rfl)) (fun _ _ _ h => h) (Or.inl ⟨by rfl, ?_⟩) ?_ ?_
                                rotate_left
                                · intro w'
                                  go_simp
                                  with_reducible rfl
                                rotate_left
                                · simp only [Act.put, z1, z2, z3, i64_w, i32_w]
                                  rfl
                                refine pure_ (i := 45) (N := some 140) (v := ?_) (a' := ?_) b9_111 rfl rfl (any_of HT_.out (by kernel_rfl)) (fun _ _ _ h => h) (Or.inl ⟨by rfl, ?_⟩) ?_ ?_
                                rotate_left
                                · intro w'
                                  go_simp
                                  with_reducible rfl
                                rotate_left
                                · simp only [Act.put, z1, z2, z3, i64_w, i32_w]
                                  rfl
                                refine pure_ (i := 46) (N := some 141) (v := ?_) (a' := ?_) b9_112 rfl rfl (any_of HT_.out (by kernel_rfl)) (fun _ _ _ h => h) (Or.inl ⟨by rfl, ?_⟩) ?_ ?_
                                rotate_left
                                · intro w'
                                  go_simp
                                  with_reducible rfl
                                rotate_left
                                · simp only [Act.put, z1, z2, z3, i64_w, i32_w]
                                  rfl
                                refine pure_ (i := 47) (N := some 0) (v := ?_) (a' := ?_) b9_113 rfl rfl (any_of HT_.out (by kernel_rfl)) (fun _ _ _ h => h) (Or.inl ⟨by rfl, ?_⟩) ?_ ?_
                                rotate_left
                                · intro w'
                                  go_simp
                                  with_reducible rfl
                                rotate_left
                                · simp only [Act.put, z1, z2, z3, i64_w, i32_w]
                                  rfl
                                refine done_ (done_of HT_.out (by kernel_rfl)) ?_
                                try go_wp2
                                go_ret
                                exact ⟨by first | rfl | (simp [errW_none, errW_some] <;> rfl) | (simp [*, errW_none, errW_some] <;> rfl), hb_⟩
theorem timesynclaw25_awake.calls (k : Nat) (r : Bool) (w : World) (h : timesynclaw25_awake.f k = some r) : Calls Try.prog 9 #[] w fun e w' => e = .returned (.bool r) ∧ Below w.heap.size w w' :=
  timesynclaw25_awake.goes k r w ⟨agree (fun k_ => timesynclaw25_awake.mono k_) h aw_all⟩ h
end Go.Proofs.Ytbcmfmlbagjdoaa.PAll
